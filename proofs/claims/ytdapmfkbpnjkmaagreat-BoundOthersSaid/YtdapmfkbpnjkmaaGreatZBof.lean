
import Derived.Test.YtdapmfkbpnjkmaaGreatZBoe
import Derived.ChangeKeysEq
import Derived.Ground.NamesProg
import Derived.Ground.SlsfProg
import Derived.Laws.Pointers
import Derived.Lib.Bytealg
import Derived.Shelf.SlGeneric
import Derived.Shelf.SlSortCmp.NoneTotal
import Derived.Shelf.Small.Strs
import Derived.Shelf.Sort.Plain
import Derived.Test.YtdapmfkbpnjkmaaGreatProg
namespace Go.Proofs.YtdapmfkbpnjkmaaGreat
open Go Go.Sx
set_option linter.all false
set_option maxRecDepth 20000
set_option maxHeartbeats 4000000
instance T.fld_72_0:Has (a3G Tryz.prog 72 0) (0,true,1):=⟨by kernel_rfl⟩
instance T.fld_72_1:Has (a3G Tryz.prog 72 1) (1,true,3):=⟨by kernel_rfl⟩
instance T.und_233:Has (Tryz.prog.underlying 233) (.map 9 9):=⟨by kernel_rfl⟩
theorem b6o (I:IMap) (v:Value) (l:List Part) (hv:RdS I v l) (s:ByteArray) (hN:b8f l≤12) :
    FnX Tryz.prog 92 #[.agg #[v],.string s] I [] (fun u r=>∃ns,r = .row u 9 1 ns.length (a2G ns).flatten∧(∀n,n∈ns↔b1D l s n)∧ns.length≤12):=by
 have hv0:=hv
 obtain⟨A,c0,rfl,hA,hc,hm⟩:=hv;refine enter Tryz.func92 Tryz.call92 rfl Tryz.ntmps92 rfl (fun w0=>?_);refine go 3 ?_;refine a0B _ rfl rfl rfl (fun g2=>?_);refine go 7 ?_;refine a3o (d1A _ _ l hv0) rfl rfl (fun v20 s20 q20=>?_);obtain⟨m20,kvs,rfl,rfl,hIx,hnd⟩:=q20;obtain⟨z,b,hz,hb,hfs,hfn⟩:=hIx.look s;refine go 1 ?_;refine a0h he rfl (fun g5=>?_);refine go 1 ?_;refine a0m _ he rfl rfl rfl rfl rfl rfl ?_;refine go 8 ?_;refine o_v rfl (a8A m1 (a0R he) he he (s) rfl rfl hz hb) ?_;refine go 13 ?_;refine cb rfl (fun h29 p29=>?_) (fun h29 p29=>?_)
 ·refine go 7 ?_;refine a0x rfl rfl ?_;refine a0b ?_;refine a0b ?_;refine a0b ?_;refine a1s 9 1 ?_;exact q_x ⟨[],rfl,fun n=>⟨fun h=>(by cases h),fun h=>absurd h (c7A (hfn (by simpa using h29)) n)⟩,Nat.zero_le _⟩
 ·have hsome:(a0O l s).isSome=true:=by
    obtain⟨i,hi,_,hF⟩:=hfs (by simpa using h29);rw[hF];rfl
  refine go 5 ?_;refine a7v (Value.string) he rfl (fun r30=>?_);refine go 7 ?_;refine a0u ?_;refine b1v (fun S0 hO0 hT0 hS0=>?_);refine go 2 ?_;refine c1a hS0 he rfl rfl (fun i33=>?_);refine go 3 ?_;refine a1o ?_;refine a0b ?_
  refine a3B (S0) (kvs) ([]) (fun S todo done=>I)
   (fun S todo done=>[(1,.string s),(5,.pointer (some ⟨g5,0,none⟩)),(8,.map (some r30)),(33,.pointer (some ⟨i33,0,none⟩))])
   (fun S todo done=>[.any i33 (S.it m20),.any m20 S.mp,.mp r30 (a2t Value.string (a3y (a4q l (done.map Prod.fst)))),.blk g5 118 [.slice A l.length c0,.map (some m20)]])
   (fun S todo done=>S.Ok Value.string kvs∧S.Todo Value.string todo∧(done++todo).Perm kvs)
   (fun S todo done=>todo.length) ⟨hO0,hT0,.refl _⟩ rfl sb rfl ?_
  intro S todo done ⟨hO,hT,hP⟩;refine go 3 ?_;refine a0g ?_;refine a0g ?_;refine c5y hO hT rfl rfl (fun q34 S34 t34 hst=>?_);refine o_v rfl (a2g rfl (c0T _ _)) ?_;refine go 3 ?_;refine cb rfl (fun h35 p35=>?_) (fun h35 p35=>?_)
  ·obtain⟨p,a,b,htd,hO1,hT1,hA1,rfl,rfl⟩:=hst.some h35
   have hpk:=c3V hP htd
   have hpn:=c3W hP htd hnd
   obtain⟨i,hi,hpv,hF⟩:=hIx.mem hnd hpk
   have hup:upP l p.1=l[i].into:=by unfold upP;rw[hF];rfl
   refine go 5 ?_;refine o_v rfl (c1Y m0 m1 hO1 hA1 rfl) ?_;refine go 1 ?_;refine o_v rfl (OV.cast (u:=.int .i64 ((i:Nat):Int)) (a2g rfl rfl) hpv) ?_;refine go 9 ?_;obtain⟨b42,o42,w42,e42,c42,r42⟩:=RdA.at_ hA (i:=i) hi;obtain⟨q42,rfl,B42,d42,rfl,hB42,hd42,hm42⟩:=r42;refine o_v rfl (a0n he rfl rfl e42 (i) rfl hi) ?_;refine go 1 ?_;refine o_v rfl (OV.cast (u:=.string (upP l p.1)) (a0W he rfl (c42 2 _ rfl)) (congrArg Value.string hup.symm)) ?_;refine go 9 ?_;refine cb rfl (fun h46 p46=>?_) (fun h46 p46=>?_)
   ·refine go 5 ?_;refine a0u ?_;refine a4t (a3y ((a4q l (done.map Prod.fst))++[(p.1,upP l p.1)])) (a0R he) he (p.1) rfl rfl rfl (b9P (c3g hpn)) ?_;refine go 3 ?_;refine a1k ?_;refine a0g ?_;refine a1k ?_;refine a1k ?_;exact a1X (S34) (a++b) (done++[p]) ⟨hO1,hT1,a7y hP htd⟩ (by rw[htd];simp) rfl sb (by rw[b9Z p46])
   ·refine go 3 ?_;exact a1X (S34) (a++b) (done++[p]) ⟨hO1,hT1,a7y hP htd⟩ (by rw[htd];simp) rfl sb (by rw[b9Y (by simpa using h46)])
  ·obtain⟨rfl,rfl,rfl⟩:=hst.none h35
   have hdp:done.Perm kvs:=by simpa using hP
   refine go 10 ?_;refine a0u ?_;refine b6T (a0R he) he s rfl rfl ?_;rw[b3b (c6O hnd hdp)]
   have hB0:=Bfs.start (v:=s) hIx hnd hdp
   refine go 4 ?_;refine a1s 9 1 ?_;refine go 8 ?_;refine a0e he he rfl rfl rfl rfl rfl rfl rfl (fun v53=>?_);refine a0o (l:=[s]) rfl rfl ((.one rfl)) (fun I53 j53 R53=>?_)
   have R53s:=R53
   obtain⟨A53,c53,rfl,_,_,_⟩:=R53s;refine go 4 ?_;refine a0u ?_;refine a0b ?_;refine a0u ?_;refine a0b ?_;refine a0u ?_;refine a0b ?_
   refine c6l (_) ([s]) ([]) (A53) (c53) (_) ([]) (I53) (fun R lst out A1 c1 v12 xs J=>J)
    (fun R lst out A1 c1 v12 xs J=>[(8,.map (some r30)),(12,v12),(13,.slice A1 lst.length c1)])
    (fun R lst out A1 c1 v12 xs J=>[.row v12 9 1 out.length xs,.mp r30 (a2t Value.string (a3y R))])
    (fun R lst out A1 c1 v12 xs J=>RdS J (.slice A1 lst.length c1) lst∧Flat J xs out∧Bfs l s R lst out)
    (fun R lst out A1 c1 v12 xs J=>R.length+R.length+min lst.length 1) ⟨R53,.nil,hB0⟩ rfl sb rfl ?_
   intro R lst out A1 c1 v12 xs J ⟨hL,hFo,hB⟩
   have hlen:=hB.len
   refine go 8 ?_;refine cb rfl (fun h56 p56=>?_) (fun h56 p56=>?_)
   ·refine go 5 ?_;refine a1s 9 1 ?_;refine go 6 ?_;refine a0u ?_;refine b1v (fun S0 hO0 hT0 hS0=>?_);refine go 2 ?_;refine c1a hS0 he rfl rfl (fun i58=>?_);refine go 3 ?_
    refine b1O (S0) (R) ([]) (_) ([]) (fun S todo done v14 ys=>J)
     (fun S todo done v14 ys=>[(8,.map (some r30)),(12,v12),(13,.slice A1 lst.length c1),(14,v14),(58,.pointer (some ⟨i58,0,none⟩))])
     (fun S todo done v14 ys=>[.any i58 (S.it r30),.any r30 S.mp,.row v14 9 1 (a2S lst done).length ys,.row v12 9 1 out.length xs])
     (fun S todo done v14 ys=>S.Ok Value.string (a3y R)∧S.Todo Value.string (a3y todo)∧(done++todo).Perm R∧Flat J ys (a2S lst done))
     (fun S todo done v14 ys=>todo.length) ⟨hO0,hT0,.refl _,.nil⟩ rfl sb rfl ?_
    intro S todo done v14 ys ⟨hO,hT,hP,hFy⟩
    have hdl:=hP.length_eq
    rw[List.length_append]at hdl
    have hnl:=c0U (lst:=lst) done
    refine go 3 ?_;refine a0g ?_;refine a0g ?_;refine c5y hO hT rfl rfl (fun q59 S59 t59 hst=>?_);refine o_v rfl (a2g rfl (c0T _ _)) ?_;refine go 3 ?_;refine cb rfl (fun h60 p60=>?_) (fun h60 p60=>?_)
    ·obtain⟨n,u,a,b,htd,hO1,hT1,hA1,rfl⟩:=hst.nu h60;refine go 5 ?_;refine o_v rfl (c1Y m0 m1 hO1 hA1 rfl) ?_;refine go 11 ?_;refine a0a (a4D _ _ lst hL u) rfl rfl ?_;refine go 2 ?_;refine cb rfl (fun h66 p66=>?_) (fun h66 p66=>?_)
     ·refine go 4 ?_;refine a0e he he rfl rfl rfl rfl rfl rfl rfl (fun v69=>?_);refine go 1 ?_;refine a1k ?_;refine a1r he he rfl rfl rfl rfl rfl (by omega) (by omega) rfl (fun v70=>?_);refine go 4 ?_;refine a0g ?_;refine a0b ?_;refine a1k ?_;refine a0g ?_;refine a1k ?_;refine a1k ?_;exact a6P (S59) (a++b) (done++[(n,u)]) (_) (_) ⟨hO1,hT1,a7y hP htd,by rw[b3B (p:=(n,u)) p66];exact hFy.append (.one rfl)⟩ (by rw[htd];simp) rfl sb (by rw[b3B (p:=(n,u)) p66,List.length_append];rfl)
     ·refine go 3 ?_;exact a6P (S59) (a++b) (done++[(n,u)]) (_) (_) ⟨hO1,hT1,a7y hP htd,by rw[b6O (p:=(n,u)) p66];exact hFy⟩ (by rw[htd];simp) rfl sb (by rw[b6O (p:=(n,u)) p66])
    ·obtain⟨rfl,rfl,rfl⟩:=hst.nuNone h60
     have hdp:done.Perm R:=by simpa using hP
     refine a0g ?_;refine b8Q hO ?_;refine go 8 ?_;refine a0u ?_;refine a0o (l:=(a2S lst done)) rfl rfl (hFy) (fun I71 j71 R71=>?_)
     have hFo:=hFo.le j71
     have R71s:=R71
     obtain⟨A14,c14,rfl,hA71,_,_⟩:=R71s;refine go 6 ?_;refine a0g ?_;refine a0b ?_
     refine a0L (α:=Nat) 0 (fun i=>I71)
      (fun i=>[(8,.map (some r30)),(12,v12),(14,.slice A14 (a2S lst done).length c14),(71,.slice A14 (a2S lst done).length c14),(72,.int .i64 (((a2S lst done).length:Nat):Int)),(73,.int .i64 ((i:Nat):Int))])
      (fun i=>[.mp r30 (a2t Value.string (a3y (a7A R ((a2S lst done).take i)))),.row v12 9 1 out.length xs])
      (fun i=>i≤(a2S lst done).length)
      (fun i=>(a2S lst done).length-i) (Nat.zero_le _) rfl sb (by rw[List.take_zero,c1r]) ?_
     intro i hi;refine go 6 ?_;refine cb rfl (fun h74 p74=>?_) (fun h74 p74=>?_)
     ·have hlt:i<(a2S lst done).length:=by omega
      refine go 6 ?_;obtain⟨b75,o75,w75,e75,c75,r75⟩:=RdA.at_ hA71 (i:=i) (by omega);obtain rfl:=r75;refine o_v rfl (a0n he rfl rfl e75 (i) (by omega) (by omega)) ?_;refine o_v rfl (a0W he rfl (c75 0 _ rfl)) ?_;refine go 7 ?_;refine b6T (a0R he) he ((a2S lst done)[i]) rfl rfl ?_;rw[b8L hlt hB.kn];refine go 8 ?_;exact a0J (i+1) (by omega) (by omega) rfl sb rfl
     ·obtain rfl:i=(a2S lst done).length:=by omega
      rw[List.take_length];refine go 10 ?_;refine a0g ?_;refine a1l (R71) rfl he he rfl rfl rfl rfl (by omega) (by omega) rfl (fun v82 x82 f82=>?_);refine go 9 ?_;exact c7V (a7A R (a2S lst done)) ((a2S lst done)) (out++(a2S lst done)) (A14) (c14) (_) (_) (I71) ⟨R71,hFo.append f82,hB.step hsome hdp⟩ (by have:=b6P (lst:=lst) hB.kn hdp;omega) rfl sb (by rw[List.length_append])
   ·obtain rfl:lst=[]:=List.eq_nil_of_length_eq_zero (by omega);refine go 9 ?_;refine a1u (b7w _ _ out xs hFo (by omega)) rfl rfl (fun v85 s85 q85=>?_);obtain⟨rfl,m,ys,hpm,hFm,rfl⟩:=q85;refine go 9 ?_;refine a0x rfl rfl ?_;refine a0g ?_;refine a0b ?_;exact q_x ⟨m,by rw[hpm.1,c3p hFm],fun n=>(hpm.2 n).trans hB.over,by have:=hpm.1;omega⟩
theorem c7p (I:IMap) {xss:List (List Value)} (g t i:Nat) (hU:Uk 14 xss) (p:Part) (q:Value) (hi:xss[i]? = some (p.cells q)) (u:Use) (dd:Ivl) (off:Nat) (ho:off=i * 14+8) :
    FnM Tryz.prog 96 #[.pointer (some ⟨g,off,none⟩),.agg u.cells.toArray,.agg dd.cells.toArray] I (.blk g t xss.flatten) (.blk g t (xss.set i ((a9k dd u p).cells q)).flatten):=by
 refine enter Tryz.func96 Tryz.call96 rfl Tryz.ntmps96 rfl (fun w0=>?_);refine go 3 ?_;refine a0B _ rfl rfl rfl (fun g4=>?_);refine go 1 ?_;refine a0B _ rfl rfl rfl (fun g5=>?_);refine go 2 ?_;refine a0u ?_;refine a1t T.mixed ?_;refine a0f 0 rfl rfl (by kernel_rfl) rfl (.cons _ (.refl _)) rfl (a0c rfl) ?_;refine a0f 1 rfl rfl (by kernel_rfl) rfl (.cons _ (.refl _)) rfl (a0c rfl) ?_;refine a0f 2 rfl rfl (by kernel_rfl) rfl (.cons _ (.refl _)) rfl (a0c rfl) ?_;refine a0f 3 rfl rfl (by kernel_rfl) rfl (.cons _ (.refl _)) rfl (a0c rfl) ?_;refine a0f 4 rfl rfl (by kernel_rfl) rfl (.cons _ (.refl _)) rfl (a0j rfl) ?_;refine a0f 5 rfl rfl (by kernel_rfl) rfl (.cons _ (.refl _)) rfl (a0d he rfl) ?_;refine a0f 7 rfl rfl (by kernel_rfl) rfl (.cons _ (.refl _)) rfl (a0d he rfl) ?_;refine a0f 8 rfl rfl (by kernel_rfl) rfl (.cons _ (.refl _)) rfl (a2o (u.km.cells) m1 he rfl rfl rfl) ?_;refine a0f 10 rfl rfl (by kernel_rfl) rfl (.cons _ (.refl _)) rfl (a0c rfl) ?_;refine a0f 11 rfl rfl (by kernel_rfl) rfl (.cons _ (.refl _)) rfl (a0j rfl) ?_;refine a0f 12 rfl rfl (by kernel_rfl) rfl (.cons _ (.refl _)) rfl (a0d he rfl) ?_;refine a0f 14 rfl rfl (by kernel_rfl) rfl (.cons _ (.refl _)) rfl (a0d he rfl) ?_;refine a0f 15 rfl rfl (by kernel_rfl) rfl (.cons _ (.refl _)) rfl (a2o (u.cycles.cells) m1 he rfl rfl rfl) ?_;refine a0f 17 rfl rfl (by kernel_rfl) rfl (.cons _ (.refl _)) rfl (a0c rfl) ?_;refine a0f 18 rfl rfl (by kernel_rfl) rfl (.cons _ (.refl _)) rfl (a0j rfl) ?_;refine a0f 19 rfl rfl (by kernel_rfl) rfl (.cons _ (.refl _)) rfl (a0d he rfl) ?_;refine a0f 21 rfl rfl (by kernel_rfl) rfl (.cons _ (.refl _)) rfl (a4d m0 he rfl rfl) ?_;refine b4L 6 13 20 (by kernel_rfl) rfl rfl rfl ?_ ?_ ?_
 ·refine a0l rfl (a2s (p.life.km.cells) m0 hU he rfl (i) 8 (by omega) hi rfl rfl rfl) ?_;refine a0r (fun _ m=>m.keeps (.cons _ (.refl _))) ?_;refine b4L 9 13 20 (by kernel_rfl) rfl rfl rfl ?_ ?_ ?_
  ·refine a0a (a2m _ p.life.km u.km) rfl rfl ?_;refine a0r (fun _ m=>m.keeps (.cons _ (.refl _))) ?_;refine a2A 13 20 (by kernel_rfl) rfl rfl ?_ ?_
   ·refine a0l rfl (a2s (p.life.cycles.cells) m0 hU he rfl (i) 10 (by omega) hi rfl rfl rfl) ?_;refine a0r (fun _ m=>m.keeps (.cons _ (.refl _))) ?_;refine a2A 16 20 (by kernel_rfl) rfl rfl ?_ ?_
    ·refine a0a (a2m _ p.life.cycles u.cycles) rfl rfl ?_;refine a0r (fun _ m=>m.keeps (.cons _ (.refl _))) ?_;refine a0i 20 (by kernel_rfl) rfl ?_;refine a0l rfl (a2s (p.life.damage.cells) m0 hU he rfl (i) 12 (by omega) hi rfl rfl rfl) ?_;refine a0r (fun _ m=>m.keeps (.cons _ (.refl _))) ?_;refine a0i 22 (by kernel_rfl) rfl ?_;refine a0a (a2m _ p.life.damage dd) rfl rfl ?_;refine a0r (fun _ m=>m.keeps (.cons _ (.refl _))) ?_;refine a0f 23 rfl rfl (by kernel_rfl) rfl (.cons _ (.refl _)) rfl (a0j rfl) ?_;refine a0f 24 rfl rfl (by kernel_rfl) rfl (.cons _ (.refl _)) rfl (a0d he rfl) ?_;refine a0i 25 (by kernel_rfl) rfl ?_;refine a1d _ _ (by first|exact hU|exact hU.set rfl _|exact (hU.set rfl _).set rfl _) he rfl rfl rfl rfl rfl (i) 8 (by omega) (by first|exact hi|exact a0k hi|exact a0k (a0k hi)) (by decide) rfl ?_;refine a0r (fun _ m=>m.keeps (.cons _ (.refl _))) ?_;refine a0f 26 rfl rfl (by kernel_rfl) rfl (.cons _ (.refl _)) rfl (a0j rfl) ?_;refine a0f 27 rfl rfl (by kernel_rfl) rfl (.cons _ (.refl _)) rfl (a0d he rfl) ?_;refine a0i 28 (by kernel_rfl) rfl ?_;refine a1d _ _ (by first|exact hU|exact hU.set rfl _|exact (hU.set rfl _).set rfl _) he rfl rfl rfl rfl rfl (i) 10 (by omega) (by first|exact hi|exact a0k hi|exact a0k (a0k hi)) (by decide) rfl ?_;refine a0r (fun _ m=>m.keeps (.cons _ (.refl _))) ?_;refine a0f 29 rfl rfl (by kernel_rfl) rfl (.cons _ (.refl _)) rfl (a0j rfl) ?_;refine a0f 30 rfl rfl (by kernel_rfl) rfl (.cons _ (.refl _)) rfl (a0d he rfl) ?_;refine a0i 31 (by kernel_rfl) rfl ?_;refine a1d _ _ (by first|exact hU|exact hU.set rfl _|exact (hU.set rfl _).set rfl _) he rfl rfl rfl rfl rfl (i) 12 (by omega) (by first|exact hi|exact a0k hi|exact a0k (a0k hi)) (by decide) rfl ?_;refine a0r (fun _ m=>m.keeps (.cons _ (.refl _))) ?_;refine a0w (by kernel_rfl) ?_;refine a4y rfl ?_;refine a0g ?_;refine a0b ?_;refine a0g ?_;refine a0b ?_;exact b3V (by rw[List.set_set,List.set_set];rfl)
    ·refine a0l rfl (a2s (p.life.damage.cells) m0 hU he rfl (i) 12 (by omega) hi rfl rfl rfl) ?_;refine a0r (fun _ m=>m.keeps (.cons _ (.refl _))) ?_;refine a0i 16 (by kernel_rfl) rfl ?_;refine a0a (a2m _ p.life.cycles u.cycles) rfl rfl ?_;refine a0r (fun _ m=>m.keeps (.cons _ (.refl _))) ?_;refine a0i 22 (by kernel_rfl) rfl ?_;refine a0a (a2m _ p.life.damage dd) rfl rfl ?_;refine a0r (fun _ m=>m.keeps (.cons _ (.refl _))) ?_;refine a0f 23 rfl rfl (by kernel_rfl) rfl (.cons _ (.refl _)) rfl (a0j rfl) ?_;refine a0f 24 rfl rfl (by kernel_rfl) rfl (.cons _ (.refl _)) rfl (a0d he rfl) ?_;refine a0i 25 (by kernel_rfl) rfl ?_;refine a1d _ _ (by first|exact hU|exact hU.set rfl _|exact (hU.set rfl _).set rfl _) he rfl rfl rfl rfl rfl (i) 8 (by omega) (by first|exact hi|exact a0k hi|exact a0k (a0k hi)) (by decide) rfl ?_;refine a0r (fun _ m=>m.keeps (.cons _ (.refl _))) ?_;refine a0f 26 rfl rfl (by kernel_rfl) rfl (.cons _ (.refl _)) rfl (a0j rfl) ?_;refine a0f 27 rfl rfl (by kernel_rfl) rfl (.cons _ (.refl _)) rfl (a0d he rfl) ?_;refine a0i 28 (by kernel_rfl) rfl ?_;refine a1d _ _ (by first|exact hU|exact hU.set rfl _|exact (hU.set rfl _).set rfl _) he rfl rfl rfl rfl rfl (i) 10 (by omega) (by first|exact hi|exact a0k hi|exact a0k (a0k hi)) (by decide) rfl ?_;refine a0r (fun _ m=>m.keeps (.cons _ (.refl _))) ?_;refine a0f 29 rfl rfl (by kernel_rfl) rfl (.cons _ (.refl _)) rfl (a0j rfl) ?_;refine a0f 30 rfl rfl (by kernel_rfl) rfl (.cons _ (.refl _)) rfl (a0d he rfl) ?_;refine a0i 31 (by kernel_rfl) rfl ?_;refine a1d _ _ (by first|exact hU|exact hU.set rfl _|exact (hU.set rfl _).set rfl _) he rfl rfl rfl rfl rfl (i) 12 (by omega) (by first|exact hi|exact a0k hi|exact a0k (a0k hi)) (by decide) rfl ?_;refine a0r (fun _ m=>m.keeps (.cons _ (.refl _))) ?_;refine a0w (by kernel_rfl) ?_;refine a4y rfl ?_;refine a0g ?_;refine a0b ?_;refine a0g ?_;refine a0b ?_;exact b3V (by rw[List.set_set,List.set_set];rfl)
   ·refine a0l rfl (a2s (p.life.damage.cells) m0 hU he rfl (i) 12 (by omega) hi rfl rfl rfl) ?_;refine a0r (fun _ m=>m.keeps (.cons _ (.refl _))) ?_;refine a0i 13 (by kernel_rfl) rfl ?_;refine a0l rfl (a2s (p.life.cycles.cells) m0 hU he rfl (i) 10 (by omega) hi rfl rfl rfl) ?_;refine a0r (fun _ m=>m.keeps (.cons _ (.refl _))) ?_;refine a0i 16 (by kernel_rfl) rfl ?_;refine a0a (a2m _ p.life.cycles u.cycles) rfl rfl ?_;refine a0r (fun _ m=>m.keeps (.cons _ (.refl _))) ?_;refine a0i 22 (by kernel_rfl) rfl ?_;refine a0a (a2m _ p.life.damage dd) rfl rfl ?_;refine a0r (fun _ m=>m.keeps (.cons _ (.refl _))) ?_;refine a0f 23 rfl rfl (by kernel_rfl) rfl (.cons _ (.refl _)) rfl (a0j rfl) ?_;refine a0f 24 rfl rfl (by kernel_rfl) rfl (.cons _ (.refl _)) rfl (a0d he rfl) ?_;refine a0i 25 (by kernel_rfl) rfl ?_;refine a1d _ _ (by first|exact hU|exact hU.set rfl _|exact (hU.set rfl _).set rfl _) he rfl rfl rfl rfl rfl (i) 8 (by omega) (by first|exact hi|exact a0k hi|exact a0k (a0k hi)) (by decide) rfl ?_;refine a0r (fun _ m=>m.keeps (.cons _ (.refl _))) ?_;refine a0f 26 rfl rfl (by kernel_rfl) rfl (.cons _ (.refl _)) rfl (a0j rfl) ?_;refine a0f 27 rfl rfl (by kernel_rfl) rfl (.cons _ (.refl _)) rfl (a0d he rfl) ?_;refine a0i 28 (by kernel_rfl) rfl ?_;refine a1d _ _ (by first|exact hU|exact hU.set rfl _|exact (hU.set rfl _).set rfl _) he rfl rfl rfl rfl rfl (i) 10 (by omega) (by first|exact hi|exact a0k hi|exact a0k (a0k hi)) (by decide) rfl ?_;refine a0r (fun _ m=>m.keeps (.cons _ (.refl _))) ?_;refine a0f 29 rfl rfl (by kernel_rfl) rfl (.cons _ (.refl _)) rfl (a0j rfl) ?_;refine a0f 30 rfl rfl (by kernel_rfl) rfl (.cons _ (.refl _)) rfl (a0d he rfl) ?_;refine a0i 31 (by kernel_rfl) rfl ?_;refine a1d _ _ (by first|exact hU|exact hU.set rfl _|exact (hU.set rfl _).set rfl _) he rfl rfl rfl rfl rfl (i) 12 (by omega) (by first|exact hi|exact a0k hi|exact a0k (a0k hi)) (by decide) rfl ?_;refine a0r (fun _ m=>m.keeps (.cons _ (.refl _))) ?_;refine a0w (by kernel_rfl) ?_;refine a4y rfl ?_;refine a0g ?_;refine a0b ?_;refine a0g ?_;refine a0b ?_;exact b3V (by rw[List.set_set,List.set_set];rfl)
  ·refine a0l rfl (a2s (p.life.cycles.cells) m0 hU he rfl (i) 10 (by omega) hi rfl rfl rfl) ?_;refine a0r (fun _ m=>m.keeps (.cons _ (.refl _))) ?_;refine a2A 9 20 (by kernel_rfl) rfl rfl ?_ ?_
   ·refine a0a (a2m _ p.life.km u.km) rfl rfl ?_;refine a0r (fun _ m=>m.keeps (.cons _ (.refl _))) ?_;refine a2A 16 20 (by kernel_rfl) rfl rfl ?_ ?_
    ·refine a0a (a2m _ p.life.cycles u.cycles) rfl rfl ?_;refine a0r (fun _ m=>m.keeps (.cons _ (.refl _))) ?_;refine a0i 20 (by kernel_rfl) rfl ?_;refine a0l rfl (a2s (p.life.damage.cells) m0 hU he rfl (i) 12 (by omega) hi rfl rfl rfl) ?_;refine a0r (fun _ m=>m.keeps (.cons _ (.refl _))) ?_;refine a0i 22 (by kernel_rfl) rfl ?_;refine a0a (a2m _ p.life.damage dd) rfl rfl ?_;refine a0r (fun _ m=>m.keeps (.cons _ (.refl _))) ?_;refine a0f 23 rfl rfl (by kernel_rfl) rfl (.cons _ (.refl _)) rfl (a0j rfl) ?_;refine a0f 24 rfl rfl (by kernel_rfl) rfl (.cons _ (.refl _)) rfl (a0d he rfl) ?_;refine a0i 25 (by kernel_rfl) rfl ?_;refine a1d _ _ (by first|exact hU|exact hU.set rfl _|exact (hU.set rfl _).set rfl _) he rfl rfl rfl rfl rfl (i) 8 (by omega) (by first|exact hi|exact a0k hi|exact a0k (a0k hi)) (by decide) rfl ?_;refine a0r (fun _ m=>m.keeps (.cons _ (.refl _))) ?_;refine a0f 26 rfl rfl (by kernel_rfl) rfl (.cons _ (.refl _)) rfl (a0j rfl) ?_;refine a0f 27 rfl rfl (by kernel_rfl) rfl (.cons _ (.refl _)) rfl (a0d he rfl) ?_;refine a0i 28 (by kernel_rfl) rfl ?_;refine a1d _ _ (by first|exact hU|exact hU.set rfl _|exact (hU.set rfl _).set rfl _) he rfl rfl rfl rfl rfl (i) 10 (by omega) (by first|exact hi|exact a0k hi|exact a0k (a0k hi)) (by decide) rfl ?_;refine a0r (fun _ m=>m.keeps (.cons _ (.refl _))) ?_;refine a0f 29 rfl rfl (by kernel_rfl) rfl (.cons _ (.refl _)) rfl (a0j rfl) ?_;refine a0f 30 rfl rfl (by kernel_rfl) rfl (.cons _ (.refl _)) rfl (a0d he rfl) ?_;refine a0i 31 (by kernel_rfl) rfl ?_;refine a1d _ _ (by first|exact hU|exact hU.set rfl _|exact (hU.set rfl _).set rfl _) he rfl rfl rfl rfl rfl (i) 12 (by omega) (by first|exact hi|exact a0k hi|exact a0k (a0k hi)) (by decide) rfl ?_;refine a0r (fun _ m=>m.keeps (.cons _ (.refl _))) ?_;refine a0w (by kernel_rfl) ?_;refine a4y rfl ?_;refine a0g ?_;refine a0b ?_;refine a0g ?_;refine a0b ?_;exact b3V (by rw[List.set_set,List.set_set];rfl)
    ·refine a0l rfl (a2s (p.life.damage.cells) m0 hU he rfl (i) 12 (by omega) hi rfl rfl rfl) ?_;refine a0r (fun _ m=>m.keeps (.cons _ (.refl _))) ?_;refine a0i 16 (by kernel_rfl) rfl ?_;refine a0a (a2m _ p.life.cycles u.cycles) rfl rfl ?_;refine a0r (fun _ m=>m.keeps (.cons _ (.refl _))) ?_;refine a0i 22 (by kernel_rfl) rfl ?_;refine a0a (a2m _ p.life.damage dd) rfl rfl ?_;refine a0r (fun _ m=>m.keeps (.cons _ (.refl _))) ?_;refine a0f 23 rfl rfl (by kernel_rfl) rfl (.cons _ (.refl _)) rfl (a0j rfl) ?_;refine a0f 24 rfl rfl (by kernel_rfl) rfl (.cons _ (.refl _)) rfl (a0d he rfl) ?_;refine a0i 25 (by kernel_rfl) rfl ?_;refine a1d _ _ (by first|exact hU|exact hU.set rfl _|exact (hU.set rfl _).set rfl _) he rfl rfl rfl rfl rfl (i) 8 (by omega) (by first|exact hi|exact a0k hi|exact a0k (a0k hi)) (by decide) rfl ?_;refine a0r (fun _ m=>m.keeps (.cons _ (.refl _))) ?_;refine a0f 26 rfl rfl (by kernel_rfl) rfl (.cons _ (.refl _)) rfl (a0j rfl) ?_;refine a0f 27 rfl rfl (by kernel_rfl) rfl (.cons _ (.refl _)) rfl (a0d he rfl) ?_;refine a0i 28 (by kernel_rfl) rfl ?_;refine a1d _ _ (by first|exact hU|exact hU.set rfl _|exact (hU.set rfl _).set rfl _) he rfl rfl rfl rfl rfl (i) 10 (by omega) (by first|exact hi|exact a0k hi|exact a0k (a0k hi)) (by decide) rfl ?_;refine a0r (fun _ m=>m.keeps (.cons _ (.refl _))) ?_;refine a0f 29 rfl rfl (by kernel_rfl) rfl (.cons _ (.refl _)) rfl (a0j rfl) ?_;refine a0f 30 rfl rfl (by kernel_rfl) rfl (.cons _ (.refl _)) rfl (a0d he rfl) ?_;refine a0i 31 (by kernel_rfl) rfl ?_;refine a1d _ _ (by first|exact hU|exact hU.set rfl _|exact (hU.set rfl _).set rfl _) he rfl rfl rfl rfl rfl (i) 12 (by omega) (by first|exact hi|exact a0k hi|exact a0k (a0k hi)) (by decide) rfl ?_;refine a0r (fun _ m=>m.keeps (.cons _ (.refl _))) ?_;refine a0w (by kernel_rfl) ?_;refine a4y rfl ?_;refine a0g ?_;refine a0b ?_;refine a0g ?_;refine a0b ?_;exact b3V (by rw[List.set_set,List.set_set];rfl)
   ·refine a0l rfl (a2s (p.life.damage.cells) m0 hU he rfl (i) 12 (by omega) hi rfl rfl rfl) ?_;refine a0r (fun _ m=>m.keeps (.cons _ (.refl _))) ?_;refine a0i 9 (by kernel_rfl) rfl ?_;refine a0a (a2m _ p.life.km u.km) rfl rfl ?_;refine a0r (fun _ m=>m.keeps (.cons _ (.refl _))) ?_;refine a0i 16 (by kernel_rfl) rfl ?_;refine a0a (a2m _ p.life.cycles u.cycles) rfl rfl ?_;refine a0r (fun _ m=>m.keeps (.cons _ (.refl _))) ?_;refine a0i 22 (by kernel_rfl) rfl ?_;refine a0a (a2m _ p.life.damage dd) rfl rfl ?_;refine a0r (fun _ m=>m.keeps (.cons _ (.refl _))) ?_;refine a0f 23 rfl rfl (by kernel_rfl) rfl (.cons _ (.refl _)) rfl (a0j rfl) ?_;refine a0f 24 rfl rfl (by kernel_rfl) rfl (.cons _ (.refl _)) rfl (a0d he rfl) ?_;refine a0i 25 (by kernel_rfl) rfl ?_;refine a1d _ _ (by first|exact hU|exact hU.set rfl _|exact (hU.set rfl _).set rfl _) he rfl rfl rfl rfl rfl (i) 8 (by omega) (by first|exact hi|exact a0k hi|exact a0k (a0k hi)) (by decide) rfl ?_;refine a0r (fun _ m=>m.keeps (.cons _ (.refl _))) ?_;refine a0f 26 rfl rfl (by kernel_rfl) rfl (.cons _ (.refl _)) rfl (a0j rfl) ?_;refine a0f 27 rfl rfl (by kernel_rfl) rfl (.cons _ (.refl _)) rfl (a0d he rfl) ?_;refine a0i 28 (by kernel_rfl) rfl ?_;refine a1d _ _ (by first|exact hU|exact hU.set rfl _|exact (hU.set rfl _).set rfl _) he rfl rfl rfl rfl rfl (i) 10 (by omega) (by first|exact hi|exact a0k hi|exact a0k (a0k hi)) (by decide) rfl ?_;refine a0r (fun _ m=>m.keeps (.cons _ (.refl _))) ?_;refine a0f 29 rfl rfl (by kernel_rfl) rfl (.cons _ (.refl _)) rfl (a0j rfl) ?_;refine a0f 30 rfl rfl (by kernel_rfl) rfl (.cons _ (.refl _)) rfl (a0d he rfl) ?_;refine a0i 31 (by kernel_rfl) rfl ?_;refine a1d _ _ (by first|exact hU|exact hU.set rfl _|exact (hU.set rfl _).set rfl _) he rfl rfl rfl rfl rfl (i) 12 (by omega) (by first|exact hi|exact a0k hi|exact a0k (a0k hi)) (by decide) rfl ?_;refine a0r (fun _ m=>m.keeps (.cons _ (.refl _))) ?_;refine a0w (by kernel_rfl) ?_;refine a4y rfl ?_;refine a0g ?_;refine a0b ?_;refine a0g ?_;refine a0b ?_;exact b3V (by rw[List.set_set,List.set_set];rfl)
  ·refine a0l rfl (a2s (p.life.damage.cells) m0 hU he rfl (i) 12 (by omega) hi rfl rfl rfl) ?_;refine a0r (fun _ m=>m.keeps (.cons _ (.refl _))) ?_;refine a2A 9 13 (by kernel_rfl) rfl rfl ?_ ?_
   ·refine a0a (a2m _ p.life.km u.km) rfl rfl ?_;refine a0r (fun _ m=>m.keeps (.cons _ (.refl _))) ?_;refine a0i 13 (by kernel_rfl) rfl ?_;refine a0l rfl (a2s (p.life.cycles.cells) m0 hU he rfl (i) 10 (by omega) hi rfl rfl rfl) ?_;refine a0r (fun _ m=>m.keeps (.cons _ (.refl _))) ?_;refine a0i 16 (by kernel_rfl) rfl ?_;refine a0a (a2m _ p.life.cycles u.cycles) rfl rfl ?_;refine a0r (fun _ m=>m.keeps (.cons _ (.refl _))) ?_;refine a0i 22 (by kernel_rfl) rfl ?_;refine a0a (a2m _ p.life.damage dd) rfl rfl ?_;refine a0r (fun _ m=>m.keeps (.cons _ (.refl _))) ?_;refine a0f 23 rfl rfl (by kernel_rfl) rfl (.cons _ (.refl _)) rfl (a0j rfl) ?_;refine a0f 24 rfl rfl (by kernel_rfl) rfl (.cons _ (.refl _)) rfl (a0d he rfl) ?_;refine a0i 25 (by kernel_rfl) rfl ?_;refine a1d _ _ (by first|exact hU|exact hU.set rfl _|exact (hU.set rfl _).set rfl _) he rfl rfl rfl rfl rfl (i) 8 (by omega) (by first|exact hi|exact a0k hi|exact a0k (a0k hi)) (by decide) rfl ?_;refine a0r (fun _ m=>m.keeps (.cons _ (.refl _))) ?_;refine a0f 26 rfl rfl (by kernel_rfl) rfl (.cons _ (.refl _)) rfl (a0j rfl) ?_;refine a0f 27 rfl rfl (by kernel_rfl) rfl (.cons _ (.refl _)) rfl (a0d he rfl) ?_;refine a0i 28 (by kernel_rfl) rfl ?_;refine a1d _ _ (by first|exact hU|exact hU.set rfl _|exact (hU.set rfl _).set rfl _) he rfl rfl rfl rfl rfl (i) 10 (by omega) (by first|exact hi|exact a0k hi|exact a0k (a0k hi)) (by decide) rfl ?_;refine a0r (fun _ m=>m.keeps (.cons _ (.refl _))) ?_;refine a0f 29 rfl rfl (by kernel_rfl) rfl (.cons _ (.refl _)) rfl (a0j rfl) ?_;refine a0f 30 rfl rfl (by kernel_rfl) rfl (.cons _ (.refl _)) rfl (a0d he rfl) ?_;refine a0i 31 (by kernel_rfl) rfl ?_;refine a1d _ _ (by first|exact hU|exact hU.set rfl _|exact (hU.set rfl _).set rfl _) he rfl rfl rfl rfl rfl (i) 12 (by omega) (by first|exact hi|exact a0k hi|exact a0k (a0k hi)) (by decide) rfl ?_;refine a0r (fun _ m=>m.keeps (.cons _ (.refl _))) ?_;refine a0w (by kernel_rfl) ?_;refine a4y rfl ?_;refine a0g ?_;refine a0b ?_;refine a0g ?_;refine a0b ?_;exact b3V (by rw[List.set_set,List.set_set];rfl)
   ·refine a0l rfl (a2s (p.life.cycles.cells) m0 hU he rfl (i) 10 (by omega) hi rfl rfl rfl) ?_;refine a0r (fun _ m=>m.keeps (.cons _ (.refl _))) ?_;refine a0i 9 (by kernel_rfl) rfl ?_;refine a0a (a2m _ p.life.km u.km) rfl rfl ?_;refine a0r (fun _ m=>m.keeps (.cons _ (.refl _))) ?_;refine a0i 16 (by kernel_rfl) rfl ?_;refine a0a (a2m _ p.life.cycles u.cycles) rfl rfl ?_;refine a0r (fun _ m=>m.keeps (.cons _ (.refl _))) ?_;refine a0i 22 (by kernel_rfl) rfl ?_;refine a0a (a2m _ p.life.damage dd) rfl rfl ?_;refine a0r (fun _ m=>m.keeps (.cons _ (.refl _))) ?_;refine a0f 23 rfl rfl (by kernel_rfl) rfl (.cons _ (.refl _)) rfl (a0j rfl) ?_;refine a0f 24 rfl rfl (by kernel_rfl) rfl (.cons _ (.refl _)) rfl (a0d he rfl) ?_;refine a0i 25 (by kernel_rfl) rfl ?_;refine a1d _ _ (by first|exact hU|exact hU.set rfl _|exact (hU.set rfl _).set rfl _) he rfl rfl rfl rfl rfl (i) 8 (by omega) (by first|exact hi|exact a0k hi|exact a0k (a0k hi)) (by decide) rfl ?_;refine a0r (fun _ m=>m.keeps (.cons _ (.refl _))) ?_;refine a0f 26 rfl rfl (by kernel_rfl) rfl (.cons _ (.refl _)) rfl (a0j rfl) ?_;refine a0f 27 rfl rfl (by kernel_rfl) rfl (.cons _ (.refl _)) rfl (a0d he rfl) ?_;refine a0i 28 (by kernel_rfl) rfl ?_;refine a1d _ _ (by first|exact hU|exact hU.set rfl _|exact (hU.set rfl _).set rfl _) he rfl rfl rfl rfl rfl (i) 10 (by omega) (by first|exact hi|exact a0k hi|exact a0k (a0k hi)) (by decide) rfl ?_;refine a0r (fun _ m=>m.keeps (.cons _ (.refl _))) ?_;refine a0f 29 rfl rfl (by kernel_rfl) rfl (.cons _ (.refl _)) rfl (a0j rfl) ?_;refine a0f 30 rfl rfl (by kernel_rfl) rfl (.cons _ (.refl _)) rfl (a0d he rfl) ?_;refine a0i 31 (by kernel_rfl) rfl ?_;refine a1d _ _ (by first|exact hU|exact hU.set rfl _|exact (hU.set rfl _).set rfl _) he rfl rfl rfl rfl rfl (i) 12 (by omega) (by first|exact hi|exact a0k hi|exact a0k (a0k hi)) (by decide) rfl ?_;refine a0r (fun _ m=>m.keeps (.cons _ (.refl _))) ?_;refine a0w (by kernel_rfl) ?_;refine a4y rfl ?_;refine a0g ?_;refine a0b ?_;refine a0g ?_;refine a0b ?_;exact b3V (by rw[List.set_set,List.set_set];rfl)
 ·refine a0l rfl (a2s (p.life.cycles.cells) m0 hU he rfl (i) 10 (by omega) hi rfl rfl rfl) ?_;refine a0r (fun _ m=>m.keeps (.cons _ (.refl _))) ?_;refine a2A 6 20 (by kernel_rfl) rfl rfl ?_ ?_
  ·refine a0l rfl (a2s (p.life.km.cells) m0 hU he rfl (i) 8 (by omega) hi rfl rfl rfl) ?_;refine a0r (fun _ m=>m.keeps (.cons _ (.refl _))) ?_;refine a2A 9 20 (by kernel_rfl) rfl rfl ?_ ?_
   ·refine a0a (a2m _ p.life.km u.km) rfl rfl ?_;refine a0r (fun _ m=>m.keeps (.cons _ (.refl _))) ?_;refine a2A 16 20 (by kernel_rfl) rfl rfl ?_ ?_
    ·refine a0a (a2m _ p.life.cycles u.cycles) rfl rfl ?_;refine a0r (fun _ m=>m.keeps (.cons _ (.refl _))) ?_;refine a0i 20 (by kernel_rfl) rfl ?_;refine a0l rfl (a2s (p.life.damage.cells) m0 hU he rfl (i) 12 (by omega) hi rfl rfl rfl) ?_;refine a0r (fun _ m=>m.keeps (.cons _ (.refl _))) ?_;refine a0i 22 (by kernel_rfl) rfl ?_;refine a0a (a2m _ p.life.damage dd) rfl rfl ?_;refine a0r (fun _ m=>m.keeps (.cons _ (.refl _))) ?_;refine a0f 23 rfl rfl (by kernel_rfl) rfl (.cons _ (.refl _)) rfl (a0j rfl) ?_;refine a0f 24 rfl rfl (by kernel_rfl) rfl (.cons _ (.refl _)) rfl (a0d he rfl) ?_;refine a0i 25 (by kernel_rfl) rfl ?_;refine a1d _ _ (by first|exact hU|exact hU.set rfl _|exact (hU.set rfl _).set rfl _) he rfl rfl rfl rfl rfl (i) 8 (by omega) (by first|exact hi|exact a0k hi|exact a0k (a0k hi)) (by decide) rfl ?_;refine a0r (fun _ m=>m.keeps (.cons _ (.refl _))) ?_;refine a0f 26 rfl rfl (by kernel_rfl) rfl (.cons _ (.refl _)) rfl (a0j rfl) ?_;refine a0f 27 rfl rfl (by kernel_rfl) rfl (.cons _ (.refl _)) rfl (a0d he rfl) ?_;refine a0i 28 (by kernel_rfl) rfl ?_;refine a1d _ _ (by first|exact hU|exact hU.set rfl _|exact (hU.set rfl _).set rfl _) he rfl rfl rfl rfl rfl (i) 10 (by omega) (by first|exact hi|exact a0k hi|exact a0k (a0k hi)) (by decide) rfl ?_;refine a0r (fun _ m=>m.keeps (.cons _ (.refl _))) ?_;refine a0f 29 rfl rfl (by kernel_rfl) rfl (.cons _ (.refl _)) rfl (a0j rfl) ?_;refine a0f 30 rfl rfl (by kernel_rfl) rfl (.cons _ (.refl _)) rfl (a0d he rfl) ?_;refine a0i 31 (by kernel_rfl) rfl ?_;refine a1d _ _ (by first|exact hU|exact hU.set rfl _|exact (hU.set rfl _).set rfl _) he rfl rfl rfl rfl rfl (i) 12 (by omega) (by first|exact hi|exact a0k hi|exact a0k (a0k hi)) (by decide) rfl ?_;refine a0r (fun _ m=>m.keeps (.cons _ (.refl _))) ?_;refine a0w (by kernel_rfl) ?_;refine a4y rfl ?_;refine a0g ?_;refine a0b ?_;refine a0g ?_;refine a0b ?_;exact b3V (by rw[List.set_set,List.set_set];rfl)
    ·refine a0l rfl (a2s (p.life.damage.cells) m0 hU he rfl (i) 12 (by omega) hi rfl rfl rfl) ?_;refine a0r (fun _ m=>m.keeps (.cons _ (.refl _))) ?_;refine a0i 16 (by kernel_rfl) rfl ?_;refine a0a (a2m _ p.life.cycles u.cycles) rfl rfl ?_;refine a0r (fun _ m=>m.keeps (.cons _ (.refl _))) ?_;refine a0i 22 (by kernel_rfl) rfl ?_;refine a0a (a2m _ p.life.damage dd) rfl rfl ?_;refine a0r (fun _ m=>m.keeps (.cons _ (.refl _))) ?_;refine a0f 23 rfl rfl (by kernel_rfl) rfl (.cons _ (.refl _)) rfl (a0j rfl) ?_;refine a0f 24 rfl rfl (by kernel_rfl) rfl (.cons _ (.refl _)) rfl (a0d he rfl) ?_;refine a0i 25 (by kernel_rfl) rfl ?_;refine a1d _ _ (by first|exact hU|exact hU.set rfl _|exact (hU.set rfl _).set rfl _) he rfl rfl rfl rfl rfl (i) 8 (by omega) (by first|exact hi|exact a0k hi|exact a0k (a0k hi)) (by decide) rfl ?_;refine a0r (fun _ m=>m.keeps (.cons _ (.refl _))) ?_;refine a0f 26 rfl rfl (by kernel_rfl) rfl (.cons _ (.refl _)) rfl (a0j rfl) ?_;refine a0f 27 rfl rfl (by kernel_rfl) rfl (.cons _ (.refl _)) rfl (a0d he rfl) ?_;refine a0i 28 (by kernel_rfl) rfl ?_;refine a1d _ _ (by first|exact hU|exact hU.set rfl _|exact (hU.set rfl _).set rfl _) he rfl rfl rfl rfl rfl (i) 10 (by omega) (by first|exact hi|exact a0k hi|exact a0k (a0k hi)) (by decide) rfl ?_;refine a0r (fun _ m=>m.keeps (.cons _ (.refl _))) ?_;refine a0f 29 rfl rfl (by kernel_rfl) rfl (.cons _ (.refl _)) rfl (a0j rfl) ?_;refine a0f 30 rfl rfl (by kernel_rfl) rfl (.cons _ (.refl _)) rfl (a0d he rfl) ?_;refine a0i 31 (by kernel_rfl) rfl ?_;refine a1d _ _ (by first|exact hU|exact hU.set rfl _|exact (hU.set rfl _).set rfl _) he rfl rfl rfl rfl rfl (i) 12 (by omega) (by first|exact hi|exact a0k hi|exact a0k (a0k hi)) (by decide) rfl ?_;refine a0r (fun _ m=>m.keeps (.cons _ (.refl _))) ?_;refine a0w (by kernel_rfl) ?_;refine a4y rfl ?_;refine a0g ?_;refine a0b ?_;refine a0g ?_;refine a0b ?_;exact b3V (by rw[List.set_set,List.set_set];rfl)
   ·refine a0l rfl (a2s (p.life.damage.cells) m0 hU he rfl (i) 12 (by omega) hi rfl rfl rfl) ?_;refine a0r (fun _ m=>m.keeps (.cons _ (.refl _))) ?_;refine a0i 9 (by kernel_rfl) rfl ?_;refine a0a (a2m _ p.life.km u.km) rfl rfl ?_;refine a0r (fun _ m=>m.keeps (.cons _ (.refl _))) ?_;refine a0i 16 (by kernel_rfl) rfl ?_;refine a0a (a2m _ p.life.cycles u.cycles) rfl rfl ?_;refine a0r (fun _ m=>m.keeps (.cons _ (.refl _))) ?_;refine a0i 22 (by kernel_rfl) rfl ?_;refine a0a (a2m _ p.life.damage dd) rfl rfl ?_;refine a0r (fun _ m=>m.keeps (.cons _ (.refl _))) ?_;refine a0f 23 rfl rfl (by kernel_rfl) rfl (.cons _ (.refl _)) rfl (a0j rfl) ?_;refine a0f 24 rfl rfl (by kernel_rfl) rfl (.cons _ (.refl _)) rfl (a0d he rfl) ?_;refine a0i 25 (by kernel_rfl) rfl ?_;refine a1d _ _ (by first|exact hU|exact hU.set rfl _|exact (hU.set rfl _).set rfl _) he rfl rfl rfl rfl rfl (i) 8 (by omega) (by first|exact hi|exact a0k hi|exact a0k (a0k hi)) (by decide) rfl ?_;refine a0r (fun _ m=>m.keeps (.cons _ (.refl _))) ?_;refine a0f 26 rfl rfl (by kernel_rfl) rfl (.cons _ (.refl _)) rfl (a0j rfl) ?_;refine a0f 27 rfl rfl (by kernel_rfl) rfl (.cons _ (.refl _)) rfl (a0d he rfl) ?_;refine a0i 28 (by kernel_rfl) rfl ?_;refine a1d _ _ (by first|exact hU|exact hU.set rfl _|exact (hU.set rfl _).set rfl _) he rfl rfl rfl rfl rfl (i) 10 (by omega) (by first|exact hi|exact a0k hi|exact a0k (a0k hi)) (by decide) rfl ?_;refine a0r (fun _ m=>m.keeps (.cons _ (.refl _))) ?_;refine a0f 29 rfl rfl (by kernel_rfl) rfl (.cons _ (.refl _)) rfl (a0j rfl) ?_;refine a0f 30 rfl rfl (by kernel_rfl) rfl (.cons _ (.refl _)) rfl (a0d he rfl) ?_;refine a0i 31 (by kernel_rfl) rfl ?_;refine a1d _ _ (by first|exact hU|exact hU.set rfl _|exact (hU.set rfl _).set rfl _) he rfl rfl rfl rfl rfl (i) 12 (by omega) (by first|exact hi|exact a0k hi|exact a0k (a0k hi)) (by decide) rfl ?_;refine a0r (fun _ m=>m.keeps (.cons _ (.refl _))) ?_;refine a0w (by kernel_rfl) ?_;refine a4y rfl ?_;refine a0g ?_;refine a0b ?_;refine a0g ?_;refine a0b ?_;exact b3V (by rw[List.set_set,List.set_set];rfl)
  ·refine a0l rfl (a2s (p.life.damage.cells) m0 hU he rfl (i) 12 (by omega) hi rfl rfl rfl) ?_;refine a0r (fun _ m=>m.keeps (.cons _ (.refl _))) ?_;refine a0i 6 (by kernel_rfl) rfl ?_;refine a0l rfl (a2s (p.life.km.cells) m0 hU he rfl (i) 8 (by omega) hi rfl rfl rfl) ?_;refine a0r (fun _ m=>m.keeps (.cons _ (.refl _))) ?_;refine a0i 9 (by kernel_rfl) rfl ?_;refine a0a (a2m _ p.life.km u.km) rfl rfl ?_;refine a0r (fun _ m=>m.keeps (.cons _ (.refl _))) ?_;refine a0i 16 (by kernel_rfl) rfl ?_;refine a0a (a2m _ p.life.cycles u.cycles) rfl rfl ?_;refine a0r (fun _ m=>m.keeps (.cons _ (.refl _))) ?_;refine a0i 22 (by kernel_rfl) rfl ?_;refine a0a (a2m _ p.life.damage dd) rfl rfl ?_;refine a0r (fun _ m=>m.keeps (.cons _ (.refl _))) ?_;refine a0f 23 rfl rfl (by kernel_rfl) rfl (.cons _ (.refl _)) rfl (a0j rfl) ?_;refine a0f 24 rfl rfl (by kernel_rfl) rfl (.cons _ (.refl _)) rfl (a0d he rfl) ?_;refine a0i 25 (by kernel_rfl) rfl ?_;refine a1d _ _ (by first|exact hU|exact hU.set rfl _|exact (hU.set rfl _).set rfl _) he rfl rfl rfl rfl rfl (i) 8 (by omega) (by first|exact hi|exact a0k hi|exact a0k (a0k hi)) (by decide) rfl ?_;refine a0r (fun _ m=>m.keeps (.cons _ (.refl _))) ?_;refine a0f 26 rfl rfl (by kernel_rfl) rfl (.cons _ (.refl _)) rfl (a0j rfl) ?_;refine a0f 27 rfl rfl (by kernel_rfl) rfl (.cons _ (.refl _)) rfl (a0d he rfl) ?_;refine a0i 28 (by kernel_rfl) rfl ?_;refine a1d _ _ (by first|exact hU|exact hU.set rfl _|exact (hU.set rfl _).set rfl _) he rfl rfl rfl rfl rfl (i) 10 (by omega) (by first|exact hi|exact a0k hi|exact a0k (a0k hi)) (by decide) rfl ?_;refine a0r (fun _ m=>m.keeps (.cons _ (.refl _))) ?_;refine a0f 29 rfl rfl (by kernel_rfl) rfl (.cons _ (.refl _)) rfl (a0j rfl) ?_;refine a0f 30 rfl rfl (by kernel_rfl) rfl (.cons _ (.refl _)) rfl (a0d he rfl) ?_;refine a0i 31 (by kernel_rfl) rfl ?_;refine a1d _ _ (by first|exact hU|exact hU.set rfl _|exact (hU.set rfl _).set rfl _) he rfl rfl rfl rfl rfl (i) 12 (by omega) (by first|exact hi|exact a0k hi|exact a0k (a0k hi)) (by decide) rfl ?_;refine a0r (fun _ m=>m.keeps (.cons _ (.refl _))) ?_;refine a0w (by kernel_rfl) ?_;refine a4y rfl ?_;refine a0g ?_;refine a0b ?_;refine a0g ?_;refine a0b ?_;exact b3V (by rw[List.set_set,List.set_set];rfl)
 ·refine a0l rfl (a2s (p.life.damage.cells) m0 hU he rfl (i) 12 (by omega) hi rfl rfl rfl) ?_;refine a0r (fun _ m=>m.keeps (.cons _ (.refl _))) ?_;refine a2A 6 13 (by kernel_rfl) rfl rfl ?_ ?_
  ·refine a0l rfl (a2s (p.life.km.cells) m0 hU he rfl (i) 8 (by omega) hi rfl rfl rfl) ?_;refine a0r (fun _ m=>m.keeps (.cons _ (.refl _))) ?_;refine a2A 9 13 (by kernel_rfl) rfl rfl ?_ ?_
   ·refine a0a (a2m _ p.life.km u.km) rfl rfl ?_;refine a0r (fun _ m=>m.keeps (.cons _ (.refl _))) ?_;refine a0i 13 (by kernel_rfl) rfl ?_;refine a0l rfl (a2s (p.life.cycles.cells) m0 hU he rfl (i) 10 (by omega) hi rfl rfl rfl) ?_;refine a0r (fun _ m=>m.keeps (.cons _ (.refl _))) ?_;refine a0i 16 (by kernel_rfl) rfl ?_;refine a0a (a2m _ p.life.cycles u.cycles) rfl rfl ?_;refine a0r (fun _ m=>m.keeps (.cons _ (.refl _))) ?_;refine a0i 22 (by kernel_rfl) rfl ?_;refine a0a (a2m _ p.life.damage dd) rfl rfl ?_;refine a0r (fun _ m=>m.keeps (.cons _ (.refl _))) ?_;refine a0f 23 rfl rfl (by kernel_rfl) rfl (.cons _ (.refl _)) rfl (a0j rfl) ?_;refine a0f 24 rfl rfl (by kernel_rfl) rfl (.cons _ (.refl _)) rfl (a0d he rfl) ?_;refine a0i 25 (by kernel_rfl) rfl ?_;refine a1d _ _ (by first|exact hU|exact hU.set rfl _|exact (hU.set rfl _).set rfl _) he rfl rfl rfl rfl rfl (i) 8 (by omega) (by first|exact hi|exact a0k hi|exact a0k (a0k hi)) (by decide) rfl ?_;refine a0r (fun _ m=>m.keeps (.cons _ (.refl _))) ?_;refine a0f 26 rfl rfl (by kernel_rfl) rfl (.cons _ (.refl _)) rfl (a0j rfl) ?_;refine a0f 27 rfl rfl (by kernel_rfl) rfl (.cons _ (.refl _)) rfl (a0d he rfl) ?_;refine a0i 28 (by kernel_rfl) rfl ?_;refine a1d _ _ (by first|exact hU|exact hU.set rfl _|exact (hU.set rfl _).set rfl _) he rfl rfl rfl rfl rfl (i) 10 (by omega) (by first|exact hi|exact a0k hi|exact a0k (a0k hi)) (by decide) rfl ?_;refine a0r (fun _ m=>m.keeps (.cons _ (.refl _))) ?_;refine a0f 29 rfl rfl (by kernel_rfl) rfl (.cons _ (.refl _)) rfl (a0j rfl) ?_;refine a0f 30 rfl rfl (by kernel_rfl) rfl (.cons _ (.refl _)) rfl (a0d he rfl) ?_;refine a0i 31 (by kernel_rfl) rfl ?_;refine a1d _ _ (by first|exact hU|exact hU.set rfl _|exact (hU.set rfl _).set rfl _) he rfl rfl rfl rfl rfl (i) 12 (by omega) (by first|exact hi|exact a0k hi|exact a0k (a0k hi)) (by decide) rfl ?_;refine a0r (fun _ m=>m.keeps (.cons _ (.refl _))) ?_;refine a0w (by kernel_rfl) ?_;refine a4y rfl ?_;refine a0g ?_;refine a0b ?_;refine a0g ?_;refine a0b ?_;exact b3V (by rw[List.set_set,List.set_set];rfl)
   ·refine a0l rfl (a2s (p.life.cycles.cells) m0 hU he rfl (i) 10 (by omega) hi rfl rfl rfl) ?_;refine a0r (fun _ m=>m.keeps (.cons _ (.refl _))) ?_;refine a0i 9 (by kernel_rfl) rfl ?_;refine a0a (a2m _ p.life.km u.km) rfl rfl ?_;refine a0r (fun _ m=>m.keeps (.cons _ (.refl _))) ?_;refine a0i 16 (by kernel_rfl) rfl ?_;refine a0a (a2m _ p.life.cycles u.cycles) rfl rfl ?_;refine a0r (fun _ m=>m.keeps (.cons _ (.refl _))) ?_;refine a0i 22 (by kernel_rfl) rfl ?_;refine a0a (a2m _ p.life.damage dd) rfl rfl ?_;refine a0r (fun _ m=>m.keeps (.cons _ (.refl _))) ?_;refine a0f 23 rfl rfl (by kernel_rfl) rfl (.cons _ (.refl _)) rfl (a0j rfl) ?_;refine a0f 24 rfl rfl (by kernel_rfl) rfl (.cons _ (.refl _)) rfl (a0d he rfl) ?_;refine a0i 25 (by kernel_rfl) rfl ?_;refine a1d _ _ (by first|exact hU|exact hU.set rfl _|exact (hU.set rfl _).set rfl _) he rfl rfl rfl rfl rfl (i) 8 (by omega) (by first|exact hi|exact a0k hi|exact a0k (a0k hi)) (by decide) rfl ?_;refine a0r (fun _ m=>m.keeps (.cons _ (.refl _))) ?_;refine a0f 26 rfl rfl (by kernel_rfl) rfl (.cons _ (.refl _)) rfl (a0j rfl) ?_;refine a0f 27 rfl rfl (by kernel_rfl) rfl (.cons _ (.refl _)) rfl (a0d he rfl) ?_;refine a0i 28 (by kernel_rfl) rfl ?_;refine a1d _ _ (by first|exact hU|exact hU.set rfl _|exact (hU.set rfl _).set rfl _) he rfl rfl rfl rfl rfl (i) 10 (by omega) (by first|exact hi|exact a0k hi|exact a0k (a0k hi)) (by decide) rfl ?_;refine a0r (fun _ m=>m.keeps (.cons _ (.refl _))) ?_;refine a0f 29 rfl rfl (by kernel_rfl) rfl (.cons _ (.refl _)) rfl (a0j rfl) ?_;refine a0f 30 rfl rfl (by kernel_rfl) rfl (.cons _ (.refl _)) rfl (a0d he rfl) ?_;refine a0i 31 (by kernel_rfl) rfl ?_;refine a1d _ _ (by first|exact hU|exact hU.set rfl _|exact (hU.set rfl _).set rfl _) he rfl rfl rfl rfl rfl (i) 12 (by omega) (by first|exact hi|exact a0k hi|exact a0k (a0k hi)) (by decide) rfl ?_;refine a0r (fun _ m=>m.keeps (.cons _ (.refl _))) ?_;refine a0w (by kernel_rfl) ?_;refine a4y rfl ?_;refine a0g ?_;refine a0b ?_;refine a0g ?_;refine a0b ?_;exact b3V (by rw[List.set_set,List.set_set];rfl)
  ·refine a0l rfl (a2s (p.life.cycles.cells) m0 hU he rfl (i) 10 (by omega) hi rfl rfl rfl) ?_;refine a0r (fun _ m=>m.keeps (.cons _ (.refl _))) ?_;refine a0i 6 (by kernel_rfl) rfl ?_;refine a0l rfl (a2s (p.life.km.cells) m0 hU he rfl (i) 8 (by omega) hi rfl rfl rfl) ?_;refine a0r (fun _ m=>m.keeps (.cons _ (.refl _))) ?_;refine a0i 9 (by kernel_rfl) rfl ?_;refine a0a (a2m _ p.life.km u.km) rfl rfl ?_;refine a0r (fun _ m=>m.keeps (.cons _ (.refl _))) ?_;refine a0i 16 (by kernel_rfl) rfl ?_;refine a0a (a2m _ p.life.cycles u.cycles) rfl rfl ?_;refine a0r (fun _ m=>m.keeps (.cons _ (.refl _))) ?_;refine a0i 22 (by kernel_rfl) rfl ?_;refine a0a (a2m _ p.life.damage dd) rfl rfl ?_;refine a0r (fun _ m=>m.keeps (.cons _ (.refl _))) ?_;refine a0f 23 rfl rfl (by kernel_rfl) rfl (.cons _ (.refl _)) rfl (a0j rfl) ?_;refine a0f 24 rfl rfl (by kernel_rfl) rfl (.cons _ (.refl _)) rfl (a0d he rfl) ?_;refine a0i 25 (by kernel_rfl) rfl ?_;refine a1d _ _ (by first|exact hU|exact hU.set rfl _|exact (hU.set rfl _).set rfl _) he rfl rfl rfl rfl rfl (i) 8 (by omega) (by first|exact hi|exact a0k hi|exact a0k (a0k hi)) (by decide) rfl ?_;refine a0r (fun _ m=>m.keeps (.cons _ (.refl _))) ?_;refine a0f 26 rfl rfl (by kernel_rfl) rfl (.cons _ (.refl _)) rfl (a0j rfl) ?_;refine a0f 27 rfl rfl (by kernel_rfl) rfl (.cons _ (.refl _)) rfl (a0d he rfl) ?_;refine a0i 28 (by kernel_rfl) rfl ?_;refine a1d _ _ (by first|exact hU|exact hU.set rfl _|exact (hU.set rfl _).set rfl _) he rfl rfl rfl rfl rfl (i) 10 (by omega) (by first|exact hi|exact a0k hi|exact a0k (a0k hi)) (by decide) rfl ?_;refine a0r (fun _ m=>m.keeps (.cons _ (.refl _))) ?_;refine a0f 29 rfl rfl (by kernel_rfl) rfl (.cons _ (.refl _)) rfl (a0j rfl) ?_;refine a0f 30 rfl rfl (by kernel_rfl) rfl (.cons _ (.refl _)) rfl (a0d he rfl) ?_;refine a0i 31 (by kernel_rfl) rfl ?_;refine a1d _ _ (by first|exact hU|exact hU.set rfl _|exact (hU.set rfl _).set rfl _) he rfl rfl rfl rfl rfl (i) 12 (by omega) (by first|exact hi|exact a0k hi|exact a0k (a0k hi)) (by decide) rfl ?_;refine a0r (fun _ m=>m.keeps (.cons _ (.refl _))) ?_;refine a0w (by kernel_rfl) ?_;refine a4y rfl ?_;refine a0g ?_;refine a0b ?_;refine a0g ?_;refine a0b ?_;exact b3V (by rw[List.set_set,List.set_set];rfl)
theorem c0C (I:IMap) (x:Evt) (g:Nat) (day:Int) (cg:ICells I g 0 [ci day]) :
    FnV Tryz.prog 89 #[.agg (Day.ch x).toArray,.pointer (some ⟨g,0,none⟩)] I (.bool (decide (x.day>day))):=by
 refine enter Tryz.func89 Tryz.call89 rfl Tryz.ntmps89 rfl (fun w0=>?_)
 show SX _ _ _ (b1J [.agg x.cells.toArray,.pointer (some ⟨g,0,none⟩)] 0) _ _
 refine go 3 ?_;refine a0B _ rfl rfl rfl (fun g2=>?_);refine go 7 ?_;refine o_v rfl (a0W he rfl (cg 0 _ rfl)) ?_;refine go 5 ?_;refine a0x rfl rfl ?_;exact q_v rfl
theorem b2f (I:IMap) (vc:Value) (c:List Kind) (hvc:RdS I vc c) (hsc:SmC c) (f:Fm) (sf:Value) (hf:FmRd I [ci f.op,ci f.n,sf] f) (v:Value) (l:List Evt) (hv:RdS I v l) (hl:l.length≤25) (hse:∀e∈l,SmE e) (day:Int) :
    FnI Tryz.prog 44 #[.agg #[vc,ci f.op,ci f.n,sf],v,.int .i64 day] I (fun u J=>∃w,u = .tuple #[.agg #[w],.int .i64 (runL f c l day).2.1,.int .i64 (runL f c l day).2.2]∧RdS J w (runL f c l day).1):=by
 obtain⟨U,hUe⟩:∃U,a1m (l.filter fun e=>!decide (e.day>day))=U:=⟨_,rfl⟩
 have hUl:U.length≤25:=by rw[←hUe,a4c];exact Nat.le_trans (List.length_filter_le _ _) hl
 have hUs:∀e∈U,SmE e:=fun e he=>hse e (List.mem_filter.1 (a5w.1 (hUe▸he))).1
 refine enter Tryz.func44 Tryz.call44 rfl Tryz.ntmps44 rfl (fun w0=>?_);refine go 3 ?_;refine a0B _ rfl rfl rfl (fun g3=>?_);refine go 1 ?_;refine a0B _ rfl rfl rfl (fun g5=>?_);refine go 1 ?_;refine a0h he rfl (fun g6=>?_);refine go 6 ?_;refine a2z (I':=I) (L':=[(1,v),(3,.pointer (some ⟨g3,0,none⟩)),(5,.pointer (some ⟨g5,0,none⟩)),(6,.pointer (some ⟨g6,0,none⟩)),(27,.bool (!a0Y c || !a1G f))]) (H':=[.blk g3 72 [vc,ci f.op,ci f.n,sf],.blk g5 3 [ci day],.blk g6 53 [.slice none 0 0]]) ?_ ?_
 ·refine go 2 ?_;refine o_v rfl (a2o ([vc]) m2 he rfl rfl rfl) ?_;refine go 1 ?_;refine a0a (a8N _ vc c hvc hsc) rfl rfl ?_;refine go 2 ?_;refine sxb 22 rfl (fun h22 p22=>?_) (fun h22 p22=>?_)
  ·refine go 7 ?_;refine a0g ?_;refine a0u ?_;exact a0E ⟨rfl,rfl,rfl,rfl,(congrArg (fun b=>some (Value.bool b)) (by simp only[h22,bS])),trivial⟩ rfl rfl
  ·refine go 1 ?_;refine a0v (a0y rfl rfl h22 (a0l rfl (a2o ([ci f.op,ci f.n,sf]) m2 he rfl rfl rfl) ?_));refine go 1 ?_;refine a0y rfl rfl h22 (a0a (c0f _ f _ hf) rfl rfl ?_);refine go 4 ?_;refine a0g ?_;refine a0u ?_;exact a0E ⟨rfl,rfl,rfl,rfl,(congrArg (fun b=>some (Value.bool b)) (by simp only[h22,bS])),trivial⟩ rfl rfl
 ·refine cb rfl (fun h27 p27=>?_) (fun h27 p27=>?_)
  ·refine go 3 ?_;refine a0l rfl (a0A (pl:=[(0,1)]) he he rfl rfl) ?_;refine go 1 ?_;refine a0u ?_;refine a0m _ he rfl rfl rfl rfl rfl rfl ?_;refine go 6 ?_;refine c3j rfl ⟨_,_,_,rfl,m0,.inr ⟨_,he,rfl,rfl⟩⟩ rfl rfl ?_;exact q_i ⟨_,by rw[b7o h27],by rw[b7o h27];exact RdS.nil'⟩
  ·refine go 6 ?_;refine a0g ?_;refine a2f (fun Ig5 jg5 cg5=>?_)
   have hvc:=hvc.le jg5
   have hv:=hv.le jg5
   have hf:=hf.le jg5
   refine a3o (b9B _ v l hv (by omega)) rfl rfl (fun v30 s30 q30=>?_);obtain⟨xss,rfl,hx⟩:=q30;obtain rfl:=b9R hx;refine o_v rfl (a1a rfl rfl) ?_;refine go 1 ?_;refine c7B (b0t _ _ l (by omega) 89 [.pointer (some ⟨g5,0,none⟩)] (fun x=>decide (x.day>day)) (fun I2 hI2 x=>c0C I2 x g5 day (cg5.le hI2))) rfl rfl (fun v32 I32 j32 q32=>?_)
   have hvc:=hvc.le j32
   have hf:=hf.le j32
   refine go 6 ?_;refine a0h he rfl (fun g10=>?_);refine go 7 ?_;refine a0F (d1w _ _ (l.filter fun e=>!decide (e.day>day)) q32 (Nat.le_trans (List.length_filter_le _ _) (by omega))) rfl rfl (fun v34 I34 j34 q34=>?_)
   have hvc:=hvc.le j34
   have hf:=hf.le j34
   rw[hUe]at q34
   have R34:=q34
   obtain⟨A34,c34,rfl,hA34,_,_⟩:=q34;refine go 5 ?_;refine a0g ?_;refine a0u ?_;refine a0u ?_
   refine a5b ((0:Nat)) ([]) (.slice none 0 0) (I34) (fun i st v10 J=>J)
    (fun i st v10 J=>[(3,.pointer (some ⟨g3,0,none⟩)),(6,.pointer (some ⟨g6,0,none⟩)),(10,.pointer (some ⟨g10,0,none⟩)),(34,.slice A34 U.length c34),(35,.int .i64 ((U.length:Nat):Int)),(36,.int .i64 ((i:Nat):Int))])
    (fun i st v10 J=>[.blk g10 53 [v10],.blk g6 53 [.slice none 0 0],.blk g3 72 [vc,ci f.op,ci f.n,sf]])
    (fun i st v10 J=>i≤U.length∧ILe I34 J∧RdS J v10 st∧SmF st∧b0K st≤i∧runLGo f c st (i:Nat) (U.drop i)=runL f c l day)
    (fun i st v10 J=>U.length-i) ⟨Nat.zero_le _,ILe.refl _,RdS.nil',SmF.nil,Nat.le_refl _,by rw[c8e h27,hUe];rfl⟩ rfl sb rfl ?_
   intro i st v10 J ⟨hi,hJ,hv10,hsf,hcn,hgo⟩
   have hvc:=hvc.le hJ
   have hf:=hf.le hJ
   have hA34:=hA34.le hJ
   refine go 6 ?_;refine cb rfl (fun h37 p37=>?_) (fun h37 p37=>?_)
   ·have hlt:i<U.length:=by omega
    refine go 7 ?_;obtain⟨b39,o39,w39,e39,c39,r39⟩:=RdA.at_ hA34 (i:=i) (by omega);obtain rfl:=r39;refine o_v rfl (a0n he rfl rfl e39 (i) (by omega) (by omega)) ?_;refine o_v rfl (a0H he rfl c39 rfl) ?_;refine go 1 ?_;refine a0h he rfl (fun g12=>?_);refine go 2 ?_;refine a0m _ he rfl rfl rfl rfl rfl rfl ?_;refine go 5 ?_;refine o_v rfl (a2o ([vc]) m3 he rfl rfl rfl) ?_;refine go 3 ?_;refine a0F (c0b _ vc c hvc hsc v10 st hv10 hsf U[i] (hUs _ (List.getElem_mem hlt))) rfl rfl (fun v46 I46 j46 q46=>?_)
    have hvc:=hvc.le j46
    have hf:=hf.le j46
    have hA34:=hA34.le j46
    obtain⟨w46,rfl,hw46⟩:=q46;refine go 4 ?_;refine a0h he rfl (fun g13=>?_);refine go 1 ?_;refine a0m _ he rfl rfl rfl rfl rfl (by simp[RdS.one hw46]) ?_;refine go 10 ?_;refine cb rfl (fun h50 p50=>?_) (fun h50 p50=>?_)
    ·refine go 3 ?_;refine a0l rfl (a0A (pl:=[(0,1)]) he he rfl rfl) ?_;refine go 3 ?_;refine a1k ?_;refine a0m _ he rfl rfl rfl rfl rfl rfl ?_;refine go 11 ?_;refine c3j rfl ⟨_,_,_,rfl,m0,.inr ⟨_,he,rfl,rfl⟩⟩ rfl rfl ?_
     have hr:runL f c l day=([],((i:Nat):Int),(a0p c st U[i]).2):=by rw[←hgo,c3s hlt p50]
     exact q_i ⟨_,by rw[hr]<;>rfl,by rw[hr];exact RdS.nil'⟩
    ·have h0:(a0p c st U[i]).2=0:=by simpa using h50
     have hsm:=b2N (c:=c) hsf (hUs _ (List.getElem_mem hlt))
     have hc1:=b9F h0
     have hc2:(a0p c st U[i]).1.length+b8f (a0p c st U[i]).1≤i+1:=by unfold b0K at *;omega
     have hfl:b8f (a0p c st U[i]).1≤(a0p c st U[i]).1.length:=List.length_filter_le _ _
     have hfn:b8f (a0p c st U[i]).1≤12:=by omega
     refine go 7 ?_;refine a0u ?_;refine a0m _ he rfl rfl rfl rfl rfl (by simp[RdS.one hw46]) ?_;refine go 9 ?_;refine cb rfl (fun h57 p57=>?_) (fun h57 p57=>?_)
     ·refine go 9 ?_;refine a0g ?_;refine a0b ?_;refine a0g ?_;refine a0b ?_;exact a2U (i+1) ((a0p c st U[i]).1) (w46) (I46) ⟨by omega,hJ.trans j46,hw46,hsm,by omega,(c0l hlt h0 p57).symm.trans hgo⟩ (by omega) rfl sb rfl
     ·have h4:U[i].op=4:=by simpa using h57
      refine go 3 ?_;refine b9y (Ix:=(fun v15 ns ys=>I46)) (Lx:=(fun v15 ns ys=>[(3,.pointer (some ⟨g3,0,none⟩)),(6,.pointer (some ⟨g6,0,none⟩)),(10,.pointer (some ⟨g10,0,none⟩)),(34,.slice A34 U.length c34),(35,.int .i64 ((U.length:Nat):Int)),(36,.int .i64 ((i:Nat):Int)),(12,.pointer (some ⟨g12,0,none⟩)),(15,v15)])) (Hx:=(fun v15 ns ys=>[.row v15 9 1 (ns++[U[i].part]).length ys,.blk g10 53 [w46],.blk g12 96 U[i].cells,.blk g6 53 [.slice none 0 0],.blk g3 72 [vc,ci f.op,ci f.n,sf]])) (p:=(fun v15 ns ys=>Flat I46 ys (ns++[U[i].part])∧∀n,n∈ns↔b1D (a0p c st U[i]).1 U[i].part n)) ?_ ?_
      ·refine a1h T.mixed ?_;refine a0f 0 rfl rfl (by kernel_rfl) rfl (.refl _) rfl (a4d m0 he rfl rfl) ?_;refine a0f 1 rfl rfl (by kernel_rfl) rfl (.refl _) rfl (a0d he rfl) ?_;refine a0f 2 rfl rfl (by kernel_rfl) rfl (.refl _) rfl (a6t m2 he rfl rfl) ?_;refine a0f 4 rfl rfl (by kernel_rfl) rfl (.refl _) rfl (a0d he rfl) ?_;refine a0f 5 rfl rfl (by kernel_rfl) rfl (.refl _) rfl (a6t m2 he rfl rfl) ?_;refine a2A 3 6 (by kernel_rfl) rfl rfl ?_ ?_
       ·refine a3o (b6o _ _ (a0p c st U[i]).1 hw46 U[i].part hfn) rfl rfl (fun v61 s61 q61=>?_);obtain⟨ns,rfl,hns,hnl⟩:=q61;refine a0r (fun _ m=>m.keeps (.cons _ (.refl _))) ?_;refine a0i 6 (by kernel_rfl) rfl ?_;refine a0e he he rfl rfl rfl rfl rfl rfl rfl (fun v64=>?_);refine a0r (fun _ m=>m.keeps (.cons _ (.cons _ (.refl _)))) ?_;refine a0i 7 (by kernel_rfl) rfl ?_;refine a0g ?_;refine a1r he he rfl rfl rfl rfl rfl (by omega) (by omega) rfl (fun v65=>?_);refine a0r (fun _ m=>m.keeps (.cons _ (.cons _ (.refl _)))) ?_;refine a0f 8 rfl rfl (by kernel_rfl) rfl (.cons _ (.cons _ (.refl _))) rfl (a0I rfl) ?_;refine a0w (by kernel_rfl) ?_;refine go 1 ?_;refine a0g ?_;refine a0b ?_;refine a0u ?_;refine a0b ?_;exact a5I (_) (ns) (_) ⟨(a7F _ ns).flat.append (.one rfl),hns⟩ sb (by rw[List.length_append];rfl) rfl
       ·refine a0e he he rfl rfl rfl rfl rfl rfl rfl (fun v64=>?_);refine a0r (fun _ m=>m.keeps (.cons _ (.refl _))) ?_;refine a0i 3 (by kernel_rfl) rfl ?_;refine a3o (b6o _ _ (a0p c st U[i]).1 hw46 U[i].part hfn) rfl rfl (fun v61 s61 q61=>?_);obtain⟨ns,rfl,hns,hnl⟩:=q61;refine a0r (fun _ m=>m.keeps (.cons _ (.cons _ (.refl _)))) ?_;refine a0i 7 (by kernel_rfl) rfl ?_;refine a0g ?_;refine a0g ?_;refine a1r he he rfl rfl rfl rfl rfl (by omega) (by omega) rfl (fun v65=>?_);refine a0r (fun _ m=>m.keeps (.cons _ (.cons _ (.refl _)))) ?_;refine a0f 8 rfl rfl (by kernel_rfl) rfl (.cons _ (.cons _ (.refl _))) rfl (a0I rfl) ?_;refine a0w (by kernel_rfl) ?_;refine go 1 ?_;refine a0g ?_;refine a0b ?_;refine a0u ?_;refine a0b ?_;exact a5I (_) (ns) (_) ⟨(a7F _ ns).flat.append (.one rfl),hns⟩ sb (by rw[List.length_append];rfl) rfl
      ·intro v15 ns ys ⟨hF15,hns⟩;refine go 2 ?_;refine a0o (l:=(ns++[U[i].part])) rfl rfl (hF15) (fun I66 j66 R66=>?_)
       have hvc:=hvc.le j66
       have hf:=hf.le j66
       have hA34:=hA34.le j66
       have hw46:=hw46.le j66
       have R66s:=R66
       obtain⟨A15,c15,rfl,_,_,_⟩:=R66s;refine go 1 ?_;refine o_v rfl (a2o ([ci f.op,ci f.n,sf]) m3 he rfl rfl rfl) ?_;refine go 1 ?_;refine o_v rfl (a2o (U[i].use.cells) m1 he rfl rfl rfl) ?_;refine go 1 ?_;refine a0a (c3q _ f _ hf U[i].use) rfl rfl ?_;refine go 1 ?_;refine a0h he rfl (fun g16=>?_);refine go 1 ?_;refine a0m _ he rfl rfl rfl rfl rfl rfl ?_;refine go 7 ?_;refine a3o (b0I _ _ (a0p c st U[i]).1 hw46 (by omega)) rfl rfl (fun v73 s73 q73=>?_);obtain⟨xss,rfl,hx⟩:=q73
       have hpos:0<(a0p c st U[i]).1.length:=by rw[a6X h0 h4];exact c8f h0 h4
       refine a8z hx.uk hx.len (fun h9 _=>absurd h9 (by omega)) (fun g73 cap73 rest73 e73 hR73 hc73 hm73=>?_);subst e73;refine go 2 ?_;refine a0u ?_;refine a3r he rfl rfl rfl rfl ?_;refine go 11 ?_;refine b2T ?_;refine b2T ?_;refine b2T ?_;refine a1k ?_;refine b2T ?_;refine b2T ?_
       refine a1w ((0:Nat)) (xss) (fun k xss=>I66)
        (fun k xss=>[(3,.pointer (some ⟨g3,0,none⟩)),(6,.pointer (some ⟨g6,0,none⟩)),(10,.pointer (some ⟨g10,0,none⟩)),(34,.slice A34 U.length c34),(35,.int .i64 ((U.length:Nat):Int)),(36,.int .i64 ((i:Nat):Int)),(12,.pointer (some ⟨g12,0,none⟩)),(15,.slice A15 (ns++[U[i].part]).length c15),(16,.pointer (some ⟨g16,0,none⟩)),(77,.int .i64 (((a0p c st U[i]).1.length:Nat):Int)),(78,.int .i64 ((k:Nat):Int))])
        (fun k xss=>[.blk g73 48 (xss++rest73).flatten,.blk g16 44 (b0p f U[i].use).cells,.blk g10 53 [.slice (some ⟨g73,0,none⟩) (a0p c st U[i]).1.length cap73],.blk g12 96 U[i].cells,.blk g6 53 [.slice none 0 0],.blk g3 72 [vc,ci f.op,ci f.n,sf]])
        (fun k xss=>k≤(a0p c st U[i]).1.length∧FlatC I66 xss (useUp (a0p c st U[i]).1 U[i] (b0p f U[i].use) k))
        (fun k xss=>(a0p c st U[i]).1.length-k) ⟨Nat.zero_le _,by rw[b8T];exact hx⟩ rfl sb rfl ?_
       intro k xss ⟨hk,hx⟩;refine go 6 ?_;refine cb rfl (fun h79 p79=>?_) (fun h79 p79=>?_)
       ·have hlk:k<(a0p c st U[i]).1.length:=by omega
        have hlx:k<xss.length:=by rw[hx.len,b4l];exact hlk
        obtain⟨q,hkc,hq⟩:=c2N hx (b7D hlk) rest73
        have hU14:Uk 14 (xss++rest73):=hx.uk.append hR73
        refine go 16 ?_;refine o_v rfl (a0n he rfl rfl rfl (k) (by omega) (by omega)) ?_;refine go 1 ?_;refine o_v rfl (c5K m0 hU14 he rfl (k) 0 (by omega) hkc rfl) ?_;refine go 1 ?_;refine a0a (a4D _ _ (ns++[U[i].part]) R66 _) rfl rfl ?_;refine go 2 ?_;refine cb rfl (fun h88 p88=>?_) (fun h88 p88=>?_)
        ·refine a1t T.mixed ?_;refine a0f 0 rfl rfl (by kernel_rfl) rfl (.cons _ (.refl _)) rfl (a0d he rfl) ?_;refine a0f 1 rfl rfl (by kernel_rfl) rfl (.cons _ (.refl _)) rfl (a6t m1 he rfl rfl) ?_;refine a0f 2 rfl rfl (by kernel_rfl) rfl (.cons _ (.refl _)) rfl (a0c rfl) ?_;refine a0f 3 rfl rfl (by kernel_rfl) rfl (.cons _ (.refl _)) rfl (a0n he rfl rfl rfl (k) (by omega) (by omega)) ?_;refine a0f 4 rfl rfl (by kernel_rfl) rfl (.cons _ (.refl _)) rfl (a0d he rfl) ?_;refine a0f 5 rfl rfl (by kernel_rfl) rfl (.cons _ (.refl _)) rfl (a0d he rfl) ?_;refine a0f 6 rfl rfl (by kernel_rfl) rfl (.cons _ (.refl _)) rfl (a2o (U[i].use.cells) m2 he rfl rfl rfl) ?_;refine a0f 7 rfl rfl (by kernel_rfl) rfl (.cons _ (.refl _)) rfl (a4d m0 he rfl rfl) ?_;refine a0i 8 (by kernel_rfl) rfl ?_;refine a4G (c7p _ g73 48 k hU14 (a0p c st U[i]).1[k] q hkc U[i].use (b0p f U[i].use) _ (by omega)) rfl rfl ?_;refine a0r (fun _ m=>m.keeps (.cons _ (.refl _))) ?_;refine a0w (by kernel_rfl) ?_;refine go 7 ?_;exact a0M (k+1) (_) ⟨by omega,by rw[b1x hlk,c4S hlk hns p88];exact hx.set (x:=a9k (b0p f U[i].use) U[i].use (a0p c st U[i]).1[k]) ⟨q,rfl,hq⟩ k⟩ (by omega) rfl sb (by rw[List.set_append_left _ _ hlx])
        ·refine go 8 ?_;exact a0M (k+1) (_) ⟨by omega,by rw[c4Q hlk hns p88];exact hx⟩ (by omega) rfl sb rfl
       ·obtain rfl:k=(a0p c st U[i]).1.length:=by omega
        rw[c1T]at hx
        refine a2L hx.uk hR73 (by rw[hx.len,use_len]) hc73 hm73 ?_;refine a0o (l:=useL (a0p c st U[i]).1 U[i] (b0p f U[i].use)) rfl use_len.symm hx.flat (fun I9 j9 R9=>?_);refine go 11 ?_;refine a0b ?_;refine a0g ?_;refine a0b ?_;exact a2U (i+1) (useL (a0p c st U[i]).1 U[i] (b0p f U[i].use)) (_) (I9) ⟨by omega,hJ.trans (j46.trans (j66.trans j9)),R9,d0I hsm,by rw[c6A];omega,(c7a hlt h0 h4).symm.trans hgo⟩ (by omega) rfl sb rfl
   ·refine go 9 ?_;refine a0g ?_;refine a0m _ he rfl rfl rfl rfl rfl (by simp[RdS.one hv10]) ?_;refine go 5 ?_;refine c3j rfl ⟨_,_,_,rfl,m0,.inr ⟨_,he,rfl,rfl⟩⟩ rfl rfl ?_
    have hr:runL f c l day=(st,-1,0):=by rw[←hgo,c6Z (by omega)]
    exact q_i ⟨_,by rw[hr]<;>rfl,by rw[hr];exact hv10⟩
end Go.Proofs.YtdapmfkbpnjkmaaGreat
set_option linter.all false
namespace Go.Sx
open Go
def sKm:ByteArray:=⟨#[107,109]⟩
def a2j:ByteArray:=⟨#[99,121,99,108,101,115]⟩
def a2r:ByteArray:=⟨#[100,97,109,97,103,101]⟩
def a2u:ByteArray:=⟨#[100,97,121,115]⟩
def a6y:ByteArray:=⟨#[97,103,101]⟩
def c5m:List ByteArray:=[sKm,a2j,a2r,a2u,a6y]
def a5W (s:ByteArray):Bool:=decide (s∈c5m)
def a3F (day a:Int):Ivl:=if a≥day then a4R else ⟨day-max a (day-(1000000000000:Int)),day-max a (day-(1000000000000:Int))⟩
def b6b (p:Part) (s:ByteArray) (day:Int):Ivl:=if s=sKm then p.life.km else if s=a2j then p.life.cycles else if s=a2r then p.life.damage else if s=a2u then a3F day p.since else a3F day p.made
def a5y (p:Part) (s:ByteArray) (day:Int):Ivl×Int:=if a5W s=false then (a4R,15) else if (decide (day<0)||decide (day>40000))=true then (a4R,13) else (b6b p s day,0)
section
variable {p:Part} {s:ByteArray} {day:Int}
theorem b7I (h:a5W s=false):a5y p s day=(a4R,15):=if_pos h
theorem c2g (h:a5W s=true) (hd:(decide (day<0)||decide (day>40000))=true):a5y p s day=(a4R,13):=by unfold a5y;rw[if_neg (by rw[h];decide),if_pos hd]
theorem b4u (h:a5W s=true) (hd:(decide (day<0)||decide (day>40000))=false):a5y p s day=(b6b p s day,0):=by unfold a5y;rw[if_neg (by rw[h];decide),if_neg (by rw[hd];decide)]
theorem b6d (v1 v2 v3 v4 v5:Value) (s:ByteArray):a4W [(sKm,v1),(a2j,v2),(a2r,v3),(a2u,v4),(a6y,v5)] s=if s=sKm then some v1 else if s=a2j then some v2 else if s=a2r then some v3 else if s=a2u then some v4 else if s=a6y then some v5 else none:=by
 simp only[a4W]
 simp only[eq_comm (b:=s)]
theorem b2Z (s:ByteArray):(s=sKm∨s=a2j∨s=a2r∨s=a2u∨s=a6y)∨a5W s=false:=by
 cases h:a5W s with
 |false=>exact .inr rfl
 |true=>
  left
  have h1:s∈c5m:=of_decide_eq_true h
  simpa[c5m]using h1
theorem c5n:(sKm≠a2j∧sKm≠a2r∧sKm≠a2u∧sKm≠a6y)∧(a2j≠a2r∧a2j≠a2u∧a2j≠a6y)∧(a2r≠a2u∧a2r≠a6y)∧a2u≠a6y:=by decide +kernel
end
section
variable {P:Program} {ρ:Option Nat} {n:Sz} {E:Ent} {I I':IMap} {L:LL} {H H0:List Res} {Q:Exit→Act→World→Prop} {ops:Array Oper} {K:Act→World→Prop}
variable {d ty:Nat} {pos:String} {af:Array Edge} {fo x y z:Operand} {as_:List Operand} {ats:Array TypeId} {f:FuncId} {args:List Value}
theorem a7w {κ:Type} [DecidableEq κ] {enc:κ→Value} {mt kt et r:Nat} {v:Value} {kvs:List (κ×Value)} (kvs':List (κ×Value)) (hK:KeyOK P kt enc) (ht:P.underlying mt=some (.map kt et)) (key:κ) (hx:ev L x=some (.map (some r))) (hy:ev L y=some (enc key)) (hv:ev L z=some v)
  (he:a5N kvs key v=kvs') (k:SX n E I L (.mp r (a2t enc kvs')::H) K):SX n E I L (.mp r (a2t enc kvs)::H) (one P ops Q ⟨none,.insert mt x y z,ty,pos,af,none⟩ K):=by
 intro a w st mm
 have h1:=a4t (P:=P) (n:=n) (E:=E) (I:=I) (L:=L) (H:=H) (Q:=Q) (ops:=ops) (K:=K) (ty:=ty) (pos:=pos) (af:=af) kvs' hK ht key hx hy hv he k a w st mm
 exact h1
end
end Go.Sx
namespace Go.Proofs.YtdapmfkbpnjkmaaGreat
open Go Go.Sx
set_option linter.all false
set_option maxRecDepth 20000
set_option maxHeartbeats 4000000
instance T.ty_240:Has (tyK Tryz.prog 240) (false,1):=⟨by kernel_rfl⟩
instance T.und_162:Has (Tryz.prog.underlying 162) (.map 9 160):=⟨by kernel_rfl⟩
instance T.zero_240:Has (a1Z Tryz.prog 240) [.nilFunc]:=⟨by kernel_rfl⟩
instance T.zv_160:Has (zvK Tryz.prog 160) (.nilFunc):=⟨by kernel_rfl⟩
theorem b3t (I:IMap) (day a:Int) (hd:0≤day∧day≤40000) :
    FnV Tryz.prog 161 #[.int .i64 (day),.int .i64 (a)] I (.agg (a3F day a).cells.toArray):=by
 refine enter Tryz.func161 Tryz.call161 rfl Tryz.ntmps161 rfl (fun w0=>?_);refine go 3 ?_;refine a0h he rfl (fun g4=>?_);refine go 10 ?_;refine cb rfl (fun h8 p8=>?_) (fun h8 p8=>?_)
 ·refine go 3 ?_;refine a0l rfl (a0A (pl:=[(0,1),(1,1)]) he he rfl rfl) ?_;refine go 1 ?_;refine a0m _ he rfl rfl rfl rfl rfl rfl ?_;refine go 4 ?_;refine a0x rfl ⟨_,_,_,rfl,m0,.inr ⟨_,he,rfl,rfl⟩⟩ ?_;exact q_v (by unfold a3F;rw[if_pos p8];rfl)
 ·refine go 8 ?_;refine o_v rfl (OV.cast (u:=.int .i64 (max a (day-(1000000000000:Int)))) (a5M rfl rfl) (congrArg (Value.int .i64) (by omega))) ?_;refine go 9 ?_;refine a0l rfl (a0A (pl:=[(0,1),(1,1)]) he he rfl rfl) ?_;refine go 1 ?_;refine a0m _ he rfl rfl rfl rfl rfl rfl ?_;refine go 3 ?_;refine a0x rfl ⟨_,_,_,rfl,m0,.inr ⟨_,he,rfl,rfl⟩⟩ ?_;exact q_v (by unfold a3F;rw[if_neg p8];rfl)
theorem c9t (I:IMap) (p:Part) (q:Value) (day:Int) (hd:0≤day∧day≤40000) :
    FnV Tryz.prog 162 #[.agg (p.cells q).toArray,.int .i64 (day)] I (.agg p.life.km.cells.toArray):=by
 refine enter Tryz.func162 Tryz.call162 rfl Tryz.ntmps162 rfl (fun w0=>?_);refine go 3 ?_;refine a0B _ rfl rfl rfl (fun g2=>?_);refine go 1 ?_;refine a0h he rfl (fun g4=>?_);refine go 6 ?_;refine o_v rfl (a2o (p.life.km.cells) m1 he rfl rfl rfl) ?_;refine go 1 ?_;refine a0m _ he rfl rfl rfl rfl rfl rfl ?_;refine go 3 ?_;refine a0x rfl ⟨_,_,_,rfl,m0,.inr ⟨_,he,rfl,rfl⟩⟩ ?_;exact q_v rfl
theorem b7Z (I:IMap) (p:Part) (q:Value) (day:Int) (hd:0≤day∧day≤40000) :
    FnV Tryz.prog 163 #[.agg (p.cells q).toArray,.int .i64 (day)] I (.agg p.life.cycles.cells.toArray):=by
 refine enter Tryz.func163 Tryz.call163 rfl Tryz.ntmps163 rfl (fun w0=>?_);refine go 3 ?_;refine a0B _ rfl rfl rfl (fun g2=>?_);refine go 1 ?_;refine a0h he rfl (fun g4=>?_);refine go 6 ?_;refine o_v rfl (a2o (p.life.cycles.cells) m1 he rfl rfl rfl) ?_;refine go 1 ?_;refine a0m _ he rfl rfl rfl rfl rfl rfl ?_;refine go 3 ?_;refine a0x rfl ⟨_,_,_,rfl,m0,.inr ⟨_,he,rfl,rfl⟩⟩ ?_;exact q_v rfl
theorem b8a (I:IMap) (p:Part) (q:Value) (day:Int) (hd:0≤day∧day≤40000) :
    FnV Tryz.prog 164 #[.agg (p.cells q).toArray,.int .i64 (day)] I (.agg p.life.damage.cells.toArray):=by
 refine enter Tryz.func164 Tryz.call164 rfl Tryz.ntmps164 rfl (fun w0=>?_);refine go 3 ?_;refine a0B _ rfl rfl rfl (fun g2=>?_);refine go 1 ?_;refine a0h he rfl (fun g4=>?_);refine go 6 ?_;refine o_v rfl (a2o (p.life.damage.cells) m1 he rfl rfl rfl) ?_;refine go 1 ?_;refine a0m _ he rfl rfl rfl rfl rfl rfl ?_;refine go 3 ?_;refine a0x rfl ⟨_,_,_,rfl,m0,.inr ⟨_,he,rfl,rfl⟩⟩ ?_;exact q_v rfl
theorem b9J (I:IMap) (p:Part) (q:Value) (day:Int) (hd:0≤day∧day≤40000) (g:Nat) (hg:ICells I g 0 [.func (.func 161) #[] #[]]) :
    FnV Tryz.prog 165 #[.agg (p.cells q).toArray,.int .i64 (day),.pointer (some ⟨g,0,none⟩)] I (.agg (a3F day p.since).cells.toArray):=by
 refine enter Tryz.func165 Tryz.call165 rfl Tryz.ntmps165 rfl (fun w0=>?_);refine go 3 ?_;refine a0B _ rfl rfl rfl (fun g3=>?_);refine go 1 ?_;refine a0h he rfl (fun g5=>?_);refine go 4 ?_;refine o_v rfl (a0W he rfl (hg 0 _ rfl)) ?_;refine go 4 ?_;refine a0a (b3t _ day p.since hd) rfl rfl ?_;refine go 1 ?_;refine a0m _ he rfl rfl rfl rfl rfl rfl ?_;refine go 3 ?_;refine a0x rfl ⟨_,_,_,rfl,m0,.inr ⟨_,he,rfl,rfl⟩⟩ ?_;exact q_v rfl
theorem c2P (I:IMap) (p:Part) (q:Value) (day:Int) (hd:0≤day∧day≤40000) (g:Nat) (hg:ICells I g 0 [.func (.func 161) #[] #[]]) :
    FnV Tryz.prog 166 #[.agg (p.cells q).toArray,.int .i64 (day),.pointer (some ⟨g,0,none⟩)] I (.agg (a3F day p.made).cells.toArray):=by
 refine enter Tryz.func166 Tryz.call166 rfl Tryz.ntmps166 rfl (fun w0=>?_);refine go 3 ?_;refine a0B _ rfl rfl rfl (fun g3=>?_);refine go 1 ?_;refine a0h he rfl (fun g5=>?_);refine go 4 ?_;refine o_v rfl (a0W he rfl (hg 0 _ rfl)) ?_;refine go 4 ?_;refine a0a (b3t _ day p.made hd) rfl rfl ?_;refine go 1 ?_;refine a0m _ he rfl rfl rfl rfl rfl rfl ?_;refine go 3 ?_;refine a0x rfl ⟨_,_,_,rfl,m0,.inr ⟨_,he,rfl,rfl⟩⟩ ?_;exact q_v rfl
def c9s (g:Nat):List (ByteArray×Value):=[(sKm,.func (.func 162) #[] #[]),(a2j,.func (.func 163) #[] #[]),(a2r,.func (.func 164) #[] #[]),(a2u,.func (.func 165) #[] #[.pointer (some ⟨g,0,none⟩)]),(a6y,.func (.func 166) #[] #[.pointer (some ⟨g,0,none⟩)])]
theorem c0D (I:IMap) :
    FnH Tryz.prog 97 #[] I [] (fun u J H2=>∃m g,u = .map (some m)∧H2=[.mp m (a2t Value.string (c9s g))]∧ICells J g 0 [.func (.func 161) #[] #[]]):=by
 refine enter Tryz.func97 Tryz.call97 rfl Tryz.ntmps97 rfl (fun w0=>?_);refine go 8 ?_;refine a0h he rfl (fun g1=>?_);refine go 1 ?_;refine a0m _ he rfl rfl rfl rfl rfl rfl ?_;refine go 5 ?_;refine a7v (Value.string) he rfl (fun r2=>?_);refine go 1 ?_;refine a7w ([(sKm,.func (.func 162) #[] #[])]) (a0R he) he (sKm) rfl rfl rfl (rfl) ?_;refine go 1 ?_;refine a7w ([(sKm,.func (.func 162) #[] #[]),(a2j,.func (.func 163) #[] #[])]) (a0R he) he (a2j) rfl rfl rfl (rfl) ?_;refine go 1 ?_;refine a7w ([(sKm,.func (.func 162) #[] #[]),(a2j,.func (.func 163) #[] #[]),(a2r,.func (.func 164) #[] #[])]) (a0R he) he (a2r) rfl rfl rfl (rfl) ?_;refine o_v rfl (a1a rfl rfl) ?_;refine go 1 ?_;refine a7w ([(sKm,.func (.func 162) #[] #[]),(a2j,.func (.func 163) #[] #[]),(a2r,.func (.func 164) #[] #[]),(a2u,.func (.func 165) #[] #[.pointer (some ⟨g1,0,none⟩)])]) (a0R he) he (a2u) rfl rfl rfl (rfl) ?_;refine o_v rfl (a1a rfl rfl) ?_;refine go 1 ?_;refine a7w ([(sKm,.func (.func 162) #[] #[]),(a2j,.func (.func 163) #[] #[]),(a2r,.func (.func 164) #[] #[]),(a2u,.func (.func 165) #[] #[.pointer (some ⟨g1,0,none⟩)]),(a6y,.func (.func 166) #[] #[.pointer (some ⟨g1,0,none⟩)])]) (a0R he) he (a6y) rfl rfl rfl (rfl) ?_;refine go 5 ?_;refine a0x rfl rfl ?_;refine a0g ?_;refine a2f (fun J9 j9 c9=>?_);exact a4Y (fun _ m=>m) ⟨_,g1,rfl,rfl,c9⟩
theorem b6c (I:IMap) (g:Nat) (hg:ICells I g 0 [.func (.func 161) #[] #[]]) (s:ByteArray):∃(z:Value) (b:Bool),(a4W (c9s g) s).getD .nilFunc=z∧(a4W (c9s g) s).isSome=b∧b=a5W s∧(b=true→∃(k:FuncId) (cs:List Value),z = .func (.func k) #[] cs.toArray ∧
  ∀J,ILe I J→∀(p:Part) (q:Value) (day:Int),0≤day∧day≤40000→FnV Tryz.prog k ([Value.agg (p.cells q).toArray,.int .i64 day]++cs).toArray J (.agg (b6b p s day).cells.toArray)):=by
 obtain⟨⟨n1,n2,n3,n4⟩,⟨n5,n6,n7⟩,⟨n8,n9⟩,n10⟩:=c5n;refine⟨_,_,rfl,rfl,?_,?_⟩
 ·rw[c9s,b6d]
  rcases b2Z s with h|h
  ·rcases h with rfl|rfl|rfl|rfl|rfl<;>simp[a5W,c5m, *,Ne.symm,n1.symm,n2.symm,n3.symm,n4.symm,n5.symm,n6.symm,n7.symm,n8.symm,n9.symm,n10.symm]
  ·rw[h]
   have h2:s∉c5m:=by simpa[a5W]using h
   simp only[c5m,List.mem_cons,List.not_mem_nil,or_false,not_or]at h2
   simp[h2]
 ·intro hs;rw[c9s,b6d]at hs ⊢
  rcases b2Z s with h|h
  ·rcases h with rfl|rfl|rfl|rfl|rfl
   ·exact⟨162,[],by simp,fun J _ p q day hd=>by rw[b6b,if_pos rfl];exact c9t J p q day hd⟩
   ·exact⟨163,[],by simp[n1.symm],fun J _ p q day hd=>by rw[b6b,if_neg n1.symm,if_pos rfl];exact b7Z J p q day hd⟩
   ·exact⟨164,[],by simp[n2.symm,n5.symm],fun J _ p q day hd=>by rw[b6b,if_neg n2.symm,if_neg n5.symm,if_pos rfl];exact b8a J p q day hd⟩
   ·exact⟨165,[.pointer (some ⟨g,0,none⟩)],by simp[n3.symm,n6.symm,n8.symm],fun J hJ p q day hd=>by rw[b6b,if_neg n3.symm,if_neg n6.symm,if_neg n8.symm,if_pos rfl];exact b9J J p q day hd g (hg.le hJ)⟩
   ·exact⟨166,[.pointer (some ⟨g,0,none⟩)],by simp[n4.symm,n7.symm,n9.symm,n10.symm],fun J hJ p q day hd=>by rw[b6b,if_neg n4.symm,if_neg n7.symm,if_neg n9.symm,if_neg n10.symm];exact c2P J p q day hd g (hg.le hJ)⟩
  ·exfalso
   have h2:s∉c5m:=by simpa[a5W]using h
   simp only[c5m,List.mem_cons,List.not_mem_nil,or_false,not_or]at h2
   simp[h2]at hs
theorem b3u (I:IMap) (p:Part) (q:Value) (hq:q.oneCell'=true) (s:ByteArray) (day:Int) :
    FnV Tryz.prog 45 #[.agg (p.cells q).toArray,.string s,.int .i64 (day)] I (.tuple #[.agg (a5y p s day).1.cells.toArray,.int .i64 ((a5y p s day).2)]):=by
 refine enter Tryz.func45 Tryz.call45 rfl Tryz.ntmps45 rfl (fun w0=>?_);refine go 3 ?_;refine a0B _ rfl rfl rfl (fun g3=>?_);refine go 1 ?_;refine a0h he rfl (fun g6=>?_);refine go 6 ?_;refine b6Q (c0D _) rfl rfl (fun u11 I11 H11 j11 q11=>?_);obtain⟨m,g,rfl,rfl,hg⟩:=q11;refine b7y ?_;obtain⟨z,b,hz,hb,hbs,hzb⟩:=b6c _ g hg s;refine go 1 ?_;refine o_v rfl (a8A m0 (a0R he) he he (s) rfl rfl hz hb) ?_;refine go 16 ?_;refine cb rfl (fun h16 p16=>?_) (fun h16 p16=>?_)
 ·refine go 3 ?_;refine a0l rfl (a0A (pl:=[(0,1),(1,1)]) he he rfl rfl) ?_;refine go 1 ?_;refine a0g ?_;refine a0m _ he rfl rfl rfl rfl rfl rfl ?_;refine go 6 ?_;refine a2D rfl ⟨_,_,_,rfl,m0,.inr ⟨_,he,rfl,rfl⟩⟩ rfl ?_;exact a8c (by rw[b7I (by rw[←hbs];simpa using h16)]<;>rfl)
 ·have hb1:b=true:=by simpa using h16
  obtain⟨k,cs,rfl,hcall⟩:=hzb hb1;refine go 1 ?_;refine a2z (I':=I11) (L':=[(2,.int .i64 (day)),(3,.pointer (some ⟨g3,0,none⟩)),(6,.pointer (some ⟨g6,0,none⟩)),(8,.func (.func k) #[] cs.toArray),(20,.bool (decide (day<0)||decide (day>40000)))]) (H':=[.blk g3 48 (p.cells q),.blk g6 44 [.int .i64 (0),.int .i64 (0)]]) ?_ ?_
  ·refine go 4 ?_;refine sxb 23 rfl (fun h23 p23=>?_) (fun h23 p23=>?_)
   ·refine go 6 ?_;refine a0b ?_;refine a0g ?_;exact a0E ⟨rfl,rfl,rfl,rfl,(congrArg (fun b=>some (Value.bool b)) (by simp only[h16,h23,bS])),trivial⟩ rfl rfl
   ·refine go 6 ?_;refine a0b ?_;refine a0g ?_;exact a0E ⟨rfl,rfl,rfl,rfl,(congrArg (fun b=>some (Value.bool b)) (by simp only[h16,h23,bS])),trivial⟩ rfl rfl
  ·refine cb rfl (fun h20 p20=>?_) (fun h20 p20=>?_)
   ·refine go 3 ?_;refine a0l rfl (a0A (pl:=[(0,1),(1,1)]) he he rfl rfl) ?_;refine go 1 ?_;refine a0g ?_;refine a0m _ he rfl rfl rfl rfl rfl rfl ?_;refine go 6 ?_;refine a2D rfl ⟨_,_,_,rfl,m0,.inr ⟨_,he,rfl,rfl⟩⟩ rfl ?_;exact a8c (by rw[c2g (by rw[←hbs,hb1]) h20]<;>rfl)
   ·have hd:0≤day∧day≤40000:=by simp at h20;omega
    refine go 9 ?_;refine a0a (hcall _ (ILe.refl _) p q day hd) rfl rfl ?_;refine go 1 ?_;refine a0g ?_;refine a0m _ he rfl rfl rfl rfl rfl rfl ?_;refine go 4 ?_;refine a2D rfl ⟨_,_,_,rfl,m0,.inr ⟨_,he,rfl,rfl⟩⟩ rfl ?_;exact a8c (by rw[b4u (by rw[←hbs,hb1]) h20]<;>rfl)
theorem c9P (I:IMap) (s:ByteArray) :
    FnV Tryz.prog 79 #[.string s] I (.bool (a5W s)):=by
 refine enter Tryz.func79 Tryz.call79 rfl Tryz.ntmps79 rfl (fun w0=>?_);refine go 8 ?_;refine b6Q (c0D _) rfl rfl (fun u6 I6 H6 j6 q6=>?_);obtain⟨m,g,rfl,rfl,hg⟩:=q6;refine b7y ?_;obtain⟨z,b,hz,hb,hbs,hzb⟩:=b6c _ g hg s;refine go 1 ?_;refine o_v rfl (a8A m0 (a0R he) he he (s) rfl rfl hz hb) ?_;refine go 14 ?_;refine a0x rfl rfl ?_;exact a8c (congrArg Value.bool hbs)
end Go.Proofs.YtdapmfkbpnjkmaaGreat
set_option linter.all false
namespace Go.Sx
open Go
def a4L (e:Evt):Bool:=!(((((decide (((e.part.size:Nat):Int)>300)||decide (((e.kind.size:Nat):Int)>300))||decide (((e.into.size:Nat):Int)>300))||decide (((e.slot.size:Nat):Int)>300))||decide (((e.key.size:Nat):Int)>300))||decide (((e.value.size:Nat):Int)>300))
def b7N (c:List Kind) (f:Fm) (l:List Evt) (n:Int):Bool:=(decide (((l.length:Nat):Int)>n) || !c3c c) || !decide (nodesF f 80≤80)
def b8d (c:List Kind) (f:Fm) (l:List Evt) (n:Int):Bool:=!b7N c f l n&&a3A (fun _ e=>a4L e) l l.length
def c6T (st:List Part) (v:ByteArray):Bool:=(!decide (v=a1g)&&(a0O st v).isSome)&&st.all fun p=>decide (upP st p.name=a1g)||decide (upP st p.name=v)
def d1W (st:List Part) (e:Evt) (d:Ivl):List Part:=st.map fun p=>if p.name=e.part∨upP st p.name=e.part then a9k d e.use p else p
theorem c8y {st:List Part} {e:Evt} {d:Ivl} (h:c6T st e.part=true):useL st e d=d1W st e d:=by
 simp only[c6T,Bool.and_eq_true,Bool.not_eq_true',decide_eq_false_iff_not,List.all_eq_true,Bool.or_eq_true,decide_eq_true_eq]at h
 obtain⟨⟨hv,hs⟩,hall⟩:=h;unfold useL d1W;refine List.map_congr_left fun p hp=>?_
 have hi:(p.name=e.part∨b1D st e.part p.name)↔(p.name=e.part∨upP st p.name=e.part):=by
  constructor
  ·rintro (h|⟨_,k,hk⟩)
   ·exact .inl h
   ·rcases hall p hp with h0|h0
    ·cases k with
     |zero=>cases hk
     |succ k=>simp[a5t,h0]at hk
    ·exact .inr h0
  ·rintro (h|h)
   ·exact .inl h
   ·by_cases hn:p.name=e.part
    ·exact .inl hn
    ·exact .inr ⟨⟨hs,b2F (by rw[h];exact hv),hn⟩,1,by unfold a5t;rw[h];simp[hv]⟩
 by_cases hc:p.name=e.part∨upP st p.name=e.part
 ·rw[if_pos hc,if_pos (hi.2 hc)]
 ·rw[if_neg hc,if_neg (fun h=>hc (hi.1 h))]
def goC (f:Fm) (c:List Kind):List Part→Int→List Evt→Option b9c
 |s,_,[]=>some (s,-1,0)
 |s,i,e::r=>if (a0p c s e).2=0 then (if e.op=4 then (if c6T (a0p c s e).1 e.part=true then goC f c (d1W (a0p c s e).1 e (b0p f e.use)) (i+1) r else none) else goC f c (a0p c s e).1 (i+1) r) else some ([],i,(a0p c s e).2)
theorem c0k {f:Fm} {c:List Kind}:∀(l:List Evt) {s:List Part} {i:Int} {r:b9c},goC f c s i l=some r→runLGo f c s i l=r
 | [],s,i,r,h=>by simp only[goC,Option.some.injEq]at h;exact h
 |e::l,s,i,r,h=>by
  simp only[goC]at h
  simp only[runLGo,a3I]
  split at h
  ·rename_i h0
   rw[if_pos h0];unfold applyL
   split at h
   ·rename_i h4
    rw[if_pos ⟨h0,h4⟩]
    split at h
    ·rename_i hf
     rw[c8y hf];exact c0k l h
    ·cases h
   ·rename_i h4
    rw[if_neg (fun hc=>h4 hc.2)];exact c0k l h
  ·rename_i h0
   rw[if_neg h0];exact Option.some.inj h
def d2e (f:Fm) (c:List Kind) (l:List Evt) (day:Int):Option b9c:=if (!a0Y c || !a1G f)=true then some ([],-1,1) else goC f c [] 0 (a1m (l.filter fun e=>!decide (e.day>day)))
theorem a8g {f:Fm} {c:List Kind} {l:List Evt} {day:Int} {r:b9c} (h:d2e f c l day=some r):runL f c l day=r:=by
 unfold d2e at h
 unfold runL
 split at h
 ·rename_i h1;rw[if_pos h1];exact Option.some.inj h
 ·rename_i h1;rw[if_neg h1];exact c0k _ h
theorem c0a {l:List Part} {s:ByteArray} {i:Nat} (hi:i<l.length) (h:a0O (l.drop i) s=a0O l s) (hn:¬l[i].name=s):a0O (l.drop (i+1)) s=a0O l s:=by
 rw[←h,List.drop_eq_getElem_cons hi];unfold a0O;rw[List.find?_cons_of_neg (by simpa using hn)]
theorem c3l {l:List Part} {s:ByteArray} {i:Nat} (hi:i<l.length) (h:a0O (l.drop i) s=a0O l s) (hn:l[i].name=s):a0O l s=some l[i]:=by
 rw[←h,List.drop_eq_getElem_cons hi];unfold a0O;rw[List.find?_cons_of_pos (by simpa using hn)]
theorem c3k {l:List Part} {s:ByteArray} {i:Nat} (hi:¬i<l.length) (h:a0O (l.drop i) s=a0O l s):a0O l s=none:=by
 rw[←h,List.drop_eq_nil_of_le (by omega)];rfl
end Go.Sx
namespace Go.Proofs.YtdapmfkbpnjkmaaGreat
open Go Go.Sx
set_option linter.all false
set_option maxRecDepth 20000
set_option maxHeartbeats 4000000
theorem b0a (I:IMap) (N:Nat) (ih:∀(f:Fm),cntN f≤N→∀vs,FmRd I vs f→∀m:Int,0≤m→m≤1000→FnV Tryz.prog 249 #[.agg vs.toArray,.int .i64 (m)] I (.int .i64 (nodesF f m))) (f:Fm) (hN:cntN f≤N+1) (vs:List Value) (hr:FmRd I vs f) (m:Int) (h0:0≤m) (h1:m≤1000) :
    FnV Tryz.prog 249 #[.agg vs.toArray,.int .i64 (m)] I (.int .i64 (nodesF f m)):=by
 obtain⟨s,rfl,hs⟩:=a4V hr;obtain⟨A,c0,rfl,hA,hc,hm⟩:=hs;refine enter Tryz.func249 Tryz.call249 rfl Tryz.ntmps249 rfl (fun w0=>?_);refine go 3 ?_;refine a0B _ rfl rfl rfl (fun g2=>?_);refine go 15 ?_
 refine a1w ((0:Nat)) ((1:Int)) (fun i n=>I)
  (fun i n=>[(1,.int .i64 (m)),(2,.pointer (some ⟨g2,0,none⟩)),(5,.int .i64 (n)),(6,.int .i64 ((i:Nat):Int))])
  (fun i n=>[.blk g2 70 [ci f.op,ci f.n,.slice A f.kids.length c0]])
  (fun i n=>i≤f.kids.length∧(1≤n∧n≤m+1)∧nodesL (f.kids.drop i) n m=nodesF f m)
  (fun i n=>f.kids.length-i) ⟨Nat.zero_le _,⟨by omega,by omega⟩,a9P⟩ rfl sb rfl ?_
 intro i n ⟨hi,hn,hq⟩;refine go 9 ?_;refine sxb 12 rfl (fun h12 p12=>?_) (fun h12 p12=>?_)
 ·have hlt:i<f.kids.length:=by omega
  refine go 6 ?_;refine cb rfl (fun h16 p16=>?_) (fun h16 p16=>?_)
  ·have hkn:=b2j f.kids[i] (m-n) (by omega)
   refine go 9 ?_;obtain⟨b23,o23,w23,e23,c23,r23⟩:=RdA.at_ hA (i:=i) (by omega)
   replace r23:=a4V r23
   obtain⟨s23,rfl,hs23⟩:=r23;refine o_v rfl (a0n he rfl rfl e23 (i) (by omega) (by omega)) ?_;refine o_v rfl (a0H he rfl c23 rfl) ?_;refine go 4 ?_;refine a0a (ih f.kids[i] (by have:=a5R (List.getElem_mem hlt);omega) _ (a5d hs23) _ (by omega) (by omega)) rfl rfl ?_;refine go 11 ?_;exact a0M (i+1) (_) ⟨by omega,by omega,b1a hlt hq (by omega)⟩ (by omega) rfl sb rfl
  ·refine go 12 ?_;refine a0x rfl rfl ?_;exact q_v (congrArg (Value.int .i64) (b1b hlt hq (by omega)))
 ·refine go 6 ?_;refine a0P rfl ?_;refine go 12 ?_;refine a0x rfl rfl ?_;exact q_v (congrArg (Value.int .i64) (b3D (by omega) hq))
theorem b8I (I:IMap) (f:Fm) (vs:List Value) (hr:FmRd I vs f) (m:Int) (h0:0≤m) (h1:m≤1000):FnV Tryz.prog 249 #[.agg vs.toArray,.int .i64 (m)] I (.int .i64 (nodesF f m)):=by
 have key:∀(N:Nat),∀(f:Fm),cntN f≤N→∀vs,FmRd I vs f→∀m:Int,0≤m→m≤1000→FnV Tryz.prog 249 #[.agg vs.toArray,.int .i64 (m)] I (.int .i64 (nodesF f m)):=by
  intro N
  induction N with
  |zero=>intro f hN;exact absurd hN (by cases f;simp[cntN])
  |succ N ih=>intro f hN vs hr m h0 h1;exact b0a I N ih f hN vs hr m h0 h1
 exact key (cntN f) f (Nat.le_refl _) vs hr m h0 h1
theorem c4k (I:IMap) (f:Fm) (vs:List Value) (hr:FmRd I vs f) :
    FnV Tryz.prog 201 #[.agg vs.toArray] I (.bool (decide (nodesF f 80≤80))):=by
 have hl:=Enc.len (α:=Fm) hr
 refine enter Tryz.func201 Tryz.call201 rfl Tryz.ntmps201 rfl (fun w0=>?_);refine go 3 ?_;refine a0B _ rfl rfl rfl (fun g1=>?_);refine go 5 ?_;refine o_v rfl (a4d m0 he rfl hl) ?_;refine go 1 ?_;refine a0a (b8I _ f _ hr 80 (by omega) (by omega)) rfl rfl ?_;refine go 5 ?_;refine a0x rfl rfl ?_;exact q_v rfl
theorem c4m (I:IMap) (vc:Value) (c:List Kind) (hvc:RdS I vc c) (f:Fm) (sf:Value) (hf:FmRd I [ci f.op,ci f.n,sf] f) (v:Value) (l:List Evt) (hv:RdS I v l) (n:Int) :
    FnV Tryz.prog 131 #[.agg #[vc,ci f.op,ci f.n,sf],v,.int .i64 (n)] I (.bool (b8d c f l n)):=by
 have hv0:=hv
 obtain⟨A,c0,rfl,hA,hc,hm⟩:=hv;refine enter Tryz.func131 Tryz.call131 rfl Tryz.ntmps131 rfl (fun w0=>?_);refine go 3 ?_;refine a0B _ rfl rfl rfl (fun g3=>?_);refine go 5 ?_;refine a2z (I':=I) (L':=[(1,.slice A l.length c0),(24,.bool (b7N c f l n))]) (H':=[]) ?_ ?_
 ·refine go 6 ?_;refine sxb 13 rfl (fun h13 p13=>?_) (fun h13 p13=>?_)
  ·refine go 13 ?_;refine a0b ?_;exact a0E ⟨rfl,(congrArg (fun b=>some (Value.bool b)) (by simp only[b7N,h13,bS])),trivial⟩ rfl rfl
  ·refine go 1 ?_;refine a0v (a0y rfl rfl h13 (a0l rfl (a2o ([vc]) m0 he rfl rfl rfl) ?_));refine go 1 ?_;refine a0y rfl rfl h13 (a0a (d0v _ vc c hvc) rfl rfl ?_);refine go 3 ?_;refine sxb 19 rfl (fun h19 p19=>?_) (fun h19 p19=>?_)
   ·refine go 7 ?_;refine a0b ?_;exact a0E ⟨rfl,(congrArg (fun b=>some (Value.bool b)) (by simp only[b7N,h13,h19,bS])),trivial⟩ rfl rfl
   ·refine go 1 ?_;refine a0v (a0y rfl rfl h19 (a0l rfl (a2o ([ci f.op,ci f.n,sf]) m0 he rfl rfl rfl) ?_));refine go 1 ?_;refine a0y rfl rfl h19 (a0a (c4k _ f _ hf) rfl rfl ?_);refine go 4 ?_;refine a0b ?_;exact a0E ⟨rfl,(congrArg (fun b=>some (Value.bool b)) (by simp only[b7N,h13,h19,bS])),trivial⟩ rfl rfl
 ·refine cb rfl (fun h24 p24=>?_) (fun h24 p24=>?_)
  ·refine go 7 ?_;refine a0x rfl rfl ?_;exact q_v (congrArg Value.bool (by simp only[b8d,h24];rfl))
  ·refine go 9 ?_
   refine a0L (α:=Nat) 0 (fun i=>I)
    (fun i=>[(1,.slice A l.length c0),(7,.int .i64 ((i:Nat):Int))])
    (fun i=>[])
    (fun i=>i≤l.length∧a3A (fun _ e=>a4L e) l i=true)
    (fun i=>l.length-i) ⟨Nat.zero_le _,rfl⟩ rfl sb rfl ?_
   intro i ⟨hi,hn⟩;refine go 9 ?_;refine cb rfl (fun h28 p28=>?_) (fun h28 p28=>?_)
   ·have hlt:i<l.length:=by omega
    refine go 8 ?_;obtain⟨b33,o33,w33,e33,c33,r33⟩:=RdA.at_ hA (i:=i) (by omega);obtain rfl:=r33;refine o_v rfl (a0n he rfl rfl e33 (i) (by omega) (by omega)) ?_;refine o_v rfl (a0H he rfl c33 rfl) ?_;refine go 1 ?_;refine a0h he rfl (fun g8=>?_);refine go 1 ?_;refine a0m _ he rfl rfl rfl rfl rfl rfl ?_;refine go 3 ?_;refine a2z (I':=I) (L':=[(1,.slice A l.length c0),(7,.int .i64 ((i:Nat):Int)),(68,.bool (!a4L l[i]))]) (H':=[]) ?_ ?_
    ·refine go 6 ?_;refine sxb 39 rfl (fun h39 p39=>?_) (fun h39 p39=>?_)
     ·refine go 31 ?_;refine a0b ?_;exact a0E ⟨rfl,rfl,(congrArg (fun b=>some (Value.bool b)) (by simp only[a4L,Bool.not_not,h28,h39,bS])),trivial⟩ rfl rfl
     ·refine go 6 ?_;refine sxb 45 rfl (fun h45 p45=>?_) (fun h45 p45=>?_)
      ·refine go 25 ?_;refine a0b ?_;exact a0E ⟨rfl,rfl,(congrArg (fun b=>some (Value.bool b)) (by simp only[a4L,Bool.not_not,h28,h39,h45,bS])),trivial⟩ rfl rfl
      ·refine go 6 ?_;refine sxb 51 rfl (fun h51 p51=>?_) (fun h51 p51=>?_)
       ·refine go 19 ?_;refine a0b ?_;exact a0E ⟨rfl,rfl,(congrArg (fun b=>some (Value.bool b)) (by simp only[a4L,Bool.not_not,h28,h39,h45,h51,bS])),trivial⟩ rfl rfl
       ·refine go 6 ?_;refine sxb 57 rfl (fun h57 p57=>?_) (fun h57 p57=>?_)
        ·refine go 13 ?_;refine a0b ?_;exact a0E ⟨rfl,rfl,(congrArg (fun b=>some (Value.bool b)) (by simp only[a4L,Bool.not_not,h28,h39,h45,h51,h57,bS])),trivial⟩ rfl rfl
        ·refine go 6 ?_;refine sxb 63 rfl (fun h63 p63=>?_) (fun h63 p63=>?_)
         ·refine go 7 ?_;refine a0b ?_;exact a0E ⟨rfl,rfl,(congrArg (fun b=>some (Value.bool b)) (by simp only[a4L,Bool.not_not,h28,h39,h45,h51,h57,h63,bS])),trivial⟩ rfl rfl
         ·refine go 7 ?_;refine a0b ?_;exact a0E ⟨rfl,rfl,(congrArg (fun b=>some (Value.bool b)) (by simp only[a4L,Bool.not_not,h28,h39,h45,h51,h57,h63,bS])),trivial⟩ rfl rfl
    ·refine cb rfl (fun h68 p68=>?_) (fun h68 p68=>?_)
     ·refine go 11 ?_;refine a0x rfl rfl ?_;exact q_v (congrArg Value.bool (by simp only[b8d,a1A (f:=fun _ e=>a4L e) hlt (by simpa using h68)];simp))
     ·refine go 9 ?_;exact a0J (i+1) ⟨by omega,a1M (f:=fun _ e=>a4L e) hn hlt (by simpa using h68)⟩ (by omega) rfl sb rfl
   ·refine go 11 ?_;refine a0x rfl rfl ?_
    have e:i=l.length:=(by omega)
    subst e;exact q_v (congrArg Value.bool (by simp only[b8d,h24,hn];rfl))
theorem c5r (I:IMap) (v:Value) (l:List Part) (hv:RdS I v l) (s:ByteArray) :
    FnE Tryz.prog 27 #[.agg #[v],.string s] I (PartIs I (a0O l s)):=by
 have hv0:=hv
 obtain⟨A,c0,rfl,hA,hc,hm⟩:=hv;refine enter Tryz.func27 Tryz.call27 rfl Tryz.ntmps27 rfl (fun w0=>?_);refine go 3 ?_;refine a0B _ rfl rfl rfl (fun g2=>?_);refine go 1 ?_;refine a0h he rfl (fun g4=>?_);refine go 13 ?_;refine a0g ?_;refine a0b ?_
 refine a0L (α:=Nat) 0 (fun i=>I)
  (fun i=>[(1,.string s),(4,.pointer (some ⟨g4,0,none⟩)),(9,.slice A l.length c0),(10,.int .i64 (l.length:Int)),(11,.int .i64 ((i:Nat):Int))])
  (fun i=>[.blk g4 48 [.string ⟨#[]⟩,.string ⟨#[]⟩,.string ⟨#[]⟩,.string ⟨#[]⟩,.int .i64 0,.int .i64 0,.bool false,.slice none 0 0,.int .i64 0,.int .i64 0,.int .i64 0,.int .i64 0,.int .i64 0,.int .i64 0]])
  (fun i=>i≤l.length∧a0O (l.drop i) s=a0O l s)
  (fun i=>l.length-i) ⟨Nat.zero_le _,rfl⟩ rfl sb rfl ?_
 intro i ⟨hi,hn⟩;refine go 6 ?_;refine cb rfl (fun h12 p12=>?_) (fun h12 p12=>?_)
 ·have hlt:i<l.length:=by omega
  refine go 6 ?_;obtain⟨b13,o13,w13,e13,c13,r13⟩:=RdA.at_ hA (i:=i) hlt;obtain⟨q13,rfl,B13,d13,rfl,hB13,hd13,hm13⟩:=r13;refine o_v rfl (a0n he rfl rfl e13 (i) (by omega) hlt) ?_;refine o_v rfl (a0H he rfl c13 rfl) ?_;refine go 1 ?_;refine a0h he rfl (fun g7=>?_);refine go 1 ?_;refine a0m _ he rfl rfl rfl rfl rfl rfl ?_;refine go 10 ?_;refine cb rfl (fun h18 p18=>?_) (fun h18 p18=>?_)
  ·refine go 4 ?_;refine a0g ?_;refine a0m _ he rfl rfl rfl rfl rfl rfl ?_;refine go 9 ?_;refine a2D rfl ⟨_,_,_,rfl,m0,.inr ⟨_,he,rfl,rfl⟩⟩ rfl ?_;exact q_e (PartIs.of (c3l hlt hn p18) ⟨_,rfl,B13,d13,rfl,hB13,hd13,hm13⟩)
  ·refine go 8 ?_;refine a0b ?_;exact a0J (i+1) ⟨by omega,c0a hlt hn p18⟩ (by omega) rfl sb rfl
 ·refine go 8 ?_;refine a0l rfl (a0A (pl:=[(0,1),(1,1),(2,1),(3,1),(4,1),(5,1),(6,1),(7,1),(8,6)]) he he rfl rfl) ?_;refine go 1 ?_;refine a0m _ he rfl rfl rfl rfl rfl rfl ?_;refine go 4 ?_;refine a2D rfl ⟨_,_,_,rfl,m0,.inr ⟨_,he,rfl,rfl⟩⟩ rfl ?_;exact q_e (PartIs.none (c3k (by omega) hn))
end Go.Proofs.YtdapmfkbpnjkmaaGreat
namespace Go.Proofs.YtdapmfkbpnjkmaaGreat
open Go Go.Sx
set_option linter.all false
set_option maxRecDepth 20000
set_option maxHeartbeats 4000000
instance T.ty_72:Has (tyK Tryz.prog 72) (true,4):=⟨by kernel_rfl⟩
end Go.Proofs.YtdapmfkbpnjkmaaGreat
set_option linter.all false
namespace Go.Sx
open Go
structure Dut where
 name:ByteArray
 kind:ByteArray
 key:ByteArray
 after:Int
 within:Int
 deriving DecidableEq
structure Due where
 part:ByteArray
 rule:ByteArray
 day:Int
 deriving DecidableEq
def Dut.cells (d:Dut):List Value:=[.string d.name,.string d.kind,.string d.key,ci d.after,ci d.within]
def Due.cells (d:Due):List Value:=[.string d.part,.string d.rule,ci d.day]
instance:Enc Dut where
 k:=5
 rd _ vs x:=vs=x.cells
 len h:=by rw[h];rfl
 mono _ h:=h
 one h:=by rw[h];rfl
instance:Enc Due where
 k:=3
 rd _ vs x:=vs=x.cells
 len h:=by rw[h];rfl
 mono _ h:=h
 one h:=by rw[h];rfl
section
variable {α:Type} [DecidableEq α] {lt:α→α→Bool}
def SrtU (lt:α→α→Bool) (l:List α):Prop:=l.Pairwise fun a b=>lt a b=true
theorem SrtU.uniq (hi:∀a,lt a a=false) (htr:∀a b c,lt a b=true→lt b c=true→lt a c=true):∀{l m:List α},SrtU lt l→SrtU lt m→(∀z,z∈l↔z∈m)→l=m
 | [],[],_,_,_=>rfl
 | [],y::m,_,_,h=>by have:=(h y).2 (by simp);cases this
 |x::l,[],_,_,h=>by have:=(h x).1 (by simp);cases this
 |x::l,y::m,h1,h2,h=>by
  obtain⟨a1,b1⟩:=List.pairwise_cons.1 h1;obtain⟨a2,b2⟩:=List.pairwise_cons.1 h2
  have e:x=y:=by
   rcases List.mem_cons.1 ((h x).1 (by simp)) with e|hx
   ·exact e
   rcases List.mem_cons.1 ((h y).2 (by simp)) with e|hy
   ·exact e.symm
   ·have:=htr _ _ _ (a1 y hy) (a2 x hx)
    rw[hi]at this;cases this
  subst e
  have hn1:x∉l:=fun hm=>by have:=a1 x hm;rw[hi]at this;cases this
  have hn2:x∉m:=fun hm=>by have:=a2 x hm;rw[hi]at this;cases this
  rw[SrtU.uniq hi htr b1 b2 fun z=>?_]
  constructor
  ·intro hz
   rcases List.mem_cons.1 ((h z).1 (by simp[hz])) with rfl|hz2
   ·exact absurd hz hn1
   ·exact hz2
  ·intro hz
   rcases List.mem_cons.1 ((h z).2 (by simp[hz])) with rfl|hz2
   ·exact absurd hz hn2
   ·exact hz2
theorem SrtU.nodup (hi:∀a,lt a a=false) {l:List α} (h:SrtU lt l):l.Nodup:=by
 rw[List.nodup_iff_pairwise_ne];exact h.imp fun h1 e=>by subst e;rw[hi]at h1;cases h1
end
def b0P:List Int→Option Int
 | []=>none
 |x::l=>some (l.foldl min x)
section
variable {ds:List Dut} {c:List Kind} {l:List Evt} {p:ByteArray} {day:Int}
end
end Go.Sx
set_option linter.all false
namespace Go.Sx
open Go
theorem b7s (c:List Kind):∀(l:List Evt) (st s:List Part) (z:Int),a1F c st l=some s↔(b2z c st z l).2.2=0∧(b2z c st z l).1=s
 | [],st,s,z=>by simp[a1F,b2z]
 |e::l,st,s,z=>by
  simp only[a1F,b2z]
  by_cases h:(a0p c st e).2=0
  ·rw[if_pos h,if_pos h];exact b7s c l _ s _
  ·rw[if_neg h,if_neg h]
   constructor
   ·intro h2;cases h2
   ·intro h2;exact absurd h2.1 h
theorem c1w {c:List Kind}:∀{l:List Evt} {st s:List Part},VS c st→a1F c st l=some s→VS c s
 | [],st,s,h,hr=>by simp only[a1F]at hr;cases hr;exact h
 |e::l,st,s,h,hr=>by
  simp only[a1F]at hr
  by_cases h2:(a0p c st e).2=0
  ·rw[if_pos h2]at hr
   obtain⟨p',hp⟩:=a4u h2;rw[a2Z hp]at hr
   exact c1w hp.valid hr
  ·rw[if_neg h2]at hr;cases hr
theorem b4d {c:List Kind}:∀{l:List Evt} {st s:List Part},VS c st→a1F c st l=some s→s.length≤st.length+l.length
 | [],st,s,h,hr=>by simp only[a1F]at hr;cases hr;simp
 |e::l,st,s,h,hr=>by
  simp only[a1F]at hr
  by_cases h2:(a0p c st e).2=0
  ·rw[if_pos h2]at hr
   obtain⟨p',hp⟩:=a4u h2;rw[a2Z hp]at hr
   have h3:=b4d hp.valid hr
   have h4:=b1k (x:=p') h.inc
   rw[List.length_cons];omega
  ·rw[if_neg h2]at hr;cases hr
theorem b4c {c:List Kind} (K:List Evt):∀{l:List Evt} {st s:List Part},VS c st→(∀e∈l,e∈K)→(∀x∈st,(∃e∈K,e.part=x.name)∧(x.into≠a1g→∃e∈K,e.op=2∧e.part=x.name∧e.into=x.into))→a1F c st l=some s →
  ∀x∈s,(∃e∈K,e.part=x.name)∧(x.into≠a1g→∃e∈K,e.op=2∧e.part=x.name∧e.into=x.into)
 | [],st,s,h,hK,h0,hr=>by simp only[a1F]at hr;cases hr;exact h0
 |e::l,st,s,h,hK,h0,hr=>by
  simp only[a1F]at hr
  by_cases h2:(a0p c st e).2=0
  ·rw[if_pos h2]at hr
   obtain⟨p',hp⟩:=a4u h2;rw[a2Z hp]at hr
   refine b4c K hp.valid (fun f hf=>hK f (by simp[hf])) (fun x hx=>?_) hr
   have he:=hK e (by simp)
   rcases (a3e h.inc).1 hx with rfl|⟨hx,_⟩
   ·have hn:=hp.name
    refine⟨⟨e,he,hn.symm⟩,fun hi=>?_⟩
    rcases hp.how with ⟨_,_,_,_,rfl⟩|⟨p,h1,_,h3⟩
    ·exact absurd rfl hi
    ·obtain⟨hpm,hpn⟩:=(a1J h.inc).1 h1
     have hold:p.into≠a1g→∃e∈K,e.op=2∧e.part=p.name∧e.into=p.into:=(h0 p hpm).2
     rcases h3 with ⟨o1,q,_,_,_,_,_,_,rfl⟩|⟨_,_,rfl⟩|⟨_,_,rfl⟩|⟨_,rfl⟩|⟨_,_,rfl⟩|⟨_,_,_,rfl⟩
     ·exact⟨e,he,o1,hn.symm,rfl⟩
     ·exact absurd rfl hi
     ·exact hold hi
     ·exact hold hi
     ·exact hold hi
     ·exact hold hi
   ·exact h0 x hx
  ·rw[if_neg h2]at hr;cases hr
section
variable {c:List Kind} {l:List Rep} {t:List Int} {E:List Evt} {day:Int} {s:List Part}
theorem c5k (hc:a0Y c=true):a1F c [] (a1m (upD E day))=some s↔(a9o c E day).2.2=0∧(a9o c E day).1=s:=by
 rw[d1l,c8d hc];exact b7s c _ _ _ _
theorem c4A (h:(a1F c [] (a1m E)).isSome=true) (day:Int):∃s,a1F c [] (a1m (upD E day))=some s:=by
 rw[c4I E day,b7r]at h
 cases hs:a1F c [] (a1m (upD E day)) with
 |none=>rw[hs]at h;cases h
 |some s=>exact⟨s,rfl⟩
theorem a5m (ht:t∈a2O c l):a1T c l t 0=true∧a0Y c=true∧(∀r∈l,a0t r=true)∧t∈a2d l:=by
 have h:=b6x ((a7n t).1 ht)
 exact⟨h,a7m h,(a2B h).2,a5D ht⟩
theorem b6i (hv:∀r∈l,a0t r=true) (ht:t∈a2d l) (i:Nat):c5o l t i=gE 40001 l t i:=by
 obtain⟨htl,hb⟩:=a3H.1 ht
 rcases Nat.lt_or_ge i l.length with hi|hi
 ·have h2:i<t.length:=by omega
  rw[b4Q hi h2,gE,a2H hi h2]
  have h0:=(hb i hi h2).1
  show _=a4b 40001 l[i] t[i]
  unfold a4b;rw[if_pos h0]
  cases ho:l[i].options[t[i].toNat]? with
  |none=>rfl
  |some e=>
   have:=a2x (a3b (hv _ (List.getElem_mem hi)) e (List.mem_of_getElem? ho))
   show some e=if e.day<40001 then some e else none
   rw[if_pos (by omega)]
 ·unfold c5o gE at2;rw[List.getElem?_eq_none hi]
theorem b1V (hv:∀r∈l,a0t r=true) (ht:t∈a2d l):b0D 40001 l t=a1Q l t l.length:=by
 rw[a9W (a3H.1 ht).1];unfold a1Q;exact a7k fun i _=>(b6i hv ht i).symm
theorem a8S (ht:t∈a2O c l):a1i l t=(a1Q l t l.length,0)∧(a1F c [] (a1m (a1Q l t l.length))).isSome=true:=by
 obtain⟨hg,hc,hv,ha⟩:=a5m ht
 have hi:=(a7n t).1 ht
 rw[c3x hg,b1V hv ha]at hi
 refine⟨?_,hi⟩;obtain⟨htl,hb⟩:=a3H.1 ha;unfold a1i;rw[if_pos]
 simp only[Bool.and_eq_true,decide_eq_true_eq]
 refine⟨by omega,b1G (fun i h1 h2=>?_) htl⟩
 have:=hb i h1 h2
 simp[okK];omega
theorem b9V {e:Evt} (h:e∈a1Q l t l.length):∃i,∃hi:i<l.length,e∈l[i].options:=by
 unfold a1Q at h
 obtain⟨i,hi,h⟩:=List.mem_filterMap.1 h
 have hi:=List.mem_range.1 hi
 unfold c5o at2 at h
 rw[List.getElem?_eq_getElem hi]at h
 cases ht:t[i]? with
 |none=>rw[ht]at h;cases h
 |some k=>
  rw[ht]at h
  simp only[Option.join]at h
  exact⟨i,hi,List.mem_of_getElem? h⟩
theorem b6j (l:List Rep) (t:List Int):(a1Q l t l.length).length≤l.length:=b4S l t l.length
structure Case (c:List Kind) (l:List Rep) (t:List Int) (day:Int) (s:List Part):Prop where
 vs:VS c s
 at0:(a9o c (a1Q l t l.length) day).2.2=0
 at1:(a9o c (a1Q l t l.length) day).1=s
 runs:a1F c [] (a1m (upD (a1Q l t l.length) day))=some s
 own:∀x∈s,∃i,∃hi:i<l.length,nm l[i] x.name
 link:∀x∈s,x.into≠a1g→∃i,∃hi:i<l.length,nm l[i] x.name∧nm l[i] x.into
 len:s.length≤l.length
theorem b3i (ht:t∈a2O c l) (day:Int):Case c l t day (a9o c (a1Q l t l.length) day).1:=by
 obtain⟨hg,hc,hv,ha⟩:=a5m ht;obtain⟨s,hs⟩:=c4A (a8S ht).2 day;obtain⟨h1,h2⟩:=(c5k hc).1 hs;rw[h2]
 have hn:=c1w (a8B hc) hs
 have hf:=b4c (upD (a1Q l t l.length) day) (a8B hc) (fun e he=>a5w.1 he) (fun x hx=>by cases hx) hs
 have hm:∀e∈upD (a1Q l t l.length) day,∃i,∃hi:i<l.length,a0t l[i]=true∧e∈l[i].options:=fun e he=>by
  obtain⟨i,hi,h⟩:=b9V (List.mem_filter.1 he).1;exact⟨i,hi,hv _ (List.getElem_mem hi),h⟩
 refine⟨hn,h1,h2,hs,fun x hx=>?_,fun x hx hi=>?_,?_⟩
 ·obtain⟨e,he,hp⟩:=(hf x hx).1;obtain⟨i,hi,hvi,ho⟩:=hm e he;exact⟨i,hi,hvi,e,ho,by rw[←hp];unfold a0Z;split<;>simp⟩
 ·obtain⟨e,he,h2,hp,hq⟩:=(hf x hx).2 hi;obtain⟨i,hi,hvi,ho⟩:=hm e he;exact⟨i,hi,⟨hvi,e,ho,by rw[←hp];simp[a0Z,h2]⟩,⟨hvi,e,ho,by rw[←hq];simp[a0Z,h2]⟩⟩
 ·have h3:=b4d (a8B hc) hs
  rw[a4c]at h3
  have h4:(upD (a1Q l t l.length) day).length≤(a1Q l t l.length).length:=List.length_filter_le _ _
  have h5:=b6j l t
  simp at h3;omega
end
def nmB (r:Rep) (z:ByteArray):Bool:=a0t r&&r.options.any fun e=>decide (z∈a0Z e)
theorem a6N {r:Rep} {z:ByteArray}:nmB r z=true↔nm r z:=by
 simp[nmB,nm,List.any_eq_true]
def a9y (l:List Rep) (p:ByteArray):Option Nat:=(List.range l.length).find? fun i=>((l[i]?).map fun r=>nmB r p).getD false
def ofN (l:List Rep) (R:Nat→Nat) (p:ByteArray):List Nat:=match a9y l p with
 |some k=>a0S R l.length (R k)
 |none=>[]
def a1q (l:List Rep) (R:Nat→Nat) (p:ByteArray):List Rep:=a1Y l (ofN l R p)
section
variable {l:List Rep} {R:Nat→Nat} {p q:ByteArray} {k:Nat}
theorem a9z (h:a9y l p=some k):∃hk:k<l.length,nm l[k] p:=by
 unfold a9y at h
 have h1:=List.mem_range.1 (List.mem_of_find?_eq_some h)
 have h2:=List.find?_some h
 simp only[List.getElem?_eq_getElem h1,Option.map_some,Option.getD_some]at h2
 exact⟨h1,a6N.1 h2⟩
theorem a6H:a9y l p=none↔∀k (hk:k<l.length),¬nm l[k] p:=by
 unfold a9y;rw[List.find?_eq_none]
 constructor
 ·intro h k hk hn
  have:=h k (List.mem_range.2 hk)
  simp only[List.getElem?_eq_getElem hk,Option.map_some,Option.getD_some]at this
  exact this (a6N.2 hn)
 ·intro h k hk
  have hk:=List.mem_range.1 hk
  simp only[List.getElem?_eq_getElem hk,Option.map_some,Option.getD_some]
  intro hn;exact h k hk (a6N.1 hn)
theorem a6O (hR:Rts l R) (hk:k<l.length) (h:nm l[k] p):ofN l R p=a0S R l.length (R k):=by
 unfold ofN
 cases hf:a9y l p with
 |none=>exact absurd h (a6H.1 hf k hk)
 |some j=>
  obtain⟨hj,hn⟩:=a9z hf
  show a0S R l.length (R j)=_
  rw[hR.share hj hk hn h]
theorem b5m (h:∀k (hk:k<l.length),¬nm l[k] p):ofN l R p=[]:=by unfold ofN;rw[a6H.2 h]
theorem c3P (hR:Rts l R) (p:ByteArray):(ofN l R p=[]∧∀k (hk:k<l.length),¬nm l[k] p)∨∃k,∃hk:k<l.length,nm l[k] p∧ofN l R p=a0S R l.length (R k):=by
 cases hf:a9y l p with
 |none=>exact .inl ⟨by unfold ofN;rw[hf],a6H.1 hf⟩
 |some j=>
  obtain⟨hj,hn⟩:=a9z hf;exact .inr ⟨j,hj,hn,a6O hR hj hn⟩
theorem b0C {i:Nat} (h:i∈ofN l R p):i<l.length:=by
 unfold ofN at h
 split at h
 ·exact a6M h
 ·cases h
theorem b5t (hR:Rts l R):a1q l R p=[]↔ofN l R p=[]:=by
 unfold a1q
 constructor
 ·intro h
  have h1:=a1W (l:=l) (C:=ofN l R p) fun i hi=>b0C hi
  rw[h]at h1
  exact List.eq_nil_of_length_eq_zero h1.symm
 ·intro h;rw[h];rfl
theorem a5G {r:Rep} (h:r∈a1q l R p):r∈l:=a9X h
theorem a5g:(a1q l R p).length≤l.length:=by
 unfold a1q;rw[a1W fun i hi=>b0C hi]
 have h1:(ofN l R p).length≤(List.range l.length).length:=by
  unfold ofN
  split
  ·exact List.length_filter_le _ _
  ·simp
 simpa using h1
end
end Go.Sx
set_option linter.all false
namespace Go.Sx
open Go
section
variable {c:List Kind} {l:List Rep} {i k:Nat}
theorem c9y (hc:a0Y c=true) (hp:∀q∈l,chs q≠0) (h30:l.length≤30):a7U c l=0:=c2W h30 hc hp
end
end Go.Sx
set_option linter.all false
namespace Go.Sx
open Go
structure Plc where
 into:ByteArray
 slot:ByteArray
 deriving DecidableEq
def Plc.cells (x:Plc):List Value:=[.string x.into,.string x.slot]
instance:Enc Plc where
 k:=2
 rd _ vs x:=vs=x.cells
 len h:=by rw[h];rfl
 mono _ h:=h
 one h:=by rw[h];rfl
def c7J (s:List Part) (p:ByteArray):Part:=(a0O s p).getD zPart
def c7N (p:ByteArray) (s:List Part):Plc:=⟨(c7J s p).into,(c7J s p).slot⟩
def b1Q (c:List Kind) (l own:List Rep):Int:=
 if a0Y c=false then 1 else if l.any (fun r=>!a0t r)=true then 1 else if own=[] then 2 else if (a3z c own 4096).2≠0 then (a3z c own 4096).2 else if (a3z c own 4096).1.length=4096 then 7 else 0
section
variable {c:List Kind} {s a b:List Part} {p:ByteArray} {q:Part} {D:ByteArray→Bool}
theorem Spl.place (h:Spl D s a b) (hp:D p=true):c7N p s=c7N p a:=by unfold c7N c7J;rw[h.find hp]
end
end Go.Sx
set_option linter.all false
namespace Go.Sx
open Go
section
variable {c:List Kind} {l own:List Rep} {R:Nat→Nat} {p q y z:ByteArray} {day:Int} {α β:Type} [DecidableEq α] [DecidableEq β] {lt:α→α→Bool} {lt':β→β→Bool} {f:List Part→α} {g:List Part→β} {s:List Part}
theorem a9m:l.any (fun r=>!a0t r)=false↔∀r∈l,a0t r=true:=by
 rw[List.any_eq_false];exact⟨fun h r hr=>by simpa using h r hr,fun h r hr=>by simp[h r hr]⟩
theorem b5W (h:b1Q c l own=0):a0Y c=true∧(∀r∈l,a0t r=true)∧own≠[]∧(a3z c own 4096).2=0∧(a3z c own 4096).1=a2O c own∧a2O c own≠[]:=by
 unfold b1Q at h
 split at h
 ·cases h
 split at h
 ·cases h
 split at h
 ·cases h
 split at h
 ·rename_i h1 h2 h3 h4;exact absurd h h4
 split at h
 ·cases h
 rename_i h1 h2 h3 h4 h5
 have h4:(a3z c own 4096).2=0:=by simpa using h4
 obtain⟨h6,h7,h8⟩:=b9g (by omega) (by omega) h4;refine⟨by simpa using h1,a9m.1 (by simpa using h2),h3,h4,?_,h7⟩;rw[h8]at h5 ⊢
 rw[List.length_take]at h5
 exact List.take_of_length_le (by omega)
theorem c9R {i k:Nat} (h:Lnk l i k):i<l.length↔k<l.length:=by
 induction h with
 |refl=>exact Iff.rfl
 |one hi hk _ _=>exact⟨fun _=>hk,fun _=>hi⟩
 |symm _ ih=>exact ih.symm
 |trans _ _ h1 h2=>exact h1.trans h2
theorem c0u {C:List Nat} {k:Nat} (h:k∈C):∃a,∃ha:a<C.length,C[a]=k:=by
 obtain⟨a,ha,e⟩:=List.getElem_of_mem h;exact⟨a,ha,e⟩
theorem c7u {r:Nat} {R':Nat→Nat} (hR:Rts l R) (hR':Rts (a1Y l (a0S R l.length r)) R') {i k:Nat} (h:Lnk l i k):∀a (ha:a<(a0S R l.length r).length),(a0S R l.length r)[a]=i→∃b,∃hb:b<(a0S R l.length r).length,(a0S R l.length r)[b]=k∧R' a=R' b:=by
 have hlt:∀i∈a0S R l.length r,i<l.length:=fun i hi=>a6M hi
 induction h with
 |refl i=>exact fun a ha e=>⟨a,ha,e,rfl⟩
 | @one i k z hi hk h1 h2=>
  intro a ha e
  have hr:R i=r:=(a3R.1 (e▸List.getElem_mem ha)).2
  obtain⟨b,hb,eb⟩:=c0u (a3R.2 ⟨hk,(hR.share hk hi h2 h1).trans hr⟩);refine⟨b,hb,eb,?_⟩
  have la:a<(a1Y l (a0S R l.length r)).length:=by rw[a1W hlt];exact ha
  have lb:b<(a1Y l (a0S R l.length r)).length:=by rw[a1W hlt];exact hb
  refine hR'.share (z:=z) la lb ?_ ?_
  ·rw[a5s hlt ha la];simp only[e];exact h1
  ·rw[a5s hlt hb lb];simp only[eb];exact h2
 | @symm i k hik ih=>
  intro a ha e
  have hm:=a3R.1 (e▸List.getElem_mem ha)
  obtain⟨b,hb,eb⟩:=c0u (a3R.2 ⟨(c9R hik).2 hm.1,(hR.lnk hik).trans hm.2⟩);obtain⟨b',hb',eb',hRb⟩:=ih b hb eb
  have:a=b':=b3E b0U ha hb' (e.trans eb'.symm)
  subst this;exact⟨b,hb,eb,hRb.symm⟩
 |trans _ _ ih1 ih2=>
  intro a ha e;obtain⟨b,hb,eb,h1⟩:=ih1 a ha e;obtain⟨d,hd,ed,h2⟩:=ih2 b hb eb;exact⟨d,hd,ed,h1.trans h2⟩
theorem b2p {R':Nat→Nat} (hR:Rts l R) (hR':Rts (a1q l R p) R'):a1q (a1q l R p) R' p=a1q l R p:=by
 rcases c3P hR p with ⟨h,_⟩|⟨k,hk,hn,h⟩
 ·have e:a1q l R p=[]:=(b5t hR).2 h
  rw[e];rfl
 have eo:a1q l R p=a1Y l (a0S R l.length (R k)):=by unfold a1q;rw[h]
 rw[eo]at hR' ⊢
 have hlt:∀i∈a0S R l.length (R k),i<l.length:=fun i hi=>a6M hi
 obtain⟨a,ha,ea⟩:=c0u (a3R.2 ⟨hk,rfl⟩:k∈a0S R l.length (R k))
 have la:a<(a1Y l (a0S R l.length (R k))).length:=by rw[a1W hlt];exact ha
 have hna:nm (a1Y l (a0S R l.length (R k)))[a] p:=by rw[a5s hlt ha la];simp only[ea];exact hn
 have hall:∀b,b<(a0S R l.length (R k)).length→R' b=R' a:=fun b hb=>by
  have hm:=a3R.1 (List.getElem_mem hb)
  have hL:Lnk l (a0S R l.length (R k))[b] k:=by
   have h1:=hR.sound (a0S R l.length (R k))[b]
   rw[hm.2]at h1
   exact h1.trans (hR.sound k).symm
  obtain⟨d,hd,ed,hRd⟩:=c7u hR hR' hL b hb rfl
  have:d=a:=b3E b0U hd ha (ed.trans ea.symm)
  rw[hRd,this]
 have e2:a0S R' (a1Y l (a0S R l.length (R k))).length (R' a)=List.range (a1Y l (a0S R l.length (R k))).length:=by
  refine List.filter_eq_self.2 fun b hb=>?_
  have hb:=List.mem_range.1 hb
  exact decide_eq_true (hall b (by rw[a1W (C:=a0S R l.length (R k)) hlt]at hb;exact hb))
 unfold a1q;rw[a6O hR' la hna,e2,a5H]
theorem c1h (h:∀r∈l,a0t r=true):∀r∈a1q l R p,a0t r=true:=fun r hr=>h r (a5G hr)
theorem c2M (h:∀r∈l,a0t r=true):b1Q c (a1q l R p) (a1q l R p)=b1Q c l (a1q l R p):=by
 unfold b1Q;rw[a9m.2 h,a9m.2 (c1h h)]
end
end Go.Sx
set_option linter.all false
namespace Go.Sx
open Go
section
variable {c:List Kind} {l:List Rep} {s:List Part} {R:Nat→Nat} {t T:List Int} {r k:Nat} {p:ByteArray} {day:Int}
theorem c5z:∀i∈a0S R l.length r,i<l.length:=fun i hi=>a6M hi
theorem c5p (hv:∀q∈l,a0t q=true) (ht:t∈a2d l):a1Q l t l.length=(List.range l.length).filterMap (gE 40001 l t):=by
 unfold a1Q;exact a7k fun i _=>b6i hv ht i
theorem c9D {i:Nat} {e:Evt} (htl:t.length=l.length) (he:gE 40001 l t i=some e):∃h:i<l.length,e∈l[i].options:=by
 rcases Nat.lt_or_ge i l.length with hi|hi
 ·rw[gE,a2H hi (by omega)]at he
  exact⟨hi,a9c (by simpa using he)⟩
 ·rw[gE,at2,List.getElem?_eq_none hi]at he;simp at he
theorem a6E (hR:Rts l R) (hp:∀q∈l,chs q≠0) (htl:t.length=l.length) {i:Nat} {e:Evt} (he:gE 40001 l t i=some e) {z:ByteArray} (hz:z∈a0Z e) (r:Nat):b7U l R r z=decide (R i=r):=by
 obtain⟨hi,hm⟩:=c9D htl he;rw[Bool.eq_iff_iff,b4F,decide_eq_true_eq]
 constructor
 ·rintro⟨k,hk,rfl,f,hf,h2⟩;exact hR.share hi hk ⟨a4Q (hp _ (List.getElem_mem hi)),e,hm,hz⟩ ⟨a4Q (hp _ (List.getElem_mem hk)),f,hf,h2⟩
 ·rintro rfl;exact⟨i,hi,rfl,e,hm,hz⟩
theorem b3P (e:Evt):e.part∈a0Z e:=by unfold a0Z;split<;>simp
theorem c6w (hR:Rts l R) (hp:∀q∈l,chs q≠0) (ht:t∈a2d l) {e:Evt} (he:e∈a1Q l t l.length) (r:Nat):Dev (b7U l R r) e∨Dev (fun n=>!b7U l R r n) e:=by
 have hv:∀q∈l,a0t q=true:=fun q hq=>a4Q (hp q hq)
 rw[c5p hv ht,List.mem_filterMap]at he
 obtain⟨i,hi,he⟩:=he
 have htl:=(a3H.1 ht).1
 by_cases h:R i=r
 ·exact .inl fun z hz=>by rw[a6E hR hp htl he hz];exact decide_eq_true h
 ·exact .inr fun z hz=>by show (!b7U l R r z)=true;rw[a6E hR hp htl he hz];simpa using h
theorem b7V (hR:Rts l R) (hp:∀q∈l,chs q≠0) (hc:a0Y c=true) (ht:t∈a2d l) (r:Nat):(a1Q l t l.length).filter (fun e=>b7U l R r e.part)=a1Q (a1Y l (a0S R l.length r)) (a1Y t (a0S R l.length r)) (a1Y l (a0S R l.length r)).length:=by
 have hv:∀q∈l,a0t q=true:=fun q hq=>a4Q (hp q hq)
 have htl:=(a3H.1 ht).1
 have ha:=b1i hc hp ht (C:=a0S R l.length r) c5z
 rw[←b1V (fun q hq=>hv q (a9X hq)) ha,a8b htl c5z,c5p hv ht];unfold a0S;rw[List.filter_filterMap,List.filterMap_filter];refine a7k fun i _=>?_
 cases hq:gE 40001 l t i with
 |none=>simp
 |some e=>
  have:=a6E hR hp htl hq (b3P e) r
  simp[Option.filter_some,this]
theorem c1Q (E:List Evt) (q:Evt→Bool) (day:Int):(upD E day).filter q=upD (E.filter q) day:=by
 unfold upD;rw[List.filter_filter,List.filter_filter]
 congr 1
 funext e
 exact Bool.and_comm _ _
theorem c6x (hk:k<l.length) (h:nm l[k] p):b7U l R (R k) p=true:=b4F.2 ⟨k,hk,rfl,h.2⟩
end
end Go.Sx
set_option linter.all false
namespace Go.Sx
open Go
section
variable {l:List Rep} {R:Nat→Nat} {p:ByteArray} {k:Nat}
theorem c5U (hR:Rts l R) (h:∀i,i<l.length→R i=R 0) (hk:k<l.length) (hn:nm l[k] p):a1q l R p=l:=by
 have e:a0S R l.length (R k)=List.range l.length:=List.filter_eq_self.2 fun i hi=>decide_eq_true (by rw[h i (List.mem_range.1 hi),h k hk])
 unfold a1q;rw[a6O hR hk hn,e,a5H]
end
section
variable {α:Type} [DecidableEq α] {lt:α→α→Bool}
end
end Go.Sx
set_option linter.all false
namespace Go.Sx
open Go
def Due.eqB (a b:Due):Bool:=decide (a.part=b.part)&&(decide (a.rule=b.rule)&&(decide (a.day=b.day)&&true))
theorem Due.eqB_eq (a b:Due):Due.eqB a b=decide (a=b):=by
 cases a;cases b;simp[Due.eqB]
structure Fn1 where
 k:FuncId
 cs:List Value
def Fn1.val (f:Fn1):Value:=.func (.func f.k) #[] f.cs.toArray
instance:Enc Fn1 where
 k:=1
 rd _ vs x:=vs=[x.val]
 len h:=by rw[h];rfl
 mono _ h:=h
 one h:=by rw[h];rfl
def LeastIs (l:List Int) (m:Int) (fd:Bool):Prop:=b0P l=(if fd=true then some m else none)∧(fd=false→m=0)
theorem LeastIs.nil:LeastIs [] 0 false:=⟨rfl,fun _=>rfl⟩
theorem b5f (l:List Int) (x:Int):b0P (l++[x])=some (match b0P l with|none=>x|some m=>min m x):=by
 cases l with
 |nil=>rfl
 |cons y l=>simp[b0P,List.foldl_append]
section
variable {l:List Int} {m x:Int} {fd:Bool}
theorem LeastIs.more (h:LeastIs l m true) (hc:¬x<m):LeastIs (l++[x]) m true:=by
 refine⟨?_,fun h=>by cases h⟩;rw[b5f,h.1]
 show some (min m x)=some m
 rw[Int.min_eq_left (by omega)]
theorem LeastIs.val (h:LeastIs l m fd):m=(b0P l).getD 0∧fd=(b0P l).isSome:=by
 cases fd with
 |false=>rw[h.1];exact⟨h.2 rfl,rfl⟩
 |true=>rw[h.1];exact⟨rfl,rfl⟩
end
theorem a9a {κ:Type} [DecidableEq κ] {k x:κ} {v:Value}:∀{kvs:List (κ×Value)},x∈(a5N kvs k v).map Prod.fst↔x=k∨x∈kvs.map Prod.fst
 | []=>by simp[a5N]
 |(k',u)::r=>by
  simp only[a5N]
  split
  ·rename_i h;subst h;simp
  ·simp only[List.map_cons,List.mem_cons,a9a (kvs:=r)]
   constructor
   ·rintro (h|h|h)
    ·exact .inr (.inl h)
    ·exact .inl h
    ·exact .inr (.inr h)
   ·rintro (h|h|h)
    ·exact .inr (.inl h)
    ·exact .inl h
    ·exact .inr (.inr h)
theorem b5j {κ:Type} [DecidableEq κ] {k:κ} {v:Value}:∀{kvs:List (κ×Value)},(kvs.map Prod.fst).Nodup→((a5N kvs k v).map Prod.fst).Nodup
 | [],_=>by simp[a5N]
 |(k',u)::r,h=>by
  obtain⟨h1,h2⟩:=List.nodup_cons.1 h
  simp only[a5N]
  split
  ·exact h
  ·rename_i hne
   refine List.nodup_cons.2 ⟨fun hm=>?_,b5j h2⟩
   rcases a9a.1 hm with e|hm
   ·exact hne e
   ·exact h1 hm
def KeysD (kvs:List (Due×Value)) (L:List Due):Prop:=(kvs.map Prod.fst).Nodup∧∀x,x∈kvs.map Prod.fst↔x∈L
theorem KeysD.nil:KeysD [] []:=⟨List.nodup_nil,fun x=>Iff.rfl⟩
section
variable {kvs:List (Due×Value)} {F:Dut→Option Due} {ds:List Dut} {i:Nat}
theorem KeysD.none (h:KeysD kvs ((ds.take i).filterMap F)) (hi:i<ds.length) (h0:F ds[i] = .none):KeysD kvs ((ds.take (i+1)).filterMap F):=by
 rw[←a0q hi,List.filterMap_append]
 simpa[h0]using h
theorem KeysD.some {x:Due} {v:Value} (h:KeysD kvs ((ds.take i).filterMap F)) (hi:i<ds.length) (h0:F ds[i] = .some x):KeysD (a5N kvs x v) ((ds.take (i+1)).filterMap F):=by
 rw[←a0q hi,List.filterMap_append];refine⟨b5j h.1,fun z=>?_⟩;rw[a9a,h.2,List.mem_append]
 simp[h0,or_comm]
end
section
variable {c:List Kind} {l:List Evt} {p:ByteArray} {day:Int} {ds:List Dut} {d:Dut} {k:ByteArray}
end
section
variable {d:Dut} {l:List Evt} {p:ByteArray} {day:Int}
end
end Go.Sx
set_option linter.all false
namespace Go.Sx
open Go
section
variable {α:Type} [Inhabited α] {w:World} {g t:Nat} {cur:Array Value}
end
def SrtP (l m:List ByteArray):Prop:=m.Perm l∧m.Pairwise fun a b=>sLt b a=false
section
variable {P:Program} {f:FuncId} {I:IMap}
end
end Go.Sx
set_option linter.all false
namespace Go.Sx
open Go
instance:Inhabited Due:=⟨⟨a1g,a1g,0⟩⟩
theorem KeysD.len {kvs:List (Due×Value)} {L:List Due} (h:KeysD kvs L):kvs.length≤L.length:=by
 have:=h.1.length_le_of_subset (l₂:=L) fun x hx=>(h.2 x).1 hx
 rwa[List.length_map]at this
section
variable {ds:List Dut} {c:List Kind} {l:List Evt} {p:ByteArray} {day:Int} {kvs done:List (Due×Value)}
end
def KeysN (kvs:List (ByteArray×Value)) (L:List ByteArray):Prop:=(kvs.map Prod.fst).Nodup∧∀x,x∈kvs.map Prod.fst↔x∈L
theorem KeysN.nil:KeysN [] []:=⟨List.nodup_nil,fun x=>Iff.rfl⟩
def c7o (day:Int) (done:List (Due×Value)):List ByteArray:=((done.map Prod.fst).filter fun x=>decide (x.day<day)).map Due.rule
theorem KeysN.len {day:Int} {done:List (Due×Value)} {ns:List (ByteArray×Value)} (h:KeysN ns (c7o day done)):ns.length≤done.length:=by
 have h1:=h.1.length_le_of_subset (l₂:=c7o day done) fun x hx=>(h.2 x).1 hx
 rw[List.length_map]at h1
 refine Nat.le_trans h1 ?_;unfold c7o;rw[List.length_map];exact Nat.le_trans (List.length_filter_le _ _) (by rw[List.length_map];exact Nat.le_refl _)
section
variable {ds:List Dut} {c:List Kind} {l:List Evt} {p:ByteArray} {day:Int} {kvs done:List (Due×Value)} {ns:List (ByteArray×Value)}
end
theorem SrtP.perm {l l' m:List ByteArray} (h:SrtP l m) (hp:l.Perm l'):SrtP l' m:=⟨h.1.trans hp,h.2⟩
section
variable {P:Program} {f:FuncId} {args:Array Value} {v:Value}
end
end Go.Sx
set_option linter.all false
namespace Go.Sx
open Go
section
variable {κ:Type} [DecidableEq κ]
def KeysG (kvs:List (κ×Value)) (L:List κ):Prop:=(kvs.map Prod.fst).Nodup∧∀x,x∈kvs.map Prod.fst↔x∈L
theorem KeysG.nil:KeysG ([]:List (κ×Value)) []:=⟨List.nodup_nil,fun x=>Iff.rfl⟩
theorem KeysG.put {kvs:List (κ×Value)} {L:List κ} {x:κ} {v:Value} (h:KeysG kvs L):KeysG (a5N kvs x v) (L++[x]):=
 ⟨b5j h.1,fun z=>by rw[a9a,h.2,List.mem_append,List.mem_singleton,or_comm]⟩
theorem KeysG.one {kvs:List (κ×Value)} {L m:List κ} {v:Value} (h:KeysG kvs L) (h1:m.length=1):KeysG (a5N kvs (m[0]'(by omega)) v) (L++m):=by
 match m,h1 with
 | [x],_=>exact h.put
theorem KeysG.zero {kvs:List (κ×Value)} {L m:List κ} (h:KeysG kvs L) (h0:¬((m.length:Nat):Int)=1) (hle:m.length≤1):KeysG kvs (L++m):=by
 match m with
 | []=>rw[List.append_nil];exact h
 | [x]=>exact absurd rfl h0
end
section
variable {ds:List Dut} {c:List Kind} {l:List Evt} {p:ByteArray} {day:Int} {i:Nat}
end
end Go.Sx
set_option linter.all false
namespace Go.Sx
open Go
def Plc.eqB (a b:Plc):Bool:=decide (a.into=b.into)&&(decide (a.slot=b.slot)&&true)
theorem Plc.eqB_eq (a b:Plc):Plc.eqB a b=decide (a=b):=by
 cases a;cases b;simp[Plc.eqB]
instance:Inhabited Plc:=⟨⟨a1g,a1g⟩⟩
theorem c9X (a b:List Nat):nI (a++b)=nI a++nI b:=by simp[nI]
theorem c1k {l:List Rep} {C:List Nat} {i:Nat} (hi:i<C.length) (h:C[i]<l.length):a1Y l (C.take (i+1))=a1Y l (C.take i)++[l[C[i]]]:=by
 rw[←a0q hi,a8x,a4A h];rfl
theorem KeysG.len {κ:Type} [DecidableEq κ] {kvs:List (κ×Value)} {L:List κ} (h:KeysG kvs L):kvs.length≤L.length:=by
 have h1:(kvs.map Prod.fst).length≤L.length:=List.Nodup.length_le_of_subset h.1 fun x hx=>(h.2 x).1 hx
 simpa using h1
section
variable {κ:Type} {pre:List κ} {todo a b kvs:List (κ×Value)} {e:κ×Value}
end
section
variable {c:List Kind} {own:List Rep} {p:ByteArray} {day:Int} {all:List (List Int)} {i:Nat}
end
theorem c9o {c:List Kind} {l own:List Rep} (h:a0Y c=true) (h2:l.any (fun r=>!a0t r)=true):b1Q c l own=1:=by unfold b1Q;rw[if_neg (by simp[h]),if_pos h2]
theorem c9p {c:List Kind} {l own:List Rep} (h:a0Y c=true) (h2:l.any (fun r=>!a0t r)=false) (h3:own=[]):b1Q c l own=2:=by unfold b1Q;rw[if_neg (by simp[h]),if_neg (by simp[h2]),if_pos h3]
theorem c9q {c:List Kind} {l own:List Rep} (h:a0Y c=true) (h2:l.any (fun r=>!a0t r)=false) (h3:own≠[]):b1Q c l own=if (a3z c own 4096).2≠0 then (a3z c own 4096).2 else if (a3z c own 4096).1.length=4096 then 7 else 0:=by unfold b1Q;rw[if_neg (by simp[h]),if_neg (by simp[h2]),if_neg h3]
section
variable {s:List Part} {q:ByteArray} {i:Nat} {y z:ByteArray}
end
end Go.Sx
set_option linter.all false
namespace Go.Sx
open Go
section
variable {c:List Kind} {f:Fm} {st:List Part} {l:List Evt} {p:Part} {e:Evt} {d:Ivl}
theorem c1U (hi:Inc Part.name st):Inc Part.name (useL st e d):=by
 unfold useL Inc;rw[List.pairwise_map];refine List.Pairwise.imp (fun {a b} h=>?_) hi
 split<;>split<;>exact h
end
section
variable {p:Part} {s:ByteArray} {d:Int}
theorem a8Q:a5W a2u=true∧b6b p a2u d=a3F d p.since∧a5W a6y=true∧b6b p a6y d=a3F d p.made:=by
 obtain⟨⟨n1,n2,n3,n4⟩,⟨n5,n6,n7⟩,⟨n8,n9⟩,n10⟩:=c5n;refine⟨by decide +kernel,?_,by decide +kernel,?_⟩
 ·simp[b6b,n3.symm,n6.symm,n8.symm]
 ·simp[b6b,n4.symm,n7.symm,n9.symm,n10.symm]
theorem a6e {F:Int}:(a3F d F).high=(a3F d F).low∧(a3F d F).low=if F≥d then 0 else d-max F (d-(1000000000000:Int)):=by
 unfold a3F a4R
 split<;>exact⟨rfl,rfl⟩
theorem a7K (h:a5W s=true) (hd:0≤d∧d≤40000):a5y p s d=(b6b p s d,0):=b4u h (by simp;omega)
end
theorem c2R {d s m:Int} (h:¬s<m):(a3F d s).low≤(a3F d m).low:=by
 rw[a6e.2,a6e.2]
 split<;>split<;>omega
end Go.Sx
set_option linter.all false
namespace Go.Sx
open Go
noncomputable def runsL (f:Fm) (c:List Kind):List Part→List Evt→Option (List Part)
 |st,[]=>some st
 |st,e::l=>if (a0p c st e).2=0 then runsL f c (applyL f c st e).1 l else none
section
variable {f:Fm} {c:List Kind} {D:ByteArray→Bool} {s a b:List Part} {d:Ivl} {v n:ByteArray}
theorem b7p:∀(l:List Evt) (st s:List Part) (z:Int),runsL f c st l=some s↔(runLGo f c st z l).2.2=0∧(runLGo f c st z l).1=s
 | [],st,s,z=>by simp[runsL,runLGo]
 |e::l,st,s,z=>by
  simp only[runsL,runLGo,a3I]
  by_cases h:(a0p c st e).2=0
  ·rw[if_pos h,if_pos h];exact b7p l _ s _
  ·rw[if_neg h,if_neg h]
   constructor
   ·intro h2;cases h2
   ·intro h2;exact absurd h2.1 h
theorem c5I (h:Spl D s a b) (hn:D n=true):upP s n=upP a n∧(upP a n=a1g∨D (upP a n)=true):=by
 refine⟨by unfold upP;rw[h.find hn],?_⟩;unfold upP
 cases hq:a0O a n with
 |none=>exact .inl rfl
 |some q=>exact (h.na q ((a1J h.ia).1 hq).1).2
theorem b7k (h:Spl D s a b):∀(k:Nat) (n:ByteArray),D n=true→a5t s v k n=a5t a v k n
 |0,_,_=>rfl
 |k+1,n,hn=>by
  obtain⟨h1,h2⟩:=c5I h hn
  simp only[a5t,h1]
  rcases h2 with h2|h2
  ·simp[h2]
  ·rw[b7k h k _ h2]
theorem b3W (h:Spl D s a b) (hv:D v=true):∀(k:Nat) (n:ByteArray),D n=false→a5t s v k n=false
 |0,_,_=>rfl
 |k+1,n,hn=>by
  obtain⟨h1,h2⟩:=c5I h.turn (n:=n) (by simpa using hn)
  simp only[a5t]
  rcases h2 with h2|h2
  ·rw[h1,h2];simp
  ·have h3:D (upP s n)=false:=by rw[h1];simpa using h2
   rw[b3W h hv k _ h3]
   have:¬upP s n=v:=fun e=>by rw[e,hv]at h3;cases h3
   simp[this]
theorem c9K (h:Spl D s a b) (hv:D v=true) (hn:D n=true):b1D s v n↔b1D a v n:=by
 unfold b1D;rw[h.find hv,h.find hn];refine and_congr_right fun _=>exists_congr fun k=>?_
 rw[b7k h k n hn]
theorem c7i (h:Spl D s a b) (hv:D v=true) (hn:D n=false):¬b1D s v n:=fun ⟨_,k,hk⟩=>by rw[b3W h hv k n hn]at hk;cases hk
theorem Spl.use (h:Spl D s a b) {e:Evt} (hv:D e.part=true):Spl D (useL s e d) (useL a e d) b:=by
 have hA:∀y∈a,(y.name=e.part∨b1D s e.part y.name)↔(y.name=e.part∨b1D a e.part y.name):=fun y hy=>by rw[c9K h hv (h.na y hy).1]
 have hB:∀y∈b,¬(y.name=e.part∨b1D s e.part y.name):=fun y hy=>by
  have hd:=(h.nb y hy).1
  rintro (h1|h1)
  ·rw[h1,hv]at hd;cases hd
  ·exact c7i h hv hd h1
 refine⟨c1U h.is,c1U h.ia,h.ib,fun x=>?_,fun x hx=>?_,h.nb⟩
 ·unfold useL;rw[List.mem_map,List.mem_map]
  constructor
  ·rintro⟨y,hy,rfl⟩
   rcases (h.mem y).1 hy with hy|hy
   ·refine .inl ⟨y,hy,?_⟩
    by_cases h1:y.name=e.part∨b1D s e.part y.name
    ·rw[if_pos h1,if_pos ((hA y hy).1 h1)]
    ·rw[if_neg h1,if_neg (fun h2=>h1 ((hA y hy).2 h2))]
   ·rw[if_neg (hB y hy)];exact .inr hy
  ·rintro (⟨y,hy,rfl⟩|hx)
   ·refine⟨y,(h.mem y).2 (.inl hy),?_⟩
    by_cases h1:y.name=e.part∨b1D s e.part y.name
    ·rw[if_pos h1,if_pos ((hA y hy).1 h1)]
    ·rw[if_neg h1,if_neg (fun h2=>h1 ((hA y hy).2 h2))]
   ·exact⟨x,(h.mem x).2 (.inr hx),if_neg (hB x hx)⟩
 ·unfold useL at hx
  obtain⟨y,hy,rfl⟩:=List.mem_map.1 hx
  split
  ·exact h.na y hy
  ·exact h.na y hy
theorem d0J {e:Evt} (h:VS c s) (hL:LfInv s) (he:a1H e=true) (h4:e.op=4):VS c (useL s e (b0p f e.use))∧LfInv (useL s e (b0p f e.use)):=by
 have hu:=c1v he h4
 have h1:=hL.use (d:=b0p f e.use) hu.1 hu.2.1 b9L
 refine⟨a2F.1 ?_,h1⟩;rw[←a7Q h1,b5T,a7Q hL];exact a2F.2 h
theorem b2D {e:Evt} (h:VS c s) (hL:LfInv s) (h0:(a0p c s e).2=0):VS c (applyL f c s e).1∧LfInv (applyL f c s e).1:=by
 refine⟨?_,hL.step⟩;obtain⟨p',hp⟩:=a4u h0;unfold applyL
 by_cases h4:e.op=4
 ·rw[if_pos ⟨h0,h4⟩,a6X h0 h4];exact (d0J h hL hp.ve h4).1
 ·rw[if_neg (fun h=>h4 h.2),a2Z hp];exact hp.valid
theorem b2B {e:Evt} (h:VS c s) (h0:(a0p c s e).2=0):(applyL f c s e).1.length≤s.length+1:=by
 obtain⟨p',hp⟩:=a4u h0
 have:=b1k (x:=p') h.inc
 unfold applyL
 split
 ·rename_i h4
  show (useL _ e _).length≤_
  rw[use_len,a2Z hp];exact this
 ·rw[a2Z hp];exact this
theorem Spl.stepL {e:Evt} (h:Spl D s a b) (he:Dev D e) (vs:VS c s) (va:VS c a) (ls:s.length<20000) (la:a.length<20000) (h0:(a0p c s e).2=0) :
  (a0p c a e).2=0∧Spl D (applyL f c s e).1 (applyL f c a e).1 b:=by
 obtain⟨p',hs⟩:=a4u h0
 have ha:=(h.step he vs va ls la p').1 hs
 have h1:(a0p c a e).2=0:=by rw[a2Z ha];rfl
 refine⟨h1,?_⟩;unfold applyL
 by_cases h4:e.op=4
 ·rw[if_pos ⟨h0,h4⟩,if_pos ⟨h1,h4⟩,a6X h0 h4,a6X h1 h4];exact h.use he.part
 ·rw[if_neg (fun h=>h4 h.2),if_neg (fun h=>h4 h.2),a2Z hs,a2Z ha];exact h.put he ha
theorem b0d:∀(Z:List Evt) (s a b t:List Part),Spl D s a b→VS c s→VS c a→VS c b→LfInv s→LfInv a→LfInv b→s.length+Z.length<20000→a.length+Z.length<20000→b.length+Z.length<20000 →
  (∀e∈Z,Dev D e∨Dev (fun n=>!D n) e)→runsL f c s Z=some t→∃a' b',runsL f c a (Z.filter fun e=>D e.part)=some a'∧runsL f c b (Z.filter fun e=>!D e.part)=some b'∧Spl D t a' b'
 | [],s,a,b,t,h,_,_,_,_,_,_,_,_,_,_,hr=>by simp only[runsL]at hr;cases hr;exact⟨a,b,rfl,rfl,h⟩
 |e::r,s,a,b,t,h,vs,va,vb,is,ia,ib,ls,la,lb,hd,hr=>by
  simp only[List.length_cons]at ls la lb
  simp only[runsL]at hr
  have h0:(a0p c s e).2=0:=by
   refine Decidable.by_contra fun h0=>?_
   rw[if_neg h0]at hr;cases hr
  rw[if_pos h0]at hr
  obtain⟨vs1,is1⟩:=b2D (f:=f) vs is h0
  have l1:=b2B (f:=f) vs h0
  rcases hd e (by simp) with he|he
  ·have hp:=he.part
   obtain⟨ha,hS⟩:=h.stepL (f:=f) he vs va (by omega) (by omega) h0;obtain⟨va1,ia1⟩:=b2D (f:=f) va ia ha
   have l2:=b2B (f:=f) va ha
   simp only[List.filter_cons,hp,Bool.not_true,if_true,Bool.false_eq_true,if_false]
   obtain⟨a',b',h1,h2,h3⟩:=b0d r _ _ _ t hS vs1 va1 vb is1 ia1 ib (by omega) (by omega) (by omega) (fun x hx=>hd x (by simp[hx])) hr;refine⟨a',b',?_,h2,h3⟩
   simp only[runsL]
   rw[if_pos ha];exact h1
  ·have hp:D e.part=false:=by simpa using he.part
   obtain⟨hb,hS⟩:=h.turn.stepL (f:=f) he vs vb (by omega) (by omega) h0;obtain⟨vb1,ib1⟩:=b2D (f:=f) vb ib hb
   have l2:=b2B (f:=f) vb hb
   have ht:=hS.turn
   have ht:Spl D (applyL f c s e).1 a (applyL f c b e).1:=⟨ht.is,ht.ia,ht.ib,ht.mem,fun x hx=>by simpa using ht.na x hx,fun x hx=>by simpa using ht.nb x hx⟩
   simp only[List.filter_cons,hp,Bool.not_false,if_true,Bool.false_eq_true,if_false]
   obtain⟨a',b',h1,h2,h3⟩:=b0d r _ _ _ t ht vs1 va vb1 is1 ia ib1 (by omega) (by omega) (by omega) (fun x hx=>hd x (by simp[hx])) hr;refine⟨a',b',h1,?_,h3⟩
   simp only[runsL]
   rw[if_pos hb];exact h2
end
section
variable {f:Fm} {c:List Kind} {l:List Rep} {s:List Part} {R:Nat→Nat} {t T:List Int} {E:List Evt} {r k:Nat} {p:ByteArray} {day:Int}
theorem b9j (hc:a0Y c=true) (hf:a1G f=true):runsL f c [] (a1m (upD E day))=some s↔(runL f c E day).2.2=0∧(runL f c E day).1=s:=by
 unfold runL;rw[if_neg (by simp[hc,hf])];exact b7p _ _ _ _
theorem d1M (hf:a1G f=true) (ht:t∈a2O c l) (day:Int):(runL f c (a1Q l t l.length) day).2.2=0:=by
 have h:=a6L (f:=f) (c:=c) hf (a1Q l t l.length) day
 have h2:=(b3i ht day).at0
 rw[←h]at h2;exact h2
theorem c7q (hf:a1G f=true) (ht:t∈a2O c l) (day:Int):runsL f c [] (a1m (upD (a1Q l t l.length) day))=some (runL f c (a1Q l t l.length) day).1:=
 (b9j (a5m ht).2.1 hf).2 ⟨d1M hf ht day,rfl⟩
theorem b8s (hf:a1G f=true) (E:List Evt) (p:ByteArray):(a0O (runL f c E day).1 p).isSome=(a0O (a9o c E day).1 p).isSome:=by
 have h:=a6L (f:=f) (c:=c) hf E day
 rw[←h]
 show _=(a0O ((runL f c E day).1.map a1K) p).isSome
 rw[a5l,Option.isSome_map]
theorem b8W (hf:a1G f=true) (hR:Rts l R) (hT:T∈a2O c l) (hl:l.length<20000) (hk:k<l.length) (hn:nm l[k] p) (day:Int) :
  a1Y T (ofN l R p)∈a2O c (a1q l R p)∧a0O (runL f c (a1Q l T l.length) day).1 p=a0O (runL f c (a1Q (a1q l R p) (a1Y T (ofN l R p)) (a1q l R p).length) day).1 p:=by
 obtain⟨hg,hc,hv,ha⟩:=a5m hT
 have hp:∀q∈l,chs q≠0:=fun q hq=>by have:=c6o (hv q hq);omega
 have hr:R k∈a0V R l.length:=a9L.2 ⟨Nat.lt_of_le_of_lt (hR.le k) hk,hR.idem k⟩
 have e:ofN l R p=a0S R l.length (R k):=a6O hR hk hn
 have ht:=c0o hR hc hp hl hT hr
 unfold a1q;rw[e];refine⟨ht,?_⟩
 have h1:=c7q hf hT day
 have h2:=c7q hf ht day
 have hel:(a1m (upD (a1Q l T l.length) day)).length<20000:=by
  rw[a4c];exact Nat.lt_of_le_of_lt (List.length_filter_le _ _) (Nat.lt_of_le_of_lt (b6j l T) hl)
 obtain⟨a',b',h3,_,h5⟩:=b0d (D:=b7U l R (R k)) (a1m (upD (a1Q l T l.length) day)) [] [] [] _ (Spl.nil _) (a8B hc) (a8B hc) (a8B hc) LfInv.nil LfInv.nil LfInv.nil (by simpa using hel) (by simpa using hel) (by simpa using hel) (fun e he=>c6w hR hp ha (List.mem_filter.1 (a5w.1 he)).1 (R k)) h1;rw[a5v (fun e:Evt=>b7U l R (R k) e.part),c1Q,b7V hR hp hc ha (R k),h2]at h3
 cases h3
 exact h5.find (c6x hk hn)
end
end Go.Sx
set_option linter.all false
namespace Go.Sx
open Go
def a8G:List Ivl→Ivl
 | []=>a4R
 |x::r=>r.foldl a2R x
noncomputable def lifeA (f:Fm) (c:List Kind) (own:List Rep) (p:ByteArray) (day:Int):List (Option Part):=(a3z c own 4096).1.map fun t=>a0O (runL f c (a1i own t).1 day).1 p
def a5P (f:Fm) (c:List Kind) (l own:List Rep) (day:Int):Int:=if (!a0Y c || !a1G f)=true then 1 else if (decide (day<0)||decide (day>40000))=true then 1 else b1Q c l own
noncomputable def bndF (g:Option Part→Ivl) (f:Fm) (c:List Kind) (l own:List Rep) (p:ByteArray) (day:Int):Ivl×Int:=
 if a5P f c l own day≠0 then (a4R,a5P f c l own day) else if (lifeA f c own p day).any Option.isSome=false then (a4R,2) else (a8G ((lifeA f c own p day).map g),0)
def kmO (o:Option Part):Ivl:=(o.getD zPart).life.km
def cyO (o:Option Part):Ivl:=(o.getD zPart).life.cycles
def daO (o:Option Part):Ivl:=(o.getD zPart).life.damage
def a4x (s:ByteArray) (day:Int) (o:Option Part):Ivl:=match o with
 |some p=>(a5y p s day).1
 |none=>a4R
noncomputable def bndLife (f:Fm) (c:List Kind) (l own:List Rep) (p:ByteArray) (day:Int):Life×Int:=(⟨(bndF kmO f c l own p day).1,(bndF cyO f c l own p day).1,(bndF daO f c l own p day).1⟩,(bndF kmO f c l own p day).2)
noncomputable def bndVal (s:ByteArray) (f:Fm) (c:List Kind) (l own:List Rep) (p:ByteArray) (day:Int):Ivl×Int:=if a5W s=false then (a4R,15) else bndF (a4x s day) f c l own p day
theorem b3h:∀(L:List Ivl) (x:Ivl),a2n x=true→(∀y∈L,a2n y=true)→a2n (L.foldl a2R x)=true∧(∀y,y=x∨y∈L→(L.foldl a2R x).low≤y.low∧y.high≤(L.foldl a2R x).high)∧(∃y,(y=x∨y∈L)∧y.low=(L.foldl a2R x).low)∧(∃y,(y=x∨y∈L)∧y.high=(L.foldl a2R x).high)
 | [],x,hx,_=>by
  refine⟨hx,fun y h=>?_,⟨x,.inl rfl,rfl⟩,⟨x,.inl rfl,rfl⟩⟩
  rcases h with rfl|h
  ·exact⟨Int.le_refl _,Int.le_refl _⟩
  ·cases h
 |z::L,x,hx,hL=>by
  have hz:=hL z (by simp)
  have e:=b6z hx hz
  obtain⟨h1,h2,⟨y1,h3,h4⟩,⟨y2,h5,h6⟩⟩:=b3h L (a2R x z) a8U fun y hy=>hL y (by simp[hy])
  rw[List.foldl_cons]
  have hj:=h2 (a2R x z) (.inl rfl)
  refine⟨h1,fun y hy=>?_,?_,?_⟩
  ·have e1:(a2R x z).low=min x.low z.low:=by rw[e]
   have e2:(a2R x z).high=max x.high z.high:=by rw[e]
   rcases hy with rfl|hy
   ·omega
   ·rcases List.mem_cons.1 hy with rfl|hy
    ·omega
    ·exact h2 y (.inr hy)
  ·rcases h3 with rfl|h3
   ·have e1:(a2R x z).low=min x.low z.low:=by rw[e]
    by_cases hc:x.low≤z.low
    ·exact⟨x,.inl rfl,by omega⟩
    ·exact⟨z,.inr (by simp),by omega⟩
   ·exact⟨y1,.inr (by simp[h3]),h4⟩
  ·rcases h5 with rfl|h5
   ·have e2:(a2R x z).high=max x.high z.high:=by rw[e]
    by_cases hc:z.high≤x.high
    ·exact⟨x,.inl rfl,by omega⟩
    ·exact⟨z,.inr (by simp),by omega⟩
   ·exact⟨y2,.inr (by simp[h5]),h6⟩
section
variable {L M:List Ivl} {x:Ivl}
theorem b1Y (hL:∀y∈L,a2n y=true) (hn:L≠[]):a2n (a8G L)=true∧(∀y∈L,(a8G L).low≤y.low∧y.high≤(a8G L).high)∧(∃y∈L,y.low=(a8G L).low)∧(∃y∈L,y.high=(a8G L).high):=by
 cases L with
 |nil=>exact absurd rfl hn
 |cons x L=>
  obtain⟨h1,h2,⟨y1,h3,h4⟩,⟨y2,h5,h6⟩⟩:=b3h L x (hL x (by simp)) fun y hy=>hL y (by simp[hy])
  exact⟨h1,fun y hy=>h2 y (List.mem_cons.1 hy),⟨y1,List.mem_cons.2 h3,h4⟩,⟨y2,List.mem_cons.2 h5,h6⟩⟩
end
theorem c0t {α:Type} {L:List α} {g1 g2:α→Ivl} (h1:∀y∈L,a2n (g1 y)=true) (h2:∀y∈L,a2n (g2 y)=true) (h:∀y∈L,(g1 y).low≤(g2 y).low∧(g1 y).high≤(g2 y).high) :
  (a8G (L.map g1)).low≤(a8G (L.map g2)).low∧(a8G (L.map g1)).high≤(a8G (L.map g2)).high:=by
 cases L with
 |nil=>exact⟨Int.le_refl _,Int.le_refl _⟩
 |cons x L=>
  obtain⟨_,a1,_,⟨b1,b2,b3⟩⟩:=b1Y (L:=(x::L).map g1) (fun y hy=>by obtain⟨z,hz,rfl⟩:=List.mem_map.1 hy;exact h1 z hz) (by simp);obtain⟨_,d1,⟨e1,e2,e3⟩,_⟩:=b1Y (L:=(x::L).map g2) (fun y hy=>by obtain⟨z,hz,rfl⟩:=List.mem_map.1 hy;exact h2 z hz) (by simp);obtain⟨z1,hz1,rfl⟩:=List.mem_map.1 b2;obtain⟨z2,hz2,rfl⟩:=List.mem_map.1 e2
  have f1:=a1 (g1 z2) (List.mem_map.2 ⟨z2,hz2,rfl⟩)
  have f2:=d1 (g2 z1) (List.mem_map.2 ⟨z1,hz1,rfl⟩)
  have f3:=h z1 hz1
  have f4:=h z2 hz2
  omega
section
variable {f:Fm} {c:List Kind} {l own:List Rep} {R:Nat→Nat} {p s:ByteArray} {day:Int} {g g':Option Part→Ivl} {k:Nat}
theorem b1M (h:(bndF g f c l own p day).2=0):a5P f c l own day=0∧(lifeA f c own p day).any Option.isSome=true∧(bndF g f c l own p day).1=a8G ((lifeA f c own p day).map g):=by
 unfold bndF at h ⊢
 by_cases h1:a5P f c l own day≠0
 ·rw[if_pos h1]at h;exact absurd h h1
 ·rw[if_neg h1]at h ⊢
  by_cases h2:(lifeA f c own p day).any Option.isSome=false
  ·rw[if_pos h2]at h;cases h
  ·rw[if_neg h2];exact⟨by simpa using h1,by cases hb:(lifeA f c own p day).any Option.isSome<;>simp_all,rfl⟩
theorem b4C (h:(bndF g f c l own p day).2≠0):(bndF g f c l own p day).1=a4R:=by
 unfold bndF at h ⊢
 split
 ·rfl
 ·rename_i h1
  rw[if_neg h1]at h
  split
  ·rfl
  ·rename_i h2;rw[if_neg h2]at h;exact absurd rfl h
theorem b1L:(bndF g f c l own p day).2=(bndF g' f c l own p day).2:=by
 unfold bndF
 split
 ·rfl
 ·split<;>rfl
theorem a6Z (h:a5P f c l own day=0):a1G f=true∧(0≤day∧day≤40000)∧b1Q c l own=0:=by
 unfold a5P at h
 split at h
 ·cases h
 split at h
 ·cases h
 rename_i h1 h2
 simp at h1 h2
 exact⟨h1.2,by omega,h⟩
theorem c3H (hf:a1G f=true) (h:b1Q c l own=0) {o:Option Part}:o∈lifeA f c own p day↔∃t∈a2O c own,o=a0O (runL f c (a1Q own t own.length) day).1 p:=by
 obtain⟨_,_,_,_,h1,_⟩:=b5W h;unfold lifeA;rw[h1,List.mem_map]
 constructor
 ·rintro⟨t,ht,rfl⟩;rw[(a8S ht).1];exact⟨t,ht,rfl⟩
 ·rintro⟨t,ht,rfl⟩;exact⟨t,ht,by rw[(a8S ht).1]⟩
theorem c7r (h:b1Q c l own=0):lifeA f c own p day≠[]:=by
 obtain⟨_,_,_,_,h1,h2⟩:=b5W h;unfold lifeA;rw[h1];simpa using h2
theorem c2I (hR:Rts l R) (h30:l.length≤30) (hs:∀r∈l,chs r=1) (h0:(runL f c (a1i l (List.replicate l.length 0)).1 40000).2.2=0) (hd:0≤day∧day≤40000) {q:Part} (hq:a0O (runL f c (a1i l (List.replicate l.length 0)).1 day).1 p=some q) :
  bndF g f c l (a1q l R p) p day=(g (some q),0):=by
 have hcf:a0Y c=true∧a1G f=true:=by
  unfold runL at h0
  split at h0
  ·cases h0
  ·rename_i h1;simpa using h1
 obtain⟨hc,hf⟩:=hcf
 have hp:∀r∈l,chs r≠0:=fun r hr=>by rw[hs r hr];decide
 have hv:∀r∈l,a0t r=true:=fun r hr=>a4Q (hp r hr)
 have hall:=b1I hs
 have hz:List.replicate l.length 0∈a2d l:=by rw[hall];simp
 have hg:=(a6U hc hp _).2 hz
 have hpk:a1i l (List.replicate l.length 0)=(a1Q l (List.replicate l.length 0) l.length,0):=by
  obtain⟨htl,hb⟩:=a3H.1 hz;unfold a1i;rw[if_pos]
  simp only[Bool.and_eq_true,decide_eq_true_eq]
  refine⟨by omega,b1G (fun i h1 h2=>?_) htl⟩
  have:=hb i h1 h2
  simp[okK];omega
 rw[hpk]at h0 hq
 have hT:List.replicate l.length 0∈a2O c l:=by
  rw[a7n,c3x hg,b1V hv hz]
  have h1:=(b9j hc hf).2 ⟨h0,rfl⟩
  have h2:=a6L (f:=f) (c:=c) hf (a1Q l (List.replicate l.length 0) l.length) 40000
  have h3:(a9o c (a1Q l (List.replicate l.length 0) l.length) 40000).2.2=0:=by rw[←h2];exact h0
  have h4:=(c5k hc).2 ⟨h3,rfl⟩
  have h5:upD (a1Q l (List.replicate l.length 0) l.length) 40000=a1Q l (List.replicate l.length 0) l.length:=by
   unfold upD;rw[List.filter_eq_self];intro e he;obtain⟨i,hi,ho⟩:=b9V he
   have:=(a2x (a3b (hv _ (List.getElem_mem hi)) e ho)).2.2.1
   simp;omega
  rw[h5]at h4
  rw[h4];rfl
 have hth:(a0O (a9o c (a1Q l (List.replicate l.length 0) l.length) day).1 p).isSome=true:=by rw[←b8s hf,hq];rfl
 obtain⟨x,hx⟩:=Option.isSome_iff_exists.1 hth
 have hC:=b3i hT day
 obtain⟨hxm,hxn⟩:=(a1J hC.vs.inc).1 hx;obtain⟨j,hj,hnj⟩:=hC.own x hxm;rw[hxn]at hnj
 obtain⟨ht,hlife⟩:=b8W hf hR hT (by omega) hj hnj day;rw[hq]at hlife
 have hown:a1q l R p≠[]:=by
  intro e
  have h1:=(b5t hR).1 e
  rw[a6O hR hj hnj]at h1
  have:j∈a0S R l.length (R j):=a3R.2 ⟨hj,rfl⟩
  rw[h1]at this;cases this
 have hso:∀r∈a1q l R p,chs r=1:=fun r hr=>hs r (a5G hr)
 have haown:=b1I hso
 have hhist:a2O c (a1q l R p)=[List.replicate (a1q l R p).length 0]:=by
  have h1:a1Y (List.replicate l.length (0:Int)) (ofN l R p)=List.replicate (a1q l R p).length 0:=by
   have:=a5D ht
   rw[haown,List.mem_singleton]at this;exact this
  rw[h1]at ht
  unfold a2O at ht ⊢
  rw[haown]at ht ⊢
  rw[List.mem_filter]at ht
  rw[List.filter_cons,if_pos ht.2];rfl
 have hoe:a7U c (a1q l R p)=0:=c9y hc (fun r hr=>hp r (a5G hr)) (Nat.le_trans a5g h30)
 have hal:a3z c (a1q l R p) 4096=([List.replicate (a1q l R p).length 0],0):=by
  rw[b9f (by omega) (by omega) hoe,hhist];rfl
 have hE:a5P f c l (a1q l R p) day=0:=by
  unfold a5P;rw[if_neg (by simp[hc,hf]),if_neg (by simp;omega)];unfold b1Q;rw[if_neg (by simp[hc]),if_neg (by rw[a9m.2 hv];decide),if_neg hown,hal]
  rfl
 have hto:a1Y (List.replicate l.length (0:Int)) (ofN l R p)=List.replicate (a1q l R p).length 0:=by
  have:=a5D ht
  rw[haown,List.mem_singleton]at this;exact this
 rw[hto]at hlife ht
 have hLA:lifeA f c (a1q l R p) p day=[some q]:=by
  unfold lifeA;rw[hal]
  show [a0O (runL f c (a1i (a1q l R p) (List.replicate (a1q l R p).length 0)).1 day).1 p]=[some q]
  rw[(a8S ht).1,←hlife]
 unfold bndF;rw[if_neg (by simp[hE]),hLA]
 rfl
theorem c2E (hv:∀r∈l,a0t r=true):a5P f c (a1q l R p) (a1q l R p) day=a5P f c l (a1q l R p) day:=by unfold a5P;rw[c2M hv]
theorem b4D (hv:∀r∈l,a0t r=true):bndF g f c (a1q l R p) (a1q l R p) p day=bndF g f c l (a1q l R p) p day:=by unfold bndF;rw[c2E hv]
theorem b0j (hd:0≤day∧day≤40000) (o:Option Part):a4x sKm day o=kmO o∧a4x a2j day o=cyO o∧a4x a2r day o=daO o:=by
 cases o with
 |none=>exact⟨rfl,rfl,rfl⟩
 |some q=>
  refine⟨?_,?_,?_⟩<;>(unfold a4x;dsimp only;rw[a7K (by decide +kernel) hd])<;>unfold b6b
  ·rw[if_pos rfl];rfl
  ·rw[if_neg (by decide +kernel),if_pos rfl];rfl
  ·rw[if_neg (by decide +kernel),if_neg (by decide +kernel),if_pos rfl];rfl
theorem a9q (h:a5P f c l own day=0→∀o,g o=g' o):bndF g f c l own p day=bndF g' f c l own p day:=by
 unfold bndF
 by_cases h1:a5P f c l own day≠0
 ·rw[if_pos h1,if_pos h1]
 ·rw[if_neg h1,if_neg h1]
  have e:g=g':=funext (h (by simpa using h1))
  rw[e]
theorem a2e:bndVal sKm f c l own p day=bndF kmO f c l own p day∧bndVal a2j f c l own p day=bndF cyO f c l own p day∧bndVal a2r f c l own p day=bndF daO f c l own p day:=by
 unfold bndVal;refine⟨?_,?_,?_⟩
 ·rw[if_neg (by decide +kernel)];exact a9q fun h o=>(b0j (a6Z h).2.1 o).1
 ·rw[if_neg (by decide +kernel)];exact a9q fun h o=>(b0j (a6Z h).2.1 o).2.1
 ·rw[if_neg (by decide +kernel)];exact a9q fun h o=>(b0j (a6Z h).2.1 o).2.2
end
end Go.Sx
set_option linter.all false
namespace Go.Sx
open Go
section
variable {f:Fm} {c:List Kind} {l own:List Rep} {R:Nat→Nat} {p:ByteArray} {day:Int} {g:Option Part→Ivl} {k:Nat}
theorem b7q:∀{Z:List Evt} {st s:List Part},VS c st→LfInv st→runsL f c st Z=some s→VS c s
 | [],st,s,h,_,hr=>by simp only[runsL]at hr;cases hr;exact h
 |e::Z,st,s,h,hi,hr=>by
  simp only[runsL]at hr
  by_cases h0:(a0p c st e).2=0
  ·rw[if_pos h0]at hr
   obtain⟨h1,h2⟩:=b2D (f:=f) h hi h0;exact b7q h1 h2 hr
  ·rw[if_neg h0]at hr;cases hr
theorem c7s (hf:a1G f=true) (h:b1Q c l own=0) {q:Part} (ho:some q∈lifeA f c own p day):RP c q:=by
 obtain⟨t,ht,e⟩:=(c3H hf h).1 ho
 have h1:=b7q (f:=f) (a8B (a5m ht).2.1) LfInv.nil (c7q hf ht day)
 exact b0c.1 (h1.right q (List.mem_of_find?_eq_some e.symm))
theorem b7u {d a:Int} (hd:0≤d∧d≤40000) (ha:0≤a):a2n (a3F d a)=true∧0≤(a3F d a).low:=by
 obtain⟨h1,h2⟩:=a6e (d:=d) (F:=a);rw[a1e]
 split at h2<;>omega
theorem a7J {o:Option Part} (hd:0≤day∧day≤40000) (ho:∀q,o=some q→RP c q):(a2n (a4x a2u day o)=true∧0≤(a4x a2u day o).low)∧a2n (a4x a6y day o)=true∧(a4x a2u day o).low≤(a4x a6y day o).low∧(a4x a2u day o).high≤(a4x a6y day o).high:=by
 cases o with
 |none=>exact⟨⟨(by decide:a2n a4R=true),Int.le_refl _⟩,(by decide:a2n a4R=true),Int.le_refl _,Int.le_refl _⟩
 |some q=>
  have hq:=ho q rfl
  have hm:=hq.made
  have hs:=hq.since
  have e1:a4x a2u day (some q)=a3F day q.since:=by
   unfold a4x;dsimp only;rw[a7K (a8Q (p:=q) (d:=day)).1 hd];exact (a8Q (p:=q) (d:=day)).2.1
  have e2:a4x a6y day (some q)=a3F day q.made:=by
   unfold a4x;dsimp only;rw[a7K (a8Q (p:=q) (d:=day)).2.2.1 hd];exact (a8Q (p:=q) (d:=day)).2.2.2
  rw[e1,e2];obtain⟨a1,a2⟩:=b7u hd (a:=q.since) (by omega);obtain⟨b1,b2⟩:=b7u hd (a:=q.made) (by omega)
  have h1:=c2R (d:=day) (s:=q.since) (m:=q.made) (by omega)
  have h2:=a6e (d:=day) (F:=q.since)
  have h3:=a6e (d:=day) (F:=q.made)
  exact⟨⟨a1,a2⟩,b1,h1,by omega⟩
theorem c2H:0≤(bndF (a4x a2u day) f c l own p day).1.low∧(bndF (a4x a2u day) f c l own p day).1.low≤(bndF (a4x a6y day) f c l own p day).1.low∧(bndF (a4x a2u day) f c l own p day).1.high≤(bndF (a4x a6y day) f c l own p day).1.high∧(bndF (a4x a2u day) f c l own p day).1.low≤(bndF (a4x a2u day) f c l own p day).1.high:=by
 by_cases h:(bndF (a4x a2u day) f c l own p day).2=0
 ·have h':(bndF (a4x a6y day) f c l own p day).2=0:=by rw[b1L (g':=a4x a2u day)];exact h
  obtain⟨hE,hs,e1⟩:=b1M h;obtain⟨_,_,e2⟩:=b1M h';obtain⟨hf,hd,hC⟩:=a6Z hE
  have hv:∀o∈lifeA f c own p day,∀q,o=some q→RP c q:=fun o ho q e=>by subst e;exact c7s hf hC ho
  have hn:lifeA f c own p day≠[]:=c7r hC
  rw[e1,e2]
  have hm:=c0t (L:=lifeA f c own p day) (g1:=a4x a2u day) (g2:=a4x a6y day) (fun o ho=>(a7J hd (hv o ho)).1.1) (fun o ho=>(a7J hd (hv o ho)).2.1) (fun o ho=>(a7J hd (hv o ho)).2.2)
  obtain⟨h1,_,⟨y,h2,h3⟩,_⟩:=b1Y (L:=(lifeA f c own p day).map (a4x a2u day)) (fun y hy=>by obtain⟨z,hz,rfl⟩:=List.mem_map.1 hy;exact (a7J hd (hv z hz)).1.1) (by simpa using hn);obtain⟨z,hz,rfl⟩:=List.mem_map.1 h2
  have h4:=(a7J hd (hv z hz)).1.2
  rw[a1e]at h1
  omega
 ·have h':(bndF (a4x a6y day) f c l own p day).2≠0:=by rw[b1L (g':=a4x a2u day)];exact h
  rw[b4C h,b4C h']
  decide
end
end Go.Sx
set_option linter.all false
namespace Go.Sx
open Go
def bxF:Fm:=.mk 2 0 []
def bxC:List Kind:=[⟨c0R,true,[]⟩]
def a8r:Evt:=⟨1,0,nV1,c0R,a1g,a1g,a1g,a1g,d1g⟩
def a5a (d k:Int):Evt:=⟨4,d,nV1,a1g,a1g,a1g,a1g,a1g,⟨⟨k,k⟩,⟨0,0⟩,⟨0,0⟩⟩⟩
def bxL:List Rep:=[⟨[a8r],false⟩,⟨[a5a 1 10,a5a 2 20],false⟩]
def nV2:ByteArray:=⟨#[118,50]⟩
def c5E:ByteArray:=⟨#[121,101,97,114,115]⟩
def bxP (k:Int):Part:=⟨nV1,c0R,a1g,a1g,0,0,false,[],⟨⟨k,k⟩,⟨0,0⟩,⟨k,k⟩⟩⟩
theorem b2W:SmC bxC:=b9X (by decide +kernel)
theorem b9w:∀r∈bxL,∀e∈r.options,SmE e:=by
 intro r hr e he
 simp only[bxL,List.mem_cons,List.not_mem_nil,or_false]at hr
 rcases hr with rfl|rfl<;>simp only[List.mem_cons,List.not_mem_nil,or_false]at he
 ·subst he;exact⟨by decide,by decide,by decide,by decide,by decide,by decide⟩
 ·rcases he with rfl|rfl<;>exact⟨by decide,by decide,by decide,by decide,by decide,by decide⟩
theorem b9v:a3z bxC bxL 4096=([[0,0],[0,1]],0):=by decide +kernel
theorem c9f:runL bxF bxC (a1i bxL [0,0]).1 0=([bxP 0],-1,0):=a8g (by decide +kernel)
theorem c9g:runL bxF bxC (a1i bxL [0,1]).1 0=([bxP 0],-1,0):=a8g (by decide +kernel)
theorem c9h:runL bxF bxC (a1i bxL [0,0]).1 1=([bxP 10],-1,0):=a8g (by decide +kernel)
theorem c9i:runL bxF bxC (a1i bxL [0,1]).1 1=([bxP 0],-1,0):=a8g (by decide +kernel)
theorem c9j:runL bxF bxC (a1i bxL [0,0]).1 2=([bxP 10],-1,0):=a8g (by decide +kernel)
theorem c9k:runL bxF bxC (a1i bxL [0,1]).1 2=([bxP 20],-1,0):=a8g (by decide +kernel)
theorem d1r:lifeA bxF bxC bxL nV1 0=[some (bxP 0),some (bxP 0)]:=by
 unfold lifeA;rw[b9v];simp only[List.map_cons,List.map_nil];rw[c9f,c9g];rfl
theorem d1s:lifeA bxF bxC bxL nV1 1=[some (bxP 10),some (bxP 0)]:=by
 unfold lifeA;rw[b9v];simp only[List.map_cons,List.map_nil];rw[c9h,c9i];rfl
theorem c6f:lifeA bxF bxC bxL nV1 2=[some (bxP 10),some (bxP 20)]:=by
 unfold lifeA;rw[b9v];simp only[List.map_cons,List.map_nil];rw[c9j,c9k];rfl
theorem d1o:a5P bxF bxC bxL bxL 0=0:=by decide +kernel
theorem d1p:a5P bxF bxC bxL bxL 1=0:=by decide +kernel
theorem c6e:a5P bxF bxC bxL bxL 2=0:=by decide +kernel
theorem d1t:bndVal sKm bxF bxC bxL bxL nV1 0=(⟨0,0⟩,0):=by
 rw[a2e.1];unfold bndF;rw[if_neg (by rw[d1o];decide),d1r];decide +kernel
theorem d1u:bndVal sKm bxF bxC bxL bxL nV1 1=(⟨0,10⟩,0):=by
 rw[a2e.1];unfold bndF;rw[if_neg (by rw[d1p];decide),d1s];decide +kernel
theorem d1q:bndF kmO bxF bxC bxL bxL nV1 2=(⟨10,20⟩,0):=by
 unfold bndF;rw[if_neg (by rw[c6e];decide),c6f];decide +kernel
theorem d1n:bndF daO bxF bxC bxL bxL nV1 2=(⟨10,20⟩,0):=by
 unfold bndF;rw[if_neg (by rw[c6e];decide),c6f];decide +kernel
theorem d1m:bndF cyO bxF bxC bxL bxL nV1 2=(⟨0,0⟩,0):=by
 unfold bndF;rw[if_neg (by rw[c6e];decide),c6f];decide +kernel
theorem c6g:bndLife bxF bxC bxL bxL nV1 2=(⟨⟨10,20⟩,⟨0,0⟩,⟨10,20⟩⟩,0):=by unfold bndLife;rw[d1q,d1m,d1n]
theorem c6h:(bndLife bxF bxC bxL [] nV2 2).2=2:=by
 have h:a5P bxF bxC bxL [] 2=2:=by decide +kernel
 show (bndF kmO bxF bxC bxL [] nV2 2).2=2
 unfold bndF;rw[if_pos (by rw[h];decide),h]
theorem c2K:∀own p d,bndVal c5E bxF bxC bxL own p d=(a4R,15):=fun own p d=>if_pos (by decide +kernel)
theorem c6d {R:Nat→Nat} (hR:Rts bxL R):a1q bxL R nV1=bxL∧a1q bxL R nV2=[]:=by
 have h1:R 1=R 0:=hR.share (l:=bxL) (i:=1) (k:=0) (z:=nV1) (by decide) (by decide) (a6N.1 (by decide +kernel)) (a6N.1 (by decide +kernel))
 refine⟨c5U hR (fun i hi=>?_) (k:=0) (by decide) (a6N.1 (by decide +kernel)),(b5t hR).2 (b5m fun k hk hn=>?_)⟩
 ·match i,hi with
  |0,_=>rfl
  |1,_=>exact h1
  |n+2,hi=>exact absurd hi (by show ¬n+2<2;omega)
 ·have hk2:k<2:=hk
  have hn:=a6N.2 hn
  match k,hk with
  |0,_=>exact (show ¬nmB (bxL[0]'(by decide)) nV2=true by decide +kernel) hn
  |1,_=>exact (show ¬nmB (bxL[1]'(by decide)) nV2=true by decide +kernel) hn
  |n+2,hi=>omega
end Go.Sx
namespace Go.Proofs.YtdapmfkbpnjkmaaGreat
open Go Go.Sx
set_option linter.all false
set_option maxRecDepth 20000
set_option maxHeartbeats 4000000
instance T.by_55:Has (a2y Tryz.prog 55) ([.string ⟨#[]⟩,.string ⟨#[]⟩],2,32):=⟨by kernel_rfl⟩
instance T.by_64:Has (a2y Tryz.prog 64) ([.slice none 0 0,.bool false],2,32):=⟨by kernel_rfl⟩
instance T.elt_29:Has (a8D Tryz.prog 29) (55,2):=⟨by kernel_rfl⟩
instance T.fld_55_0:Has (a3G Tryz.prog 55 0) (0,false,1):=⟨by kernel_rfl⟩
instance T.fld_55_1:Has (a3G Tryz.prog 55 1) (1,false,1):=⟨by kernel_rfl⟩
instance T.pl_55:Has (plK Tryz.prog 55) [(0,1),(1,1)]:=⟨by kernel_rfl⟩
instance T.ty_103:Has (tyK Tryz.prog 103) (false,1):=⟨by kernel_rfl⟩
instance T.ty_111:Has (tyK Tryz.prog 111) (false,1):=⟨by kernel_rfl⟩
instance T.ty_178:Has (tyK Tryz.prog 178) (false,1):=⟨by kernel_rfl⟩
instance T.ty_184:Has (tyK Tryz.prog 184) (false,1):=⟨by kernel_rfl⟩
instance T.ty_29:Has (tyK Tryz.prog 29) (false,1):=⟨by kernel_rfl⟩
instance T.ty_55:Has (tyK Tryz.prog 55) (true,2):=⟨by kernel_rfl⟩
instance T.und_178:Has (Tryz.prog.underlying 178) (.map 55 4):=⟨by kernel_rfl⟩
instance T.und_29:Has (Tryz.prog.underlying 29) (.slice 55):=⟨by kernel_rfl⟩
instance T.zero_178:Has (a1Z Tryz.prog 178) [.map none]:=⟨by kernel_rfl⟩
instance T.zero_184:Has (a1Z Tryz.prog 184) [.map none]:=⟨by kernel_rfl⟩
instance T.zero_25:Has (a1Z Tryz.prog 25) [.slice none 0 0]:=⟨by kernel_rfl⟩
instance T.zero_55:Has (a1Z Tryz.prog 55) [.string ⟨#[]⟩,.string ⟨#[]⟩]:=⟨by kernel_rfl⟩
theorem c9Q (I:IMap) (v:Value) (l:List Rep) (hv:RdS I v l) (hl:l.length≤1000000) (hsl:∀r∈l,∀e∈r.options,SmE e) (p:ByteArray) (R:Nat→Nat) (hRt:Rts l R) :
    FnI Tryz.prog 33 #[v,.string p] I (fun u J=>RdS J u (nI (ofN l R p))):=by
 refine enter Tryz.func33 Tryz.call33 rfl Tryz.ntmps33 rfl (fun w0=>?_);refine go 9 ?_;refine c0W (b8t _ _ l hv hl hsl) rfl rfl (fun v13 I13 H13 j13 q13=>?_);obtain⟨w,m,F,kvs,fm,rfl,rfl,hK,hM⟩:=q13
 have hR:rt F=R:=(hK.done (fun k z hk h=>⟨hk,h⟩)).uniq hRt
 have hFl:=hK.len
 refine go 11 ?_;refine o_v rfl (a8A m1 (a0R he) he he (p) rfl rfl rfl rfl) ?_;refine go 14 ?_;refine cb rfl (fun h23 p23=>?_) (fun h23 p23=>?_)
 ·have hq0:fm p=none:=by
    cases hq:fm p with
    |none=>rfl
    |some q=>rw[hM,hq]at h23;cases h23
  refine go 7 ?_;refine a0x rfl rfl ?_
  have hno:ofN l R p=[]:=b5m fun k hk h=>by obtain⟨q,hq,_⟩:=hK.seen k p ⟨hk,h⟩;rw[hq0]at hq;cases hq
  exact q_i (by rw[hno];exact RdS.nil')
 ·obtain⟨q,hq⟩:∃q,fm p=some q:=by
    cases hq:fm p with
    |none=>rw[hM,hq]at h23;cases h23
    |some q=>exact⟨q,rfl⟩
  have hmg:(a4W kvs p).getD (.int .i64 0) = .int .i64 (q:Int):=by rw[hM,hq];rfl
  rw[hmg];obtain⟨hql,hqh,hqn⟩:=hK.own _ q hq;refine go 4 ?_;refine a1s 3 1 ?_;refine go 6 ?_;refine a0g ?_;refine a4O (fun Aw cw hw=>?_);subst hw;refine go 6 ?_;refine a0u ?_;refine a0b ?_
  refine b1O ((0:Nat)) (F) (_) ([]) (I13) (fun i F1 v9 xs J=>J)
   (fun i F1 v9 xs J=>[(5,.slice Aw F.length cw),(7,.int .i64 ((q:Nat):Int)),(9,v9),(25,.int .i64 ((F.length:Nat):Int)),(26,.int .i64 ((i:Nat):Int))])
   (fun i F1 v9 xs J=>.row (.slice Aw F.length cw) 3 1 F.length (a5j F1).flatten :: .row v9 3 1 (a0S R i (R q)).length xs::([]:List Res))
   (fun i F1 v9 xs J=>i≤F.length∧F1.length=F.length∧Fst F1∧(∀k,rt F1 k=R k)∧ILe I13 J∧Flat J xs (nI (a0S R i (R q))))
   (fun i F1 v9 xs J=>F.length-i) ⟨Nat.zero_le _,rfl,hK.fst,fun k=>by rw[hR],ILe.refl _,.nil⟩ rfl sb rfl ?_
  intro i F1 v9 xs J ⟨hi,hF1l,hF1,hr1,hJ,hF⟩
  have hml:(a0S R i (R q)).length≤i:=by unfold a0S;exact Nat.le_trans (List.length_filter_le _ _) (by rw[List.length_range];exact Nat.le_refl _)
  refine go 6 ?_;refine cb rfl (fun h27 p27=>?_) (fun h27 p27=>?_)
  ·have hlt:i<F.length:=by omega
   refine go 12 ?_;refine a8z (a2h F1) (by rw[a3S];exact hF1l) (fun h0 _=>by omega) (fun g9 cap9 rest9 hv9 hR9 hc9 hl9=>?_)
   cases hv9
   refine go 3 ?_;refine a8a (hF1l▸a8Y _ g9 cw F1 rest9 hR9 hF1 i (by omega)) rfl rfl (fun v31 I31 s31 j31 q31=>?_)
   have hF:=hF.le j31
   obtain⟨G,rfl,rfl,hG,hFG,hr⟩:=q31;rw[hr1 i];refine go 3 ?_;refine a8a (hG▸a8Y _ g9 cw G rest9 hR9 hFG q (by omega)) rfl rfl (fun v34 I34 s34 j34 q34=>?_)
   have hF:=hF.le j34
   obtain⟨G2,rfl,rfl,hG2,hFG2,hr2⟩:=q34;rw[hr q,hr1 q];refine a2L (a2h G2) hR9 (by rw[a3S];omega) hc9 hl9 ?_;refine go 3 ?_;refine cb rfl (fun h35 p35=>?_) (fun h35 p35=>?_)
   ·refine go 4 ?_;refine a0e he he rfl rfl rfl rfl rfl rfl rfl (fun v38=>?_);refine go 1 ?_;refine a0u ?_;refine a1r he he rfl rfl rfl rfl rfl (by omega) (by omega) rfl (fun v39=>?_);refine go 9 ?_;refine a0g ?_;refine a0b ?_;refine a0g ?_;exact a6P (i+1) (G2) (_) (_) (_) ⟨by omega,by omega,hFG2,fun k=>by rw[hr2,hr,hr1],hJ.trans (j31.trans j34),by rw[a5q,if_pos (by omega),c9X];exact hF.append (.one rfl)⟩ (by omega) rfl sb (by rw[a5q,if_pos (by omega),List.length_append];rfl)
   ·refine go 8 ?_;exact a6P (i+1) (G2) (_) (_) (_) ⟨by omega,by omega,hFG2,fun k=>by rw[hr2,hr,hr1],hJ.trans (j31.trans j34),by rw[a5q,if_neg (by omega)];exact hF⟩ (by omega) rfl sb (by rw[a5q,if_neg (by omega)])
  ·obtain rfl:i=F.length:=by omega
   refine go 12 ?_;refine a0x rfl rfl ?_;refine a0b ?_;refine a0o (l:=nI (a0S R F.length (R q))) rfl (by rw[a4X]) hF (fun I9 j9 R9=>?_);exact q_i (by rw[a6O hRt hqh hqn,←hFl];exact R9)
end Go.Proofs.YtdapmfkbpnjkmaaGreat
namespace Go.Proofs.YtdapmfkbpnjkmaaGreat
open Go Go.Sx
set_option linter.all false
set_option maxRecDepth 20000
set_option maxHeartbeats 4000000
instance T.by_53:Has (a2y Tryz.prog 53) ([.slice none 0 0],1,24):=⟨by kernel_rfl⟩
instance T.elt_40:Has (a8D Tryz.prog 40) (53,1):=⟨by kernel_rfl⟩
instance T.pl_64:Has (plK Tryz.prog 64) [(0,1),(1,1)]:=⟨by kernel_rfl⟩
instance T.und_40:Has (Tryz.prog.underlying 40) (.slice 53):=⟨by kernel_rfl⟩
end Go.Proofs.YtdapmfkbpnjkmaaGreat
set_option linter.all false
namespace Go.Sx
open Go
section
variable {c:List Kind} {l:List Rep} {R:Nat→Nat} {p:ByteArray} {day:Int} {i k:Nat}
section
variable {S:List Plc×Int}
end
theorem b4t {i:Nat} (hi:i<l.length) (h:∀r∈l.take i,a0t r=true) (h2:a0t l[i]=true):∀r∈l.take (i+1),a0t r=true:=fun r hr=>by
 rw[←a0q hi]at hr
 rcases List.mem_append.1 hr with hr|hr
 ·exact h r hr
 ·rw[List.mem_singleton.1 hr];exact h2
end
end Go.Sx
set_option linter.all false
namespace Go.Sx
open Go
section
variable {c:List Kind} {l own:List Rep} {p y z:ByteArray} {day:Int} {s:List Part}
end
section
variable {l:List Rep} {R:Nat→Nat} {p:ByteArray}
def c8S (l:List Rep) (R:Nat→Nat) (p:ByteArray) (i:Nat):Prop:=∀r∈(a0V R l.length).take i,∀k∈a0S R l.length r,∀h:k<l.length,¬nm l[k] p
theorem c7z {i:Nat} (hi:i<(a0V R l.length).length) (h:c8S l R p i) (h2:∀k∈a0S R l.length (a0V R l.length)[i],∀h:k<l.length,¬nm l[k] p):c8S l R p (i+1):=fun r hr=>by
 rw[←a0q hi]at hr
 rcases List.mem_append.1 hr with hr|hr
 ·exact h r hr
 ·rw[List.mem_singleton.1 hr];exact h2
theorem d1O {k:Nat} {M:List Nat} (hk:k<M.length) (hl:M[k]<l.length) (h:∀x∈M.take k,∀h:x<l.length,¬nm l[x] p) (h2:¬nm l[M[k]] p):∀x∈M.take (k+1),∀h:x<l.length,¬nm l[x] p:=fun x hx=>by
 rw[←a0q hk]at hx
 rcases List.mem_append.1 hx with hx|hx
 ·exact h x hx
 ·rw[List.mem_singleton.1 hx];exact fun _=>h2
theorem c9Z (hR:Rts l R) {i k:Nat} (hi:i<(a0V R l.length).length) (hk:k<(a0S R l.length (a0V R l.length)[i]).length) (hl:(a0S R l.length (a0V R l.length)[i])[k]<l.length) (hn:nm l[(a0S R l.length (a0V R l.length)[i])[k]] p):ofN l R p=a0S R l.length (a0V R l.length)[i]:=by
 rw[a6O hR hl hn,(a3R.1 (List.getElem_mem hk)).2]
theorem c7G (hR:Rts l R) (h:c8S l R p (a0V R l.length).length):ofN l R p=[]:=by
 refine b5m fun k hk=>?_
 rw[c8S,List.take_length]at h
 exact h (R k) (a9L.2 ⟨Nat.lt_of_le_of_lt (hR.le k) hk,hR.idem k⟩) k (a3R.2 ⟨hk,rfl⟩) hk
theorem b9h {ns:List ByteArray} {r:Rep} (hn:a5A r ns):(ns.any fun x=>decide (x∈[p]))=true↔nm r p:=by
 rw[List.any_eq_true,←c0V hn]
 constructor
 ·rintro⟨x,hx,h⟩
  have:x=p:=by simpa using h
  rwa[←this]
 ·intro h;exact⟨p,h,by simp⟩
end
theorem b9l {l:List Rep} {i:Nat} (hi:i<l.length) (h:a0t l[i]=false):l.any (fun r=>!a0t r)=true:=List.any_eq_true.2 ⟨_,List.getElem_mem hi,by simp[h]⟩
end Go.Sx
namespace Go.Proofs.YtdapmfkbpnjkmaaGreat
open Go Go.Sx
set_option linter.all false
set_option maxRecDepth 20000
set_option maxHeartbeats 4000000
theorem c1p (I:IMap) (v:Value) (l:List Rep) (hv:RdS I v l) (hl:l.length≤1000000) (hsl:∀r∈l,∀e∈r.options,SmE e) (R:Nat→Nat) (hRt:Rts l R) (p:ByteArray) :
    FnI Tryz.prog 48 #[v,.string p] I (fun u J=>RdS J u (nI (ofN l R p))):=by
 have hv0:=hv
 obtain⟨A,c0,rfl,hA,hc,hm⟩:=hv;refine enter Tryz.func48 Tryz.call48 rfl Tryz.ntmps48 rfl (fun w0=>?_);refine go 9 ?_;refine a0F (b8K _ _ l hv0 hl hsl R hRt) rfl rfl (fun v9 I9 j9 q9=>?_)
 try have hv0:=hv0.le j9
 try have hA:=hA.le j9
 try have hCA:=hCA.le j9
 try have q35:=q35.le j9
 have q9s:=q9
 obtain⟨CA,cc,rfl,hCA,_,_⟩:=q9s
 have hcl0:((a5S R l.length).map nI).length=(a0V R l.length).length:=by simp[a5S]
 refine go 10 ?_
 refine a1w ((0:Nat)) (_) (fun i J=>J)
  (fun i J=>[(0,.slice A l.length c0),(1,.string p),(5,.slice CA ((a5S R l.length).map nI).length cc),(6,.int .i64 ((i:Nat):Int))])
  (fun i J=>[])
  (fun i J=>i≤(a0V R l.length).length∧ILe I9 J∧c8S l R p i)
  (fun i J=>(a0V R l.length).length-i) ⟨Nat.zero_le _,ILe.refl _,fun r hr=>by simp at hr⟩ rfl sb rfl ?_
 intro i J ⟨hi,hJ,hN⟩
 have hv0:=hv0.le hJ
 have hA:=hA.le hJ
 have hCA:=hCA.le hJ
 refine go 5 ?_;refine o_v rfl (OV.cast (u:=.int .i64 (((a0V R l.length).length:Nat):Int)) (a6S he rfl) (congrArg (Value.int .i64) (by rw[hcl0]))) ?_;refine go 3 ?_;refine cb rfl (fun h13 p13=>?_) (fun h13 p13=>?_)
 ·have hlt:i<(a0V R l.length).length:=by omega
  have hrl:=b7m (R:=R) (n:=l.length)
  refine go 10 ?_
  refine a1w ((0:Nat)) (_) (fun k M=>M)
   (fun k M=>[(0,.slice A l.length c0),(1,.string p),(5,.slice CA ((a5S R l.length).map nI).length cc),(6,.int .i64 ((i:Nat):Int)),(7,.int .i64 ((k:Nat):Int))])
   (fun k M=>[])
   (fun k M=>k≤(a0S R l.length (a0V R l.length)[i]).length∧ILe J M∧∀x∈(a0S R l.length (a0V R l.length)[i]).take k,∀h:x<l.length,¬nm l[x] p)
   (fun k M=>(a0S R l.length (a0V R l.length)[i]).length-k) ⟨Nat.zero_le _,ILe.refl _,fun x hx=>by simp at hx⟩ rfl sb rfl ?_
  intro k M ⟨hk,hM,hnk⟩
  have hv0:=hv0.le hM
  have hA:=hA.le hM
  have hCA:=hCA.le hM
  refine go 6 ?_;obtain⟨b19,o19,w19,e19,c19,r19⟩:=RdA.at_ hCA (i:=i) (by omega);rw[b4I hlt]at r19
  obtain⟨q19,rfl,S19,d19,rfl,hS19,hd19,hm19⟩:=r19;refine o_v rfl (a0n he rfl rfl e19 (i) (by omega) (by omega)) ?_;refine o_v rfl (OV.cast (u:=.slice S19 (a0S R l.length (a0V R l.length)[i]).length d19) (a0W he rfl (c19 0 _ rfl)) (by rw[a4X])) ?_;refine go 4 ?_;refine cb rfl (fun h22 p22=>?_) (fun h22 p22=>?_)
  ·have hlk:k<(a0S R l.length (a0V R l.length)[i]).length:=by omega
   have hcl:(a0S R l.length (a0V R l.length)[i])[k]<l.length:=a6M (List.getElem_mem hlk)
   have hmb:=c0N (R:=R) (n:=l.length) (r:=(a0V R l.length)[i])
   refine go 9 ?_;obtain⟨b28,o28,w28,e28,c28,r28⟩:=RdA.at_ hCA (i:=i) (by omega);rw[b4I hlt]at r28
   obtain⟨q28,rfl,S28,d28,rfl,hS28,hd28,hm28⟩:=r28;refine o_v rfl (a0n he rfl rfl e28 (i) (by omega) (by omega)) ?_;refine o_v rfl (OV.cast (u:=.slice S28 (a0S R l.length (a0V R l.length)[i]).length d28) (a0W he rfl (c28 0 _ rfl)) (by rw[a4X])) ?_;refine go 1 ?_;obtain⟨b31,o31,w31,e31,c31,r31⟩:=RdA.at_ hS28 (i:=k) (by first|exact hlk|(rw[a4X];exact hlk));rw[c7y hlk]at r31
   obtain rfl:=r31;refine o_v rfl (a0n he rfl rfl e31 (k) (by omega) (by first|exact hlk|(rw[a4X];exact hlk))) ?_;refine o_v rfl (a0W he rfl (c31 0 _ rfl)) ?_;obtain⟨b33,o33,w33,e33,c33,r33⟩:=RdA.at_ hA (i:=(a0S R l.length (a0V R l.length)[i])[k]) hcl;obtain⟨q33,rfl,S33,d33,rfl,hS33,hd33,hm33⟩:=r33;refine o_v rfl (a0n he rfl rfl e33 ((a0S R l.length (a0V R l.length)[i])[k]) (by omega) hcl) ?_;refine o_v rfl (a0H he rfl c33 rfl) ?_;refine go 1 ?_;refine a0F (b1n _ l[(a0S R l.length (a0V R l.length)[i])[k]] S33 d33 ⟨_,_,rfl,hS33,hd33,hm33⟩ (hsl _ (List.getElem_mem hcl))) rfl rfl (fun v35 I35 j35 q35=>?_)
   try have hv0:=hv0.le j35
   try have hA:=hA.le j35
   try have hCA:=hCA.le j35
   try have q35:=q35.le j35
   obtain⟨ns,q35,hno⟩:=q35;refine go 2 ?_;refine a0e he he rfl rfl rfl rfl rfl rfl rfl (fun v37=>?_);refine a0o (l:=[p]) rfl rfl ((.one rfl)) (fun I37 j37 R37=>?_)
   try have hv0:=hv0.le j37
   try have hA:=hA.le j37
   try have hCA:=hCA.le j37
   try have q35:=q35.le j37
   refine go 1 ?_;refine a0a (b0b _ _ ns q35 _ [p] R37) rfl rfl ?_;refine go 2 ?_;refine cb rfl (fun h38 p38=>?_) (fun h38 p38=>?_)
   ·refine go 4 ?_;obtain⟨b41,o41,w41,e41,c41,r41⟩:=RdA.at_ hCA (i:=i) (by omega);rw[b4I hlt]at r41
    obtain⟨q41,rfl,S41,d41,rfl,hS41,hd41,hm41⟩:=r41;refine o_v rfl (a0n he rfl rfl e41 (i) (by omega) (by omega)) ?_;refine o_v rfl (OV.cast (u:=.slice S41 (a0S R l.length (a0V R l.length)[i]).length d41) (a0W he rfl (c41 0 _ rfl)) (by rw[a4X])) ?_;refine go 13 ?_;refine a0x rfl rfl ?_;exact q_i (by rw[c9Z hRt hlt hlk hcl ((b9h hno).1 h38)];exact⟨_,_,by rw[a4X],hS41,hd41,hm41⟩)
   ·refine go 9 ?_;exact a0M (k+1) (_) ⟨by omega,hM.trans (j35.trans j37),d1O hlk hcl hnk fun hn=>by rw[(b9h hno).2 hn]at h38;cases h38⟩ (by omega) rfl sb rfl
  ·obtain rfl:k=(a0S R l.length (a0V R l.length)[i]).length:=by omega
   rw[List.take_length]at hnk
   refine go 12 ?_;exact a0M (i+1) (_) ⟨by omega,hJ.trans hM,c7z hlt hN hnk⟩ (by omega) rfl sb rfl
 ·obtain rfl:i=(a0V R l.length).length:=by omega
  refine go 11 ?_;refine a0x rfl rfl ?_;exact q_i (by rw[c7G hRt hN];exact RdS.nil')
theorem a6Q (I:IMap) (v:Value) (l:List Rep) (hv:RdS I v l) (w:Value) (D:List Nat) (hw:RdS I w (nI D)) (hC:∀i∈D,i<l.length) (hC6:D.length≤1000000) :
    FnI Tryz.prog 47 #[v,w] I (fun u J=>RdS J u (a1Y l D)):=by
 have hv0:=hv
 obtain⟨A,c0,rfl,hA,hc,hm⟩:=hv;obtain⟨B,c1,rfl,hB,hcb,hmb⟩:=hw;rw[a4X]at hcb ⊢
 refine enter Tryz.func47 Tryz.call47 rfl Tryz.ntmps47 rfl (fun w0=>?_);refine go 7 ?_;refine a1s 64 2 ?_;refine go 10 ?_
 refine a3B ((0:Nat)) (_) ([]) (fun i v5 xs=>I)
  (fun i v5 xs=>[(0,.slice A l.length c0),(1,.slice B D.length c1),(5,v5),(6,.int .i64 ((i:Nat):Int))])
  (fun i v5 xs=>[.row v5 64 2 i xs])
  (fun i v5 xs=>i≤D.length∧Flat I xs (a1Y l (D.take i)))
  (fun i v5 xs=>D.length-i) ⟨Nat.zero_le _,.nil⟩ rfl sb rfl ?_
 intro i v5 xs ⟨hi,hF⟩;refine go 9 ?_;refine cb rfl (fun h10 p10=>?_) (fun h10 p10=>?_)
 ·have hlt:i<D.length:=by omega
  have hcl:=hC _ (List.getElem_mem hlt)
  refine go 9 ?_;obtain⟨b17,o17,w17,e17,c17,r17⟩:=RdA.at_ hB (i:=i) (by first|exact hlt|(rw[a4X];exact hlt));rw[c7y hlt]at r17
  obtain rfl:=r17;refine o_v rfl (a0n he rfl rfl e17 (i) (by omega) (by first|exact hlt|(rw[a4X];exact hlt))) ?_;refine o_v rfl (a0W he rfl (c17 0 _ rfl)) ?_;obtain⟨b19,o19,w19,e19,c19,r19⟩:=RdA.at_ hA (i:=D[i]) hcl;obtain⟨q19,rfl,S19,d19,rfl,hS19,hd19,hm19⟩:=r19;refine o_v rfl (a0n he rfl rfl e19 (D[i]) (by omega) hcl) ?_;refine o_v rfl (a0H he rfl c19 rfl) ?_;refine go 1 ?_;refine a0e he he rfl rfl rfl rfl rfl rfl rfl (fun v21=>?_);refine go 1 ?_;refine a0g ?_;refine a1r he he rfl rfl rfl rfl rfl (by omega) (by omega) rfl (fun v22=>?_);refine go 10 ?_;refine a0g ?_;refine a0b ?_;exact a1X (i+1) (_) (_) ⟨by omega,by rw[←a0q hlt,a8x,a4A hcl];exact hF.append (.one ⟨_,rfl,⟨_,_,rfl,hS19,hd19,hm19⟩⟩)⟩ (by omega) rfl sb rfl
 ·obtain rfl:i=D.length:=by omega
  rw[List.take_length]at hF
  refine go 7 ?_;refine a0o (l:=a1Y l D) rfl (by rw[a1W hC]) (hF) (fun Ip jp Rp=>?_);refine go 5 ?_;refine a0x rfl rfl ?_;exact q_i Rp
end Go.Proofs.YtdapmfkbpnjkmaaGreat
set_option linter.all false
namespace Go.Sx
open Go
abbrev Hu:=Bool×Ivl
def hcl (x:Hu):List Value:=[.bool x.1,ci x.2.low,ci x.2.high]
def b3U (x:Hu) (d:Ivl):Hu:=(true,if x.1=true then a2R x.2 d else d)
theorem c5s (xs:List Hu):Uk 3 (xs.map hcl):=fun c hc=>by
 obtain⟨x,_,rfl⟩:=List.mem_map.1 hc
 rfl
def lf3 (f:Life):List Ivl:=[f.km,f.cycles,f.damage]
def hst (xs:List Hu) (f:Life):Nat→List Hu
 |0=>xs
 |i+1=>(hst xs f i).set i (b3U ((hst xs f i).getD i (false,a4R)) ((lf3 f).getD i a4R))
theorem b5a {xs:List Hu} {f:Life}:∀i,(hst xs f i).length=xs.length
 |0=>rfl
 |i+1=>by rw[hst,List.length_set,b5a i]
theorem c7e {xs:List Hu} {f:Life} {i:Nat} (hi:i<3) (h:xs.length=3):((hst xs f i).map hcl)[i]? = some (hcl ((hst xs f i).getD i (false,a4R))):=by
 have h1:i<(hst xs f i).length:=by rw[b5a,h];exact hi
 rw[List.getElem?_map,List.getElem?_eq_getElem h1,List.getD_eq_getElem?_getD,List.getElem?_eq_getElem h1];rfl
theorem c7f {xs:List Hu} {f:Life} {i:Nat}:((hst xs f i).map hcl).set i (hcl (b3U ((hst xs f i).getD i (false,a4R)) ((lf3 f).getD i a4R)))=(hst xs f (i+1)).map hcl:=by rw[hst,List.map_set]
def PtrO (I:IMap) (u:Value):Option Part→Prop
 |none=>u = .pointer none
 |some q=>∃g w,u = .pointer (some ⟨g,0,none⟩)∧ICells I g 0 (q.cells w)∧w.oneCell'=true
theorem PtrO.val {I:IMap} {u:Value} {o:Option Part} (h:PtrO I u o):∃pp,u = .pointer pp∧((pp=none∧o=none)∨∃q g w,pp=some ⟨g,0,none⟩∧o=some q∧ICells I g 0 (q.cells w)∧w.oneCell'=true):=by
 cases o with
 |none=>exact⟨none,h,.inl ⟨rfl,rfl⟩⟩
 |some q=>obtain⟨g,w,h1,h2,h3⟩:=h;exact⟨_,h1,.inr ⟨q,g,w,rfl,rfl,h2,h3⟩⟩
theorem PtrO.le {I I':IMap} (hI:ILe I I') {u:Value}:∀{o:Option Part},PtrO I u o→PtrO I' u o
 |none,h=>h
 |some _,⟨g,w,h1,h2,h3⟩=>⟨g,w,h1,h2.le hI,h3⟩
def daL (o:Option Part):Life:=(o.getD zPart).life
theorem d1L {f:Life} {i:Nat} (hi:i<3):(f.cells.drop (i * 2)).take 2=((lf3 f).getD i a4R).cells:=by
 match i,hi with
 |0,_=>rfl
 |1,_=>rfl
 |2,_=>rfl
section
variable {f:Fm} {c:List Kind} {l own:List Rep} {p:ByteArray} {day:Int}
theorem b7g {I:IMap} {s:List Part} {g:Nat} {w:Value} (h:(a0O s p).isSome=true) (hc:ICells I g 0 (((a0O s p).getD zPart).cells w)) (hw:w.oneCell'=true):PtrO I (.pointer (some ⟨g,0,none⟩)) (a0O s p):=by
 obtain⟨q,hq⟩:=Option.isSome_iff_exists.1 h;rw[hq]at hc ⊢
 exact⟨g,w,rfl,hc,hw⟩
theorem b7f {I:IMap} {s:List Part} (h:(a0O s p).isSome=false):PtrO I (.pointer none) (a0O s p):=by
 rw[Option.isSome_eq_false_iff,Option.isNone_iff_eq_none]at h
 rw[h];rfl
theorem b4a:(runL f c [] 0).2.2=0↔a0Y c=true∧a1G f=true:=by
 unfold runL
 split
 ·rename_i h
  simp only[Bool.or_eq_true,Bool.not_eq_true']at h
  constructor
  ·intro h2;cases h2
  ·rintro⟨h1,h2⟩;rw[h1,h2]at h;rcases h with h|h<;>cases h
 ·rename_i h
  simp at h
  exact⟨fun _=>h,fun _=>rfl⟩
theorem c2C (h:¬(runL f c [] 0).2.2=0):a5P f c l own day=1:=by
 unfold a5P;rw[if_pos];rw[b4a]at h
 cases hc:a0Y c<;>cases hf:a1G f<;>simp_all
theorem b5U (h:day<0∨40000<day):a5P f c l own day=1:=by
 unfold a5P
 split
 ·rfl
 ·rw[if_pos (by simp;omega)]
theorem c2D (h:a0Y c=true∧a1G f=true) (h1:¬day<0) (h2:¬40000<day):a5P f c l own day=b1Q c l own:=by
 unfold a5P;rw[if_neg (by simp[h.1,h.2]),if_neg (by simp;omega)]
noncomputable def bndA (f:Fm) (c:List Kind) (l own:List Rep) (p:ByteArray) (day:Int):Int:=if a5P f c l own day≠0 then a5P f c l own day else if (lifeA f c own p day).any Option.isSome=false then 2 else 0
noncomputable def bndS {σ:Type} (s0:σ) (g:σ→Option Part→σ) (f:Fm) (c:List Kind) (l own:List Rep) (p:ByteArray) (day:Int):σ:=if bndA f c l own p day=0 then (lifeA f c own p day).foldl g s0 else s0
noncomputable def lifeG (f:Fm) (c:List Kind) (own:List Rep) (p:ByteArray) (day:Int) (t:List Int):Option Part:=a0O (runL f c (a1i own t).1 day).1 p
theorem b3s:(a3z c own 4096).1.map (lifeG f c own p day)=lifeA f c own p day:=rfl
theorem a5F {I:IMap} {o:Option Part} {pp:Option Addr} (h:PtrO I (.pointer pp) o):(!pp.isNone)=o.isSome:=by
 cases o with
 |none=>cases h;rfl
 |some q=>obtain⟨g,w,h1,_⟩:=h;cases h1;rfl
end
abbrev H3s:={xs:List Hu // xs.length=3}
def z3:H3s:=⟨[(false,a4R),(false,a4R),(false,a4R)],rfl⟩
def g3F (xs:H3s) (o:Option Part):H3s:=⟨hst xs.1 (daL o) 3,by rw[b5a];exact xs.2⟩
theorem c0m (s:H3s):∃x y z,s.1=[x,y,z]:=by
 obtain⟨xs,h⟩:=s
 match xs,h with
 | [x,y,z],_=>exact⟨x,y,z,rfl⟩
theorem c9E (s:H3s):((s.1.map hcl).flatten).length=9:=by
 obtain⟨x,y,z,h⟩:=c0m s;rw[h];rfl
theorem c9F (s:H3s):((s.1.map hcl).flatten).all Value.oneCell'=true:=by
 obtain⟨x,y,z,h⟩:=c0m s;rw[h];rfl
theorem d2i {x y z:Hu} {f:Life}:hst [x,y,z] f 3=[b3U x f.km,b3U y f.cycles,b3U z f.damage]:=rfl
theorem c0j:∀(L:List (Option Part)) (s:H3s) (x y z:Hu),s.1=[x,y,z]→(L.foldl g3F s).1=[L.foldl (fun h o=>b3U h (kmO o)) x,L.foldl (fun h o=>b3U h (cyO o)) y,L.foldl (fun h o=>b3U h (daO o)) z]
 | [],s,x,y,z,h=>h
 |o::L,s,x,y,z,h=>by
  simp only[List.foldl_cons]
  refine c0j L (g3F s o) _ _ _ ?_
  show hst s.1 (daL o) 3=_
  rw[h,d2i];rfl
theorem b7i {g:Option Part→Ivl}:∀(L:List (Option Part)) (d:Ivl),(L.foldl (fun h o=>b3U h (g o)) (true,d))=(true,(L.map g).foldl a2R d)
 | [],d=>rfl
 |o::L,d=>by
  rw[List.foldl_cons,List.map_cons,List.foldl_cons];exact b7i L _
theorem c4g {g:Option Part→Ivl} {L:List (Option Part)} (h:L≠[]):L.foldl (fun h o=>b3U h (g o)) (false,a4R)=(true,a8G (L.map g)):=by
 cases L with
 |nil=>exact absurd rfl h
 |cons o L=>
  rw[List.foldl_cons];exact b7i L (g o)
section
variable {f:Fm} {c:List Kind} {l own:List Rep} {p:ByteArray} {day:Int}
theorem bndA_is {g:Option Part→Ivl}:(bndF g f c l own p day).2=bndA f c l own p day:=by
 unfold bndF bndA
 split
 ·rfl
 ·split<;>rfl
theorem c5Y (h:bndA f c l own p day=0):lifeA f c own p day≠[]:=by
 intro e;unfold bndA at h
 split at h
 ·rename_i h1;exact absurd h h1
 ·rw[e]at h;cases h
theorem d0Z {g:Option Part→Ivl}:(bndS ((false,a4R):Hu) (fun h o=>b3U h (g o)) f c l own p day).2=(bndF g f c l own p day).1:=by
 unfold bndS
 by_cases h:bndA f c l own p day=0
 ·rw[if_pos h,c4g (c5Y h)];exact (b1M (bndA_is.trans h)).2.2.symm
 ·rw[if_neg h];exact (b4C (fun e=>h (bndA_is.symm.trans e))).symm
theorem d2g {x y z:Hu} (hS:(bndS z3 g3F f c l own p day).1=[x,y,z]):(bndLife f c l own p day).1=⟨x.2,y.2,z.2⟩∧(bndLife f c l own p day).2=bndA f c l own p day:=by
 refine⟨?_,bndA_is⟩
 have h1:=d0Z (f:=f) (c:=c) (l:=l) (own:=own) (p:=p) (day:=day) (g:=kmO)
 have h2:=d0Z (f:=f) (c:=c) (l:=l) (own:=own) (p:=p) (day:=day) (g:=cyO)
 have h3:=d0Z (f:=f) (c:=c) (l:=l) (own:=own) (p:=p) (day:=day) (g:=daO)
 unfold bndLife;rw[←h1,←h2,←h3];unfold bndS at hS ⊢
 by_cases h:bndA f c l own p day=0
 ·rw[if_pos h]at hS ⊢
  rw[if_pos h,if_pos h];rw[c0j _ z3 _ _ _ rfl]at hS
  injection hS with e1 hS
  injection hS with e2 hS
  injection hS with e3 _
  rw[←e1,←e2,←e3]
 ·rw[if_neg h]at hS ⊢
  rw[if_neg h,if_neg h]
  injection hS with e1 hS
  injection hS with e2 hS
  injection hS with e3 _
  rw[←e1,←e2,←e3]
end
end Go.Sx
set_option linter.all false
namespace Go.Sx
open Go
variable {P:Program} {n:Sz} {E:Ent} {I:IMap} {L:LL} {H:List Res}
variable {d ty:Nat} {pos:String} {af:Array Edge} {x y:Operand} {i:Int}
theorem c8I {cs:List Value} {tt e kk m:Nat} (ys:List Value) (he:b7M P tt=some (m,e,kk)) (hb:tyK P e=some (true,kk)) (hx:ev L x=some (.agg cs.toArray)) (hy:ev L y=some (.int .i64 i)) (q:Nat) (hq:i=(q:Int)) (hlt:q<m) (hv:(cs.drop (q * kk)).take kk=ys)
  : OV P n E I L H ⟨some d,.index tt x y,ty,pos,af,none⟩ (.agg ys.toArray):=fun a w st _=>by
 obtain⟨h1,bb,h2⟩:=a6Y he;subst hq hv
 have hlt':(q:Int)<(m:Int):=by omega
 have e1:cs.toArray.extract (q * kk) (q * kk+kk)=((cs.drop (q * kk)).take kk).toArray:=by
  rw[List.extract_toArray]
  simp[List.extract]
 simp[execOp,st.ev hx,st.ev hy,Instr.index,asIntOf,run_underlying h1,(a1j hb w).1,(a1j hb w).2,hlt,hlt',part,asAgg,e1]
theorem b7H {tx te tyy:TypeId} {p:Option Addr} (ht:P.underlying tx=some (.pointer te)) (hx:ev L x=some (.pointer p)) (hy:ev L y=some (.pointer none)):OV P n E I L H ⟨some d,.binOp .neq tx x y tyy,ty,pos,af,none⟩ (.bool (!p.isNone)):=fun a w st _=>by
 have h2:P.underlying tx=some (.pointer (P.pointee tx)):=by rw[ht];simp[Program.pointee,ht]
 simp[execOp,st.ev hx,st.ev hy,eqGuard_at_pointer,run_neq_pointer_nil w tx p h2]
end Go.Sx
namespace Go.Proofs.YtdapmfkbpnjkmaaGreat
open Go Go.Sx
set_option linter.all false
set_option maxRecDepth 20000
set_option maxHeartbeats 4000000
instance T.arr_132:Has (b7M Tryz.prog 132) (3,131,3):=⟨by kernel_rfl⟩
instance T.arr_137:Has (b7M Tryz.prog 137) (3,44,2):=⟨by kernel_rfl⟩
instance T.fld_131_0:Has (a3G Tryz.prog 131 0) (0,false,1):=⟨by kernel_rfl⟩
instance T.fld_131_1:Has (a3G Tryz.prog 131 1) (1,true,2):=⟨by kernel_rfl⟩
instance T.ty_131:Has (tyK Tryz.prog 131) (true,3):=⟨by kernel_rfl⟩
instance T.ty_132:Has (tyK Tryz.prog 132) (true,9):=⟨by kernel_rfl⟩
instance T.ty_139:Has (tyK Tryz.prog 139) (false,1):=⟨by kernel_rfl⟩
instance T.ty_148:Has (tyK Tryz.prog 148) (false,1):=⟨by kernel_rfl⟩
instance T.und_136:Has (Tryz.prog.underlying 136) (.pointer 48):=⟨by kernel_rfl⟩
instance T.zero_131:Has (a1Z Tryz.prog 131) [.bool false,.int .i64 0,.int .i64 0]:=⟨by kernel_rfl⟩
instance T.zero_132:Has (a1Z Tryz.prog 132) [.bool false,.int .i64 0,.int .i64 0,.bool false,.int .i64 0,.int .i64 0,.bool false,.int .i64 0,.int .i64 0]:=⟨by kernel_rfl⟩
instance T.zero_137:Has (a1Z Tryz.prog 137) [.int .i64 0,.int .i64 0,.int .i64 0,.int .i64 0,.int .i64 0,.int .i64 0]:=⟨by kernel_rfl⟩
instance T.zero_4:Has (a1Z Tryz.prog 4) [.bool false]:=⟨by kernel_rfl⟩
theorem c0s (I:IMap) {xss:List (List Value)} (g t i:Nat) (hU:Uk 3 xss) (x:Hu) (hi:xss[i]? = some (hcl x)) (d:Ivl) (off:Nat) (ho:off=i * 3) :
    FnM Tryz.prog 76 #[.pointer (some ⟨g,off,none⟩),.agg d.cells.toArray] I (.blk g t xss.flatten) (.blk g t (xss.set i (hcl (b3U x d))).flatten):=by
 refine enter Tryz.func76 Tryz.call76 rfl Tryz.ntmps76 rfl (fun w0=>?_);refine go 3 ?_;refine a0B _ rfl rfl rfl (fun g3=>?_);refine go 8 ?_;refine o_v rfl (c5K m1 hU he rfl (i) 0 (by omega) hi rfl) ?_;refine go 2 ?_;refine cb rfl (fun h7 p7=>?_) (fun h7 p7=>?_)
 ·refine a1t T.mixed ?_;refine a0f 0 rfl rfl (by kernel_rfl) rfl (.cons _ (.refl _)) rfl (a0c rfl) ?_;refine a0f 1 rfl rfl (by kernel_rfl) rfl (.cons _ (.refl _)) rfl (a0j rfl) ?_;refine a0f 2 rfl rfl (by kernel_rfl) rfl (.cons _ (.refl _)) rfl (a0d he rfl) ?_;refine a0f 3 rfl rfl (by kernel_rfl) rfl (.cons _ (.refl _)) rfl (a2s (x.2.cells) m0 hU he rfl (i) 1 (by omega) hi rfl rfl rfl) ?_;refine a0i 4 (by kernel_rfl) rfl ?_;refine a0l rfl (a4d m0 he rfl rfl) ?_;refine a0r (fun _ m=>m.keeps (.cons _ (.refl _))) ?_;refine a0i 5 (by kernel_rfl) rfl ?_;refine a0a (c0y _ x.2 d) rfl rfl ?_;refine a0r (fun _ m=>m.keeps (.cons _ (.refl _))) ?_;refine a0i 6 (by kernel_rfl) rfl ?_;refine a0m _ he rfl rfl rfl rfl rfl rfl ?_;refine a0r (fun _ m=>m.keeps (.cons _ (.refl _))) ?_;refine a0w (by kernel_rfl) ?_;refine go 1 ?_;refine a0g ?_;refine a1t T.mixed ?_;refine a0f 0 rfl rfl (by kernel_rfl) rfl (.cons _ (.refl _)) rfl (a0c rfl) ?_;refine a0f 1 rfl rfl (by kernel_rfl) rfl (.cons _ (.refl _)) rfl (a0c rfl) ?_;refine a0f 2 rfl rfl (by kernel_rfl) rfl (.cons _ (.refl _)) rfl (a4d m0 he rfl rfl) ?_;refine a0f 3 rfl rfl (by kernel_rfl) rfl (.cons _ (.refl _)) rfl (a0j rfl) ?_;refine a0f 4 rfl rfl (by kernel_rfl) rfl (.cons _ (.refl _)) rfl (a0d he rfl) ?_;refine a0i 5 (by kernel_rfl) rfl ?_;refine a1d _ _ (by first|exact hU|exact hU.set rfl _|exact (hU.set rfl _).set rfl _) he rfl rfl rfl rfl rfl (i) 0 (by omega) (by first|exact hi|exact a0k hi|exact a0k (a0k hi)) (by decide) rfl ?_;refine a0r (fun _ m=>m.keeps (.cons _ (.refl _))) ?_;refine a0f 6 rfl rfl (by kernel_rfl) rfl (.cons _ (.refl _)) rfl (a0j rfl) ?_;refine a0f 7 rfl rfl (by kernel_rfl) rfl (.cons _ (.refl _)) rfl (a0d he rfl) ?_;refine a0i 8 (by kernel_rfl) rfl ?_;refine a1d _ _ (by first|exact hU|exact hU.set rfl _|exact (hU.set rfl _).set rfl _) he rfl rfl rfl rfl rfl (i) 1 (by omega) (by first|exact hi|exact a0k hi|exact a0k (a0k hi)) (by decide) rfl ?_;refine a0r (fun _ m=>m.keeps (.cons _ (.refl _))) ?_;refine a0w (by kernel_rfl) ?_;refine a4y rfl ?_;refine a0g ?_;refine a0b ?_;exact b3V (by rw[List.set_set];simp only[b3U,if_pos h7];rfl)
 ·refine go 2 ?_;refine a0g ?_;refine a1t T.mixed ?_;refine a0f 0 rfl rfl (by kernel_rfl) rfl (.cons _ (.refl _)) rfl (a0c rfl) ?_;refine a0f 1 rfl rfl (by kernel_rfl) rfl (.cons _ (.refl _)) rfl (a0c rfl) ?_;refine a0f 2 rfl rfl (by kernel_rfl) rfl (.cons _ (.refl _)) rfl (a4d m0 he rfl rfl) ?_;refine a0f 3 rfl rfl (by kernel_rfl) rfl (.cons _ (.refl _)) rfl (a0j rfl) ?_;refine a0f 4 rfl rfl (by kernel_rfl) rfl (.cons _ (.refl _)) rfl (a0d he rfl) ?_;refine a0i 5 (by kernel_rfl) rfl ?_;refine a1d _ _ (by first|exact hU|exact hU.set rfl _|exact (hU.set rfl _).set rfl _) he rfl rfl rfl rfl rfl (i) 0 (by omega) (by first|exact hi|exact a0k hi|exact a0k (a0k hi)) (by decide) rfl ?_;refine a0r (fun _ m=>m.keeps (.cons _ (.refl _))) ?_;refine a0f 6 rfl rfl (by kernel_rfl) rfl (.cons _ (.refl _)) rfl (a0j rfl) ?_;refine a0f 7 rfl rfl (by kernel_rfl) rfl (.cons _ (.refl _)) rfl (a0d he rfl) ?_;refine a0i 8 (by kernel_rfl) rfl ?_;refine a1d _ _ (by first|exact hU|exact hU.set rfl _|exact (hU.set rfl _).set rfl _) he rfl rfl rfl rfl rfl (i) 1 (by omega) (by first|exact hi|exact a0k hi|exact a0k (a0k hi)) (by decide) rfl ?_;refine a0r (fun _ m=>m.keeps (.cons _ (.refl _))) ?_;refine a0w (by kernel_rfl) ?_;refine a4y rfl ?_;refine a0g ?_;refine a0b ?_;exact b3V (by rw[List.set_set];simp only[b3U,h7];rfl)
theorem c6a (I:IMap) (g:Nat) (xs:List Hu) (hx:xs.length=3) (u:Value) (o:Option Part) (hu:PtrO I u o) :
    FnM Tryz.prog 75 #[.pointer (some ⟨g,0,none⟩),u] I (.blk g 132 ((hst xs (daL o) 0).map hcl).flatten) (.blk g 132 ((hst xs (daL o) 3).map hcl).flatten):=by
 obtain⟨pp,rfl,hpp⟩:=hu.val;refine enter Tryz.func75 Tryz.call75 rfl Tryz.ntmps75 rfl (fun w0=>?_);refine go 3 ?_;refine a0h he rfl (fun g4=>?_);refine go 3 ?_;refine a2z (I':=I) (L':=[(0,.pointer (some ⟨g,0,none⟩)),(4,.pointer (some ⟨g4,0,none⟩))]) (H':=[.blk g4 46 (daL o).cells,.blk g 132 ((hst xs (daL o) 0).map hcl).flatten]) ?_ ?_
 ·refine go 3 ?_;refine o_v rfl (b7H he rfl rfl) ?_;refine go 2 ?_;refine cb rfl (fun h8 p8=>?_) (fun h8 p8=>?_)
  ·obtain⟨q,gq,w,rfl,rfl,cu,hw⟩:=hpp.resolve_left (by rintro⟨rfl,_⟩;simp at h8);refine go 4 ?_;refine o_v rfl (a0H he rfl (cu.sub 8 6) rfl) ?_;refine go 1 ?_;refine a0m _ he rfl rfl rfl rfl rfl rfl ?_;refine go 2 ?_;exact a0E sb rfl rfl
  ·obtain⟨rfl,rfl⟩:pp=none∧o=none:=hpp.resolve_right (by rintro⟨q,g,w,rfl,_⟩;simp at h8);refine go 2 ?_;exact a0E sb rfl rfl
 ·refine go 3 ?_;refine o_v rfl (a2o ((daL o).km.cells) m0 he rfl rfl rfl) ?_;refine go 1 ?_;refine o_v rfl (a2o ((daL o).cycles.cells) m0 he rfl rfl rfl) ?_;refine go 1 ?_;refine o_v rfl (a2o ((daL o).damage.cells) m0 he rfl rfl rfl) ?_;refine go 1 ?_;refine a0l rfl (b2H he he rfl rfl) ?_;refine go 4 ?_;refine a0b ?_
  refine a0L (α:=Nat) (0:Nat) (fun i=>I)
   (fun i=>[(0,.pointer (some ⟨g,0,none⟩)),(19,.agg (daL o).cells.toArray),(20,.int .i64 ((i:Nat):Int))])
   (fun i=>[.blk g 132 ((hst xs (daL o) i).map hcl).flatten])
   (fun i=>i≤3)
   (fun i=>3-i) (Nat.zero_le _) rfl sb rfl ?_
  intro i hi;refine go 6 ?_;refine cb rfl (fun h21 p21=>?_) (fun h21 p21=>?_)
  ·have hlt:i<3:=by omega
   refine go 7 ?_;refine o_v rfl (c8I (((lf3 (daL o)).getD i a4R).cells) he he rfl rfl i rfl hlt (d1L hlt)) ?_;refine go 1 ?_;refine a0h he rfl (fun g6=>?_);refine go 2 ?_;refine a0m _ he rfl rfl rfl rfl rfl rfl ?_;refine go 2 ?_;refine a0g ?_;refine a1t T.mixed ?_;refine a0f 0 rfl rfl (by kernel_rfl) rfl (.cons _ (.refl _)) rfl (a0c rfl) ?_;refine a0f 1 rfl rfl (by kernel_rfl) rfl (.cons _ (.refl _)) rfl (a0c rfl) ?_;refine a0f 2 rfl rfl (by kernel_rfl) rfl (.cons _ (.refl _)) rfl (a0j rfl) ?_;refine a0f 3 rfl rfl (by kernel_rfl) rfl (.cons _ (.refl _)) rfl (a5x he rfl rfl i (by omega) hlt) ?_;refine a0f 4 rfl rfl (by kernel_rfl) rfl (.cons _ (.refl _)) rfl (a4d m0 he rfl rfl) ?_;refine a0i 5 (by kernel_rfl) rfl ?_;refine a4G (c0s _ g 132 i (c5s _) _ (c7e hlt hx) ((lf3 (daL o)).getD i a4R) _ (Nat.zero_add _)) rfl rfl ?_;rw[c7f];refine a0r (fun _ m=>m.keeps (.cons _ (.refl _))) ?_;refine a0w (by kernel_rfl) ?_;refine go 7 ?_;refine a0g ?_;refine a0b ?_;exact a0J (i+1) (by omega) (by omega) rfl sb rfl
  ·refine go 4 ?_;refine a4y rfl ?_;obtain rfl:i=3:=by omega
   exact q_m
theorem b9s (I:IMap) (vc:Value) (c:List Kind) (hvc:RdS I vc c) (hsc:SmC c) (f:Fm) (sf:Value) (hf:FmRd I [ci f.op,ci f.n,sf] f) (v:Value) (l:List Rep) (hv:RdS I v l) (hl:l.length≤25) (hsl:∀r∈l,∀e∈r.options,SmE e) (R:Nat→Nat) (hRt:Rts l R) (p:ByteArray) (day:Int)  :
    FnI Tryz.prog 132 #[.agg #[vc,ci f.op,ci f.n,sf],v,.string p,.int .i64 (day)] I (fun u J=>∃w a,u = .tuple #[w,a,.int .i64 (a5P f c l (a1q l R p) day)]∧((a5P f c l (a1q l R p) day)=0→RdS J w (a1q l R p)∧RdS J a (a3z c (a1q l R p) 4096).1)):=by
 have hv0:=hv
 obtain⟨A,c0,rfl,hA,hc,hm⟩:=hv;refine enter Tryz.func132 Tryz.call132 rfl Tryz.ntmps132 rfl (fun w0=>?_);refine go 3 ?_;refine a0B _ rfl rfl rfl (fun g4=>?_);refine go 10 ?_;refine a0F (b2f _ vc c hvc hsc f sf hf _ [] RdS.nil' (by simp) (fun e he=>by cases he) 0) rfl rfl (fun v23 I23 j23 q23=>?_)
 try have hvc:=hvc.le j23
 try have hf:=hf.le j23
 try have hv0:=hv0.le j23
 try have hA:=hA.le j23
 try have Ro:=Ro.le j23
 try have hw70:=hw70.le j23
 obtain⟨w23,rfl,hw23⟩:=q23;refine go 5 ?_;refine a0h he rfl (fun g11=>?_);refine go 1 ?_;refine a0m _ he rfl rfl rfl rfl rfl (by simp[RdS.one hw23]) ?_;refine go 9 ?_;refine sxb 29 rfl (fun h29 p29=>?_) (fun h29 p29=>?_)
 ·refine go 9 ?_;refine a3c rfl ?_;refine go 9 ?_;refine c3j rfl rfl rfl rfl ?_
  have e:(a5P f c l (a1q l R p) day)=1:=c2C (by simpa using h29)
  exact q_i ⟨_,_,by rw[e]<;>rfl,fun h=>by rw[e]at h;cases h⟩
 ·refine go 4 ?_;refine sxb 33 rfl (fun h33 p33=>?_) (fun h33 p33=>?_)
  ·refine go 5 ?_;refine a3c rfl ?_;refine go 9 ?_;refine c3j rfl rfl rfl rfl ?_
   have e:(a5P f c l (a1q l R p) day)=1:=b5U (.inl (by simpa using h33))
   exact q_i ⟨_,_,by rw[e]<;>rfl,fun h=>by rw[e]at h;cases h⟩
  ·refine go 5 ?_;refine cb rfl (fun h36 p36=>?_) (fun h36 p36=>?_)
   ·refine go 9 ?_;refine c3j rfl rfl rfl rfl ?_
    have e:(a5P f c l (a1q l R p) day)=1:=b5U (.inr (by simpa using h36))
    exact q_i ⟨_,_,by rw[e]<;>rfl,fun h=>by rw[e]at h;cases h⟩
   ·have hcf:=b4a.1 (show (runL f c [] 0).2.2=0 by simpa using h29)
    have hd1:¬day<0:=by simpa using h33
    have hd2:¬40000<day:=by simpa using h36
    have hBE:=c2D (l:=l) (own:=(a1q l R p)) hcf hd1 hd2
    refine go 11 ?_;refine a0b ?_
    refine a0L (α:=Nat) 0 (fun i=>I23)
     (fun i=>[(1,.slice A l.length c0),(2,.string p),(3,.int .i64 (day)),(4,.pointer (some ⟨g4,0,none⟩)),(37,.slice A l.length c0),(38,.int .i64 ((l.length:Nat):Int)),(39,.int .i64 ((i:Nat):Int))])
     (fun i=>[.blk g4 72 [vc,ci f.op,ci f.n,sf]])
     (fun i=>i≤l.length∧∀r∈l.take i,a0t r=true)
     (fun i=>l.length-i) ⟨Nat.zero_le _,fun r hr=>by simp at hr⟩ rfl sb rfl ?_
    intro i ⟨hi,hn⟩;refine go 6 ?_;refine cb rfl (fun h40 p40=>?_) (fun h40 p40=>?_)
    ·have hlt:i<l.length:=by omega
     refine go 6 ?_;obtain⟨b41,o41,w41,e41,c41,r41⟩:=RdA.at_ hA (i:=i) (by omega);obtain⟨q41,rfl,S41,d41,rfl,hS41,hd41,hm41⟩:=r41;refine o_v rfl (a0n he rfl rfl e41 (i) (by omega) (by omega)) ?_;refine o_v rfl (a0H he rfl c41 rfl) ?_;refine go 1 ?_;refine a0h he rfl (fun g15=>?_);refine go 1 ?_;refine a0m _ he rfl rfl rfl rfl rfl rfl ?_;refine go 6 ?_;refine a0a (b2w _ l[i] S41 d41 ⟨_,_,rfl,hS41,hd41,hm41⟩ (hsl _ (List.getElem_mem hlt))) rfl rfl ?_;refine go 3 ?_;refine cb rfl (fun h45 p45=>?_) (fun h45 p45=>?_)
     ·refine go 13 ?_;refine c3j rfl rfl rfl rfl ?_
      have e:(a5P f c l (a1q l R p) day)=1:=hBE.trans (c9o (own:=(a1q l R p)) hcf.1 (b9l hlt (by simpa using h45)))
      exact q_i ⟨_,_,by rw[e]<;>rfl,fun h=>by rw[e]at h;cases h⟩
     ·refine go 8 ?_;refine a0b ?_;exact a0J (i+1) ⟨by omega,b4t hlt hn (by simpa using h45)⟩ (by omega) rfl sb rfl
    ·obtain rfl:i=l.length:=by omega
     rw[List.take_length]at hn
     have hV:=a9m.2 hn
     have hcl2:=a5g (l:=l) (R:=R) (p:=p)
     refine go 7 ?_;refine a1s 64 2 ?_;refine go 9 ?_;refine a0F (c9Q _ _ l hv0 (by omega) hsl p R hRt) rfl rfl (fun v49 I49 j49 q49=>?_)
     try have hvc:=hvc.le j49
     try have hf:=hf.le j49
     try have hv0:=hv0.le j49
     try have hA:=hA.le j49
     try have Ro:=Ro.le j49
     try have hw70:=hw70.le j49
     obtain⟨CA,cc,rfl,hCA,hcc,hcm⟩:=q49;rw[a4X]at hcc ⊢
     refine go 5 ?_
     refine a5b ((0:Nat)) (none) (0) ([]) (fun i A16 c16 xs=>I49)
      (fun i A16 c16 xs=>[(1,.slice A l.length c0),(2,.string p),(3,.int .i64 (day)),(4,.pointer (some ⟨g4,0,none⟩)),(16,.slice A16 i c16),(49,.slice CA (ofN l R p).length cc),(50,.int .i64 (((ofN l R p).length:Nat):Int)),(51,.int .i64 ((i:Nat):Int))])
      (fun i A16 c16 xs=>[.row (.slice A16 i c16) 64 2 i xs,.blk g4 72 [vc,ci f.op,ci f.n,sf]])
      (fun i A16 c16 xs=>i≤(ofN l R p).length∧Flat I49 xs (a1Y l ((ofN l R p).take i)))
      (fun i A16 c16 xs=>(ofN l R p).length-i) ⟨Nat.zero_le _,.nil⟩ rfl sb rfl ?_
     intro i A16 c16 xs ⟨hi,hF⟩
     have hcl3:(a1q l R p).length=(ofN l R p).length:=a1W fun i hi=>b0C hi
     refine go 6 ?_;refine cb rfl (fun h52 p52=>?_) (fun h52 p52=>?_)
     ·have hlt:i<(ofN l R p).length:=by omega
      have hcl:(ofN l R p)[i]<l.length:=b0C (List.getElem_mem hlt)
      refine go 6 ?_;obtain⟨b53,o53,w53,e53,c53,r53⟩:=RdA.at_ hCA (i:=i) (by first|exact hlt|(rw[a4X];exact hlt));rw[c7y hlt]at r53
      obtain rfl:=r53;refine o_v rfl (a0n he rfl rfl e53 (i) (by omega) (by first|exact hlt|(rw[a4X];exact hlt))) ?_;refine o_v rfl (a0W he rfl (c53 0 _ rfl)) ?_;refine go 7 ?_;obtain⟨b58,o58,w58,e58,c58,r58⟩:=RdA.at_ hA (i:=(ofN l R p)[i]) hcl;obtain⟨q58,rfl,S58,d58,rfl,hS58,hd58,hm58⟩:=r58;refine o_v rfl (a0n he rfl rfl e58 ((ofN l R p)[i]) (by omega) hcl) ?_;refine o_v rfl (a0H he rfl c58 rfl) ?_;refine go 1 ?_;refine a0e he he rfl rfl rfl rfl rfl rfl rfl (fun v60=>?_);refine go 1 ?_;refine a0g ?_;refine a1r he he rfl rfl rfl rfl rfl (by omega) (by omega) rfl (fun v61=>?_);refine a4O (fun A61 c61 hv61=>?_);subst hv61;refine go 9 ?_;refine a0g ?_;refine a0b ?_;exact a2U (i+1) (_) (_) (_) ⟨by omega,by rw[c1k hlt hcl];exact hF.append (.one ⟨_,rfl,⟨_,_,rfl,hS58,hd58,hm58⟩⟩)⟩ (by omega) rfl sb rfl
     ·obtain rfl:i=(ofN l R p).length:=by omega
      rw[List.take_length]at hF
      refine a0o (l:=(a1q l R p)) rfl hcl3.symm hF (fun I9 j9 Ro=>?_)
      have hvc:=hvc.le j9
      have hf:=hf.le j9
      rw[←hcl3]at Ro ⊢
      refine go 13 ?_;refine cb rfl (fun h65 p65=>?_) (fun h65 p65=>?_)
      ·refine go 9 ?_;refine c3j rfl rfl rfl rfl ?_
       have e:(a5P f c l (a1q l R p) day)=2:=hBE.trans (c9p (own:=(a1q l R p)) hcf.1 hV (List.eq_nil_of_length_eq_zero (by omega)))
       exact q_i ⟨_,_,by rw[e]<;>rfl,fun h=>by rw[e]at h;cases h⟩
      ·have hne:(a1q l R p)≠[]:=fun e=>by rw[e]at h65;simp at h65
       have hce:=c9q (own:=(a1q l R p)) hcf.1 hV hne
       have hal:(a3z c (a1q l R p) 4096).1.length≤4096:=by have h:=(b7S (c:=c) (l:=(a1q l R p)) (a:=4096) (b:=4096) (by omega) (by omega) (Int.le_refl _)).2.2.1;omega
       refine go 5 ?_;refine o_v rfl (a2o ([vc]) m0 he rfl rfl rfl) ?_;refine go 2 ?_;refine a0F (d1U _ vc c hvc hsc _ (a1q l R p) Ro (by omega) (fun r hr=>hsl r (a5G hr)) 4096) rfl rfl (fun v70 I70 j70 q70=>?_)
       try have hvc:=hvc.le j70
       try have hf:=hf.le j70
       try have hv0:=hv0.le j70
       try have hA:=hA.le j70
       try have Ro:=Ro.le j70
       try have hw70:=hw70.le j70
       obtain⟨w70,rfl,hw70⟩:=q70
       have hw70s:=hw70
       obtain⟨A70,c70,rfl,_,_,_⟩:=hw70s;refine go 8 ?_;refine a2z (I':=I70) (L':=[(16,.slice A16 (a1q l R p).length c16),(19,.slice A70 (a3z c (a1q l R p) 4096).1.length c70),(20,.int .i64 ((b1Q c l (a1q l R p))))]) (H':=[]) ?_ ?_
       ·refine go 5 ?_;refine sxb 75 rfl (fun h75 p75=>?_) (fun h75 p75=>?_)
        ·refine go 6 ?_;refine cb rfl (fun h79 p79=>?_) (fun h79 p79=>?_)
         ·refine go 4 ?_;refine a0b ?_;exact a0E ⟨rfl,rfl,(congrArg (fun n:Int=>some (Value.int .i64 n)) (by rw[hce];first|rw[if_pos (by simpa using h75)] | (rw[if_neg (by simpa using h75)];first|rw[if_pos (by omega)] | (rw[if_neg (by omega)];simpa using h75)))),trivial⟩ rfl rfl
         ·refine go 2 ?_;refine a0b ?_;exact a0E ⟨rfl,rfl,(congrArg (fun n:Int=>some (Value.int .i64 n)) (by rw[hce];first|rw[if_pos (by simpa using h75)] | (rw[if_neg (by simpa using h75)];first|rw[if_pos (by omega)] | (rw[if_neg (by omega)];simpa using h75)))),trivial⟩ rfl rfl
        ·refine go 6 ?_;refine a0P rfl ?_;refine go 2 ?_;refine a0b ?_;exact a0E ⟨rfl,rfl,(congrArg (fun n:Int=>some (Value.int .i64 n)) (by rw[hce];first|rw[if_pos (by simpa using h75)] | (rw[if_neg (by simpa using h75)];first|rw[if_pos (by omega)] | (rw[if_neg (by omega)];simpa using h75)))),trivial⟩ rfl rfl
       ·refine go 11 ?_;refine c3j rfl rfl rfl rfl ?_;exact q_i ⟨_,_,by rw[hBE]<;>rfl,fun _=>⟨Ro,hw70⟩⟩
theorem c9b (I:IMap) (vc:Value) (c:List Kind) (hvc:RdS I vc c) (hsc:SmC c) (f:Fm) (sf:Value) (hf:FmRd I [ci f.op,ci f.n,sf] f) (w:Value) (own:List Rep) (hw:RdS I w own) (how:own.length≤25) (hso:∀r∈own,∀e∈r.options,SmE e) (a:Value) (all:List (List Int)) (ha:RdS I a all) (p:ByteArray) (day:Int) (ga gw gs gd gp:Nat) (ka:ICells I ga 0 [a]) (kw:ICells I gw 0 [w]) (ks:ICells I gs 0 [vc,ci f.op,ci f.n,sf]) (kd:ICells I gd 0 [.int .i64 (day)]) (kp:ICells I gp 0 [.string p]) :
    d0Y Tryz.prog 202 [.pointer (some ⟨ga,0,none⟩),.pointer (some ⟨gw,0,none⟩),.pointer (some ⟨gs,0,none⟩),.pointer (some ⟨gd,0,none⟩),.pointer (some ⟨gp,0,none⟩)] I (fun I vs (o:Option Part)=>∃u,vs=[u]∧PtrO I u o) (fun _ _=>True) (fun pre=>pre=all.map (lifeG f c own p day)) (fun _=>True):=by
 obtain⟨AA,ca,rfl,hAA,hca,hma⟩:=ha;intro ly J I1 Hc hI1 hJm hY hJ0
 have hvc:=hvc.le hI1
 have hf:=hf.le hI1
 have hw:=hw.le hI1
 have hAA:=hAA.le hI1
 have ka:=ka.le hI1
 have kw:=kw.le hI1
 have ks:=ks.le hI1
 have kd:=kd.le hI1
 have kp:=kp.le hI1
 refine enter Tryz.func202 Tryz.call202 rfl Tryz.ntmps202 rfl (fun w0=>?_);refine go 2 ?_;refine o_v rfl (a0W he rfl (ka 0 _ rfl)) ?_;refine go 5 ?_
 refine a5b ((0:Nat)) ([]) (I1) (Hc) (fun i pre I2 Hc=>I2)
  (fun i pre I2 Hc=>[(0,.func (.yield ly) #[] #[]),(1,.pointer (some ⟨ga,0,none⟩)),(2,.pointer (some ⟨gw,0,none⟩)),(3,.pointer (some ⟨gs,0,none⟩)),(4,.pointer (some ⟨gd,0,none⟩)),(5,.pointer (some ⟨gp,0,none⟩)),(17,.slice AA all.length ca),(18,.int .i64 ((all.length:Nat):Int)),(19,.int .i64 ((i:Nat):Int))])
  (fun i pre I2 Hc=>Hc)
  (fun i pre I2 Hc=>i≤all.length∧ILe I1 I2∧pre=((all.take i).map (lifeG f c own p day))∧J true pre I2 Hc)
  (fun i pre I2 Hc=>all.length-i) ⟨Nat.zero_le _,ILe.refl _,rfl,hJ0⟩ rfl sb rfl ?_
 intro i pre I2 Hc ⟨hi,hI2,hpre,hJ⟩
 have hvc:=hvc.le hI2
 have hf:=hf.le hI2
 have hw:=hw.le hI2
 have hAA:=hAA.le hI2
 have ka:=ka.le hI2
 have kw:=kw.le hI2
 have ks:=ks.le hI2
 have kd:=kd.le hI2
 have kp:=kp.le hI2
 refine go 6 ?_;refine cb rfl (fun h20 p20=>?_) (fun h20 p20=>?_)
 ·have hlt:i<all.length:=by omega
  have hpl:=b3Q own all[i]
  refine go 6 ?_;obtain⟨b21,o21,w21,e21,c21,r21⟩:=RdA.at_ hAA (i:=i) (by omega);obtain⟨q21,rfl,S21,d21,rfl,hS21,hd21,hm21⟩:=r21;refine o_v rfl (a0n he rfl rfl e21 (i) (by omega) (by omega)) ?_;refine o_v rfl (a0W he rfl (c21 0 _ rfl)) ?_;refine go 5 ?_;refine o_v rfl (a0W he rfl (kw 0 _ rfl)) ?_;refine go 2 ?_;refine a0F (b3Y _ _ own hw (by omega) hso _ all[i] ⟨_,_,rfl,hS21,hd21,hm21⟩) rfl rfl (fun v26 I26 j26 q26=>?_)
  try have hvc:=hvc.le j26
  try have hf:=hf.le j26
  try have hw:=hw.le j26
  try have hAA:=hAA.le j26
  try have ka:=ka.le j26
  try have kw:=kw.le j26
  try have ks:=ks.le j26
  try have kd:=kd.le j26
  try have kp:=kp.le j26
  try have hz26:=hz26.le j26
  try have hwb:=hwb.le j26
  have hJ:=hJm _ _ _ _ _ j26 hJ
  obtain⟨z26,rfl,hz26⟩:=q26;refine go 9 ?_;refine o_v rfl (a0H he rfl ks rfl) ?_;refine go 1 ?_;refine o_v rfl (a0W he rfl (kd 0 _ rfl)) ?_;refine go 1 ?_;refine a0F (b2f _ vc c hvc hsc f sf hf _ (a1i own all[i]).1 hz26 (by omega) (a9Y hso) day) rfl rfl (fun v33 I33 j33 q33=>?_)
  try have hvc:=hvc.le j33
  try have hf:=hf.le j33
  try have hw:=hw.le j33
  try have hAA:=hAA.le j33
  try have ka:=ka.le j33
  try have kw:=kw.le j33
  try have ks:=ks.le j33
  try have kd:=kd.le j33
  try have kp:=kp.le j33
  try have hz26:=hz26.le j33
  try have hwb:=hwb.le j33
  have hJ:=hJm _ _ _ _ _ j33 hJ
  obtain⟨wb,rfl,hwb⟩:=q33;refine go 5 ?_;refine a0h he rfl (fun g11=>?_);refine go 1 ?_;refine a0m _ he rfl rfl rfl rfl rfl (by simp[RdS.one hwb]) ?_;refine go 13 ?_;refine o_v rfl (a0W he rfl (kp 0 _ rfl)) ?_;refine go 1 ?_;refine a5f (c5r _ _ _ hwb p) rfl rfl (fun v40 q40=>?_);obtain⟨vs40,rfl,s40,rfl,hs40⟩:=q40;refine go 4 ?_;refine a0h he rfl (fun g15=>?_);refine go 1 ?_;refine a0m _ he rfl rfl rfl rfl rfl (Enc.one (α:=Part) (x:=(a0O (runL f c (a1i own all[i]).1 day).1 p).getD zPart) ⟨s40,rfl,hs40⟩) ?_;refine go 8 ?_;refine cb rfl (fun h43 p43=>?_) (fun h43 p43=>?_)
  ·refine go 9 ?_;refine a2f (fun Ig15 jg15 cg15=>?_)
   try have hvc:=hvc.le jg15
   try have hf:=hf.le jg15
   try have hw:=hw.le jg15
   try have hAA:=hAA.le jg15
   try have ka:=ka.le jg15
   try have kw:=kw.le jg15
   try have ks:=ks.le jg15
   try have kd:=kd.le jg15
   try have kp:=kp.le jg15
   try have hz26:=hz26.le jg15
   try have hwb:=hwb.le jg15
   have hJ:=hJm _ _ _ _ _ jg15 hJ
   refine b6V ((lifeG f c own p day all[i])) hY (hJm _ _ _ _ _ (ILe.refl _) hJ) (⟨_,rfl,(by first|exact b7g h43 cg15 hs40.one|exact b7f h43)⟩) (trivial) rfl rfl rfl (fun b46 I46 Hc46 j46 hJ46=>?_)
   try have hvc:=hvc.le j46
   try have hf:=hf.le j46
   try have hw:=hw.le j46
   try have hAA:=hAA.le j46
   try have ka:=ka.le j46
   try have kw:=kw.le j46
   try have ks:=ks.le j46
   try have kd:=kd.le j46
   try have kp:=kp.le j46
   try have hz26:=hz26.le j46
   try have hwb:=hwb.le j46
   have hJ:=hJm _ _ _ _ _ j46 hJ
   refine go 3 ?_;refine cb rfl (fun h47 p47=>?_) (fun h47 p47=>?_)
   ·have hb46:b46=false:=by simpa using h47
    refine go 5 ?_;refine c3i rfl ?_;refine a0b ?_;subst hb46;exact c8N false _ hJ46 trivial
   ·have hb46:b46=true:=by simpa using h47
    refine go 8 ?_;refine a0b ?_;exact a2U (i+1) (pre++[(lifeG f c own p day all[i])]) (I46) (Hc46) ⟨by omega,hI2.trans (j26.trans (j33.trans (jg15.trans j46))),by rw[←a0q hlt,List.map_append,hpre];rfl,hb46▸hJ46⟩ (by omega) rfl sb rfl
  ·refine go 7 ?_;refine a2f (fun Ig15 jg15 cg15=>?_)
   try have hvc:=hvc.le jg15
   try have hf:=hf.le jg15
   try have hw:=hw.le jg15
   try have hAA:=hAA.le jg15
   try have ka:=ka.le jg15
   try have kw:=kw.le jg15
   try have ks:=ks.le jg15
   try have kd:=kd.le jg15
   try have kp:=kp.le jg15
   try have hz26:=hz26.le jg15
   try have hwb:=hwb.le jg15
   have hJ:=hJm _ _ _ _ _ jg15 hJ
   refine b6V ((lifeG f c own p day all[i])) hY (hJm _ _ _ _ _ (ILe.refl _) hJ) (⟨_,rfl,(by first|exact b7g h43 cg15 hs40.one|exact b7f h43)⟩) (trivial) rfl rfl rfl (fun b46 I46 Hc46 j46 hJ46=>?_)
   try have hvc:=hvc.le j46
   try have hf:=hf.le j46
   try have hw:=hw.le j46
   try have hAA:=hAA.le j46
   try have ka:=ka.le j46
   try have kw:=kw.le j46
   try have ks:=ks.le j46
   try have kd:=kd.le j46
   try have kp:=kp.le j46
   try have hz26:=hz26.le j46
   try have hwb:=hwb.le j46
   have hJ:=hJm _ _ _ _ _ j46 hJ
   refine go 3 ?_;refine cb rfl (fun h47 p47=>?_) (fun h47 p47=>?_)
   ·have hb46:b46=false:=by simpa using h47
    refine go 5 ?_;refine c3i rfl ?_;refine a0b ?_;subst hb46;exact c8N false _ hJ46 trivial
   ·have hb46:b46=true:=by simpa using h47
    refine go 8 ?_;refine a0b ?_;exact a2U (i+1) (pre++[(lifeG f c own p day all[i])]) (I46) (Hc46) ⟨by omega,hI2.trans (j26.trans (j33.trans (jg15.trans j46))),by rw[←a0q hlt,List.map_append,hpre];rfl,hb46▸hJ46⟩ (by omega) rfl sb rfl
 ·have e:i=all.length:=by omega
  subst e;rw[List.take_length]at hpre
  refine go 4 ?_;refine a4y rfl ?_;exact c8N true _ hJ hpre
theorem b5V (I:IMap) (vc:Value) (c:List Kind) (hvc:RdS I vc c) (hsc:SmC c) (f:Fm) (sf:Value) (hf:FmRd I [ci f.op,ci f.n,sf] f) (w:Value) (own:List Rep) (hw:RdS I w own) (how:own.length≤25) (hso:∀r∈own,∀e∈r.options,SmE e) (a:Value) (all:List (List Int)) (ha:RdS I a all) (p:ByteArray) (day:Int)  :
    FnI Tryz.prog 133 #[.agg #[vc,ci f.op,ci f.n,sf],w,a,.string p,.int .i64 (day)] I (fun u J=>∃ga gw gs gd gp,u = .func (.func 202) #[] #[.pointer (some ⟨ga,0,none⟩),.pointer (some ⟨gw,0,none⟩),.pointer (some ⟨gs,0,none⟩),.pointer (some ⟨gd,0,none⟩),.pointer (some ⟨gp,0,none⟩)]∧RdS J w own∧RdS J a all∧ICells J ga 0 [a]∧ICells J gw 0 [w]∧ICells J gs 0 [vc,ci f.op,ci f.n,sf]∧ICells J gd 0 [.int .i64 (day)]∧ICells J gp 0 [.string p]):=by
 have ha0:=ha
 obtain⟨AA,ca,rfl,_,_,_⟩:=ha0
 have hw0:=hw
 obtain⟨AW,cw,rfl,_,_,_⟩:=hw0;refine enter Tryz.func133 Tryz.call133 rfl Tryz.ntmps133 rfl (fun w0=>?_);refine go 3 ?_;refine a0B _ rfl rfl rfl (fun g5=>?_);refine go 1 ?_;refine a0B _ rfl rfl rfl (fun g6=>?_);refine go 1 ?_;refine a0B _ rfl rfl rfl (fun g7=>?_);refine go 1 ?_;refine a0B _ rfl rfl rfl (fun g8=>?_);refine go 1 ?_;refine a0B _ rfl rfl rfl (fun g9=>?_);refine go 5 ?_;refine a0u ?_;refine a2f (fun Ig7 jg7 cg7=>?_)
 have hw:=hw.le jg7
 have ha:=ha.le jg7
 refine a0u ?_;refine a2f (fun Ig6 jg6 cg6=>?_)
 have hw:=hw.le jg6
 have ha:=ha.le jg6
 have cg7:=cg7.le jg6
 refine a0u ?_;refine a2f (fun Ig5 jg5 cg5=>?_)
 have hw:=hw.le jg5
 have ha:=ha.le jg5
 have cg7:=cg7.le jg5
 have cg6:=cg6.le jg5
 refine a2f (fun Ig9 jg9 cg9=>?_)
 have hw:=hw.le jg9
 have ha:=ha.le jg9
 have cg7:=cg7.le jg9
 have cg6:=cg6.le jg9
 have cg5:=cg5.le jg9
 refine a2f (fun Ig8 jg8 cg8=>?_)
 have hw:=hw.le jg8
 have ha:=ha.le jg8
 have cg7:=cg7.le jg8
 have cg6:=cg6.le jg8
 have cg5:=cg5.le jg8
 have cg9:=cg9.le jg8
 refine o_v rfl (a1a rfl rfl) ?_;refine go 4 ?_;refine a0x rfl rfl ?_;exact q_i ⟨g7,g6,g5,g9,g8,rfl,hw,ha,cg7,cg6,cg5,cg9,cg8⟩
theorem c2G (I:IMap) (vc:Value) (c:List Kind) (hvc:RdS I vc c) (hsc:SmC c) (f:Fm) (sf:Value) (hf:FmRd I [ci f.op,ci f.n,sf] f) (v:Value) (l:List Rep) (hv:RdS I v l) (hl:l.length≤25) (hsl:∀r∈l,∀e∈r.options,SmE e) (R:Nat→Nat) (hRt:Rts l R) (p:ByteArray) (day:Int) {σ:Type} (enc:σ→List Value) (s0:σ) (he0:enc s0=[.bool false,.int .i64 0,.int .i64 0,.bool false,.int .i64 0,.int .i64 0,.bool false,.int .i64 0,.int .i64 0]) (hen:∀s,(enc s).length=9) (hoc:∀s,(enc s).all Value.oneCell'=true) (g:σ→Option Part→σ) (F:FuncId) (cs:List Value) (hsh:∀J,ILe I J→∀(b:Nat) (s:σ) (u:Value) (o:Option Part),PtrO J u o→FnM Tryz.prog F (.pointer (some ⟨b,0,none⟩)::u::cs).toArray J (.blk b 132 (enc s)) (.blk b 132 (enc (g s o)))) :
    FnI Tryz.prog 74 #[.agg #[vc,ci f.op,ci f.n,sf],v,.string p,.int .i64 (day),.func (.func F) #[] cs.toArray] I (fun u J=>u = .tuple #[.agg (enc (bndS s0 g f c l (a1q l R p) p day)).toArray,.int .i64 (bndA f c l (a1q l R p) p day)]):=by
 refine enter Tryz.func74 Tryz.call74 rfl Tryz.ntmps74 rfl (fun w0=>?_);refine go 3 ?_;refine a0B _ rfl rfl rfl (fun g5=>?_);refine go 1 ?_;refine a0B _ rfl rfl rfl (fun g9=>?_);refine go 1 ?_;refine a0h he rfl (fun g10=>?_);refine go 6 ?_;refine a0h he rfl (fun g12=>?_);refine a2K (enc s0) he0.symm ?_;refine go 1 ?_;refine a0h he rfl (fun g13=>?_);refine go 9 ?_;refine a0F (b9s _ vc c hvc hsc f sf hf v l hv hl hsl R hRt p day) rfl rfl (fun v24 I24 j24 q24=>?_)
 try have hvc:=hvc.le j24
 try have hf:=hf.le j24
 try have hv:=hv.le j24
 obtain⟨w,a,rfl,hwa⟩:=q24;refine go 16 ?_;refine cb rfl (fun h29 p29=>?_) (fun h29 p29=>?_)
 ·refine go 5 ?_;refine a0u ?_;refine a0m _ he rfl rfl rfl rfl rfl rfl ?_;refine go 5 ?_;refine a2D rfl ⟨_,_,_,rfl,m0,.inr ⟨_,he,(by first|rfl|exact hen _),rfl⟩⟩ rfl ?_
  have e:(bndA f c l (a1q l R p) p day)=(a5P f c l (a1q l R p) day):=if_pos p29
  exact q_i (by unfold bndS;rw[e,if_neg p29,he0]<;>rfl)
 ·have h0:(a5P f c l (a1q l R p) day)=0:=by simpa using h29
  obtain⟨rw,ra⟩:=hwa h0
  have hBA:(bndA f c l (a1q l R p) p day)=if (lifeA f c (a1q l R p) p day).any Option.isSome=false then 2 else 0:=if_neg (by simp[h0])
  refine go 5 ?_;refine a0h he rfl (fun g17=>?_);refine go 1 ?_;refine a0m _ he rfl rfl rfl rfl rfl rfl ?_;refine go 11 ?_;refine a0F (b5V _ vc c hvc hsc f sf hf w (a1q l R p) rw (Nat.le_trans a5g hl) (fun r hr=>hsl r (a5G hr)) a (a3z c (a1q l R p) 4096).1 ra p day) rfl rfl (fun v37 I37 j37 q37=>?_)
  try have hvc:=hvc.le j37
  try have hf:=hf.le j37
  try have hv:=hv.le j37
  obtain⟨ga,gw,gs,gd,gp,rfl,rw2,ra2,ka,kw,ks,kd,kp⟩:=q37;refine go 3 ?_;refine a1o ?_;refine a1o ?_;refine a1o ?_;refine a1o ?_;refine a1o ?_;refine b1P (σ:=σ×Bool) (ps:=[38]) (s0,false) (fun ⟨s,b⟩=>[.blk g17 4 [.bool b],.blk g13 132 [.bool false,.int .i64 0,.int .i64 0,.bool false,.int .i64 0,.int .i64 0,.bool false,.int .i64 0,.int .i64 0],.blk g12 132 (enc s),.blk g10 132 [.bool false,.int .i64 0,.int .i64 0,.bool false,.int .i64 0,.int .i64 0,.bool false,.int .i64 0,.int .i64 0],.blk g9 139 [.func (.func F) #[] cs.toArray]]) (fun pre I ⟨s,b⟩=>s=pre.foldl g s0∧b=pre.any Option.isSome) (fun _ _ _ _=>False) rfl Tryz.call202 (c9b _ vc c hvc hsc f sf hf w (a1q l R p) rw2 (Nat.le_trans a5g hl) (fun r hr=>hsl r (a5G hr)) a (a3z c (a1q l R p) 4096).1 ra2 p day ga gw gs gd gp ka kw ks kd kp) (fun I vs x h=>by obtain⟨u,rfl,_⟩:=h;rfl) rfl (fun pre I I' s hI h=>by obtain⟨s,b⟩:=s;exact h) (fun _ _ _ _ _ _ h=>h) (⟨rfl,rfl⟩) rfl ?_ ?_ ?_
  ·rintro r E1 pre o vs I1 ⟨s,b⟩ hI1 ⟨hs,hb⟩ ⟨u,rfl,hu⟩ _;obtain⟨pp,rfl,_⟩:=hu.val;refine c1J ?_;refine go 3 ?_;refine b2u ?_;refine go 6 ?_;refine a1o ?_;refine a4G (hsh _ ((j24.trans j37).trans hI1) g12 s _ o hu) rfl rfl ?_;refine go 5 ?_;refine sxb 43 rfl (fun h43 p43=>?_) (fun h43 p43=>?_)
   ·refine go 4 ?_;refine a1k ?_;refine a0m _ he rfl rfl rfl rfl rfl rfl ?_;refine go 2 ?_;refine a1b ?_;refine a1b ?_;refine a1k ?_;refine a1b ?_;refine a1o ?_;refine a1b ?_;refine a1b ?_;exact b1l ((g s o,b||o.isSome)) (hI1) (⟨by rw[hs,List.foldl_append];rfl,by rw[hb,List.any_append];simp⟩) (by simp[h43,a5F hu])
   ·refine go 1 ?_;refine a0v (a0y rfl rfl h43 (a0l rfl (b7H he rfl rfl) ?_));refine go 2 ?_;refine a1k ?_;refine a0m _ he rfl rfl rfl rfl rfl rfl ?_;refine go 2 ?_;refine a1b ?_;refine a1b ?_;refine a1k ?_;refine a1b ?_;refine a1o ?_;refine a1b ?_;refine a1b ?_;exact b1l ((g s o,b||o.isSome)) (hI1) (⟨by rw[hs,List.foldl_append];rfl,by rw[hb,List.any_append];simp⟩) (by simp[h43,a5F hu])
  ·rintro D pre I1 ⟨s,b⟩ hI1 rfl ⟨hs,hb⟩;rw[b3s]at hs hb
   refine c1I ?_;refine go 9 ?_;refine cb rfl (fun h48 p48=>?_) (fun h48 p48=>?_)
   ·refine go 4 ?_;refine a1o ?_;refine a0m _ he rfl rfl rfl rfl rfl rfl ?_;refine go 5 ?_;refine a0g ?_;refine a7z ?_;refine a2D rfl ⟨_,_,_,rfl,m1,.inr ⟨_,he,(by first|rfl|exact hen _),rfl⟩⟩ rfl ?_
    have e:(bndA f c l (a1q l R p) p day)=2:=by rw[hBA,if_pos (by rw[←hb];simpa using h48)]
    exact q_i (by unfold bndS;rw[e,if_neg (by decide),he0]<;>rfl)
   ·refine go 4 ?_;refine o_v rfl (a4d m3 he rfl (hen _)) ?_;refine go 1 ?_;refine a1o ?_;refine a0m _ he rfl rfl rfl (hen _) rfl (hoc _) ?_;refine go 4 ?_;refine a0g ?_;refine a7z ?_;refine a2D rfl ⟨_,_,_,rfl,m1,.inr ⟨_,he,(by first|rfl|exact hen _),rfl⟩⟩ rfl ?_
    have e:(bndA f c l (a1q l R p) p day)=0:=by rw[hBA,if_neg (by rw[←hb];simpa using h48)]
    exact q_i (by unfold bndS;rw[e,if_pos rfl,hs]<;>rfl)
  ·rintro D pre I1 s cd hI1 hpart h;exact h.elim
theorem c2F (I:IMap) (vc:Value) (c:List Kind) (hvc:RdS I vc c) (hsc:SmC c) (f:Fm) (sf:Value) (hf:FmRd I [ci f.op,ci f.n,sf] f) (v:Value) (l:List Rep) (hv:RdS I v l) (hl:l.length≤25) (hsl:∀r∈l,∀e∈r.options,SmE e) (R:Nat→Nat) (hRt:Rts l R) (p:ByteArray) (day:Int) {σ:Type} (enc:σ→List Value) (s0:σ) (he0:enc s0=[.bool false,.int .i64 0,.int .i64 0]) (hen:∀s,(enc s).length=3) (hoc:∀s,(enc s).all Value.oneCell'=true) (g:σ→Option Part→σ) (F:FuncId) (cs:List Value) (hsh:∀J,ILe I J→∀(b:Nat) (s:σ) (u:Value) (o:Option Part),PtrO J u o→FnM Tryz.prog F (.pointer (some ⟨b,0,none⟩)::u::cs).toArray J (.blk b 131 (enc s)) (.blk b 131 (enc (g s o)))) :
    FnI Tryz.prog 80 #[.agg #[vc,ci f.op,ci f.n,sf],v,.string p,.int .i64 (day),.func (.func F) #[] cs.toArray] I (fun u J=>u = .tuple #[.agg (enc (bndS s0 g f c l (a1q l R p) p day)).toArray,.int .i64 (bndA f c l (a1q l R p) p day)]):=by
 refine enter Tryz.func80 Tryz.call80 rfl Tryz.ntmps80 rfl (fun w0=>?_);refine go 3 ?_;refine a0B _ rfl rfl rfl (fun g5=>?_);refine go 1 ?_;refine a0B _ rfl rfl rfl (fun g9=>?_);refine go 1 ?_;refine a0h he rfl (fun g10=>?_);refine go 6 ?_;refine a0h he rfl (fun g12=>?_);refine a2K (enc s0) he0.symm ?_;refine go 1 ?_;refine a0h he rfl (fun g13=>?_);refine go 9 ?_;refine a0F (b9s _ vc c hvc hsc f sf hf v l hv hl hsl R hRt p day) rfl rfl (fun v24 I24 j24 q24=>?_)
 try have hvc:=hvc.le j24
 try have hf:=hf.le j24
 try have hv:=hv.le j24
 obtain⟨w,a,rfl,hwa⟩:=q24;refine go 16 ?_;refine cb rfl (fun h29 p29=>?_) (fun h29 p29=>?_)
 ·refine go 5 ?_;refine a0u ?_;refine a0m _ he rfl rfl rfl rfl rfl rfl ?_;refine go 5 ?_;refine a2D rfl ⟨_,_,_,rfl,m0,.inr ⟨_,he,(by first|rfl|exact hen _),rfl⟩⟩ rfl ?_
  have e:(bndA f c l (a1q l R p) p day)=(a5P f c l (a1q l R p) day):=if_pos p29
  exact q_i (by unfold bndS;rw[e,if_neg p29,he0]<;>rfl)
 ·have h0:(a5P f c l (a1q l R p) day)=0:=by simpa using h29
  obtain⟨rw,ra⟩:=hwa h0
  have hBA:(bndA f c l (a1q l R p) p day)=if (lifeA f c (a1q l R p) p day).any Option.isSome=false then 2 else 0:=if_neg (by simp[h0])
  refine go 5 ?_;refine a0h he rfl (fun g17=>?_);refine go 1 ?_;refine a0m _ he rfl rfl rfl rfl rfl rfl ?_;refine go 11 ?_;refine a0F (b5V _ vc c hvc hsc f sf hf w (a1q l R p) rw (Nat.le_trans a5g hl) (fun r hr=>hsl r (a5G hr)) a (a3z c (a1q l R p) 4096).1 ra p day) rfl rfl (fun v37 I37 j37 q37=>?_)
  try have hvc:=hvc.le j37
  try have hf:=hf.le j37
  try have hv:=hv.le j37
  obtain⟨ga,gw,gs,gd,gp,rfl,rw2,ra2,ka,kw,ks,kd,kp⟩:=q37;refine go 3 ?_;refine a1o ?_;refine a1o ?_;refine a1o ?_;refine a1o ?_;refine a1o ?_;refine b1P (σ:=σ×Bool) (ps:=[38]) (s0,false) (fun ⟨s,b⟩=>[.blk g17 4 [.bool b],.blk g13 131 [.bool false,.int .i64 0,.int .i64 0],.blk g12 131 (enc s),.blk g10 131 [.bool false,.int .i64 0,.int .i64 0],.blk g9 148 [.func (.func F) #[] cs.toArray]]) (fun pre I ⟨s,b⟩=>s=pre.foldl g s0∧b=pre.any Option.isSome) (fun _ _ _ _=>False) rfl Tryz.call202 (c9b _ vc c hvc hsc f sf hf w (a1q l R p) rw2 (Nat.le_trans a5g hl) (fun r hr=>hsl r (a5G hr)) a (a3z c (a1q l R p) 4096).1 ra2 p day ga gw gs gd gp ka kw ks kd kp) (fun I vs x h=>by obtain⟨u,rfl,_⟩:=h;rfl) rfl (fun pre I I' s hI h=>by obtain⟨s,b⟩:=s;exact h) (fun _ _ _ _ _ _ h=>h) (⟨rfl,rfl⟩) rfl ?_ ?_ ?_
  ·rintro r E1 pre o vs I1 ⟨s,b⟩ hI1 ⟨hs,hb⟩ ⟨u,rfl,hu⟩ _;obtain⟨pp,rfl,_⟩:=hu.val;refine c1J ?_;refine go 3 ?_;refine b2u ?_;refine go 6 ?_;refine a1o ?_;refine a4G (hsh _ ((j24.trans j37).trans hI1) g12 s _ o hu) rfl rfl ?_;refine go 5 ?_;refine sxb 43 rfl (fun h43 p43=>?_) (fun h43 p43=>?_)
   ·refine go 4 ?_;refine a1k ?_;refine a0m _ he rfl rfl rfl rfl rfl rfl ?_;refine go 2 ?_;refine a1b ?_;refine a1b ?_;refine a1k ?_;refine a1b ?_;refine a1o ?_;refine a1b ?_;refine a1b ?_;exact b1l ((g s o,b||o.isSome)) (hI1) (⟨by rw[hs,List.foldl_append];rfl,by rw[hb,List.any_append];simp⟩) (by simp[h43,a5F hu])
   ·refine go 1 ?_;refine a0v (a0y rfl rfl h43 (a0l rfl (b7H he rfl rfl) ?_));refine go 2 ?_;refine a1k ?_;refine a0m _ he rfl rfl rfl rfl rfl rfl ?_;refine go 2 ?_;refine a1b ?_;refine a1b ?_;refine a1k ?_;refine a1b ?_;refine a1o ?_;refine a1b ?_;refine a1b ?_;exact b1l ((g s o,b||o.isSome)) (hI1) (⟨by rw[hs,List.foldl_append];rfl,by rw[hb,List.any_append];simp⟩) (by simp[h43,a5F hu])
  ·rintro D pre I1 ⟨s,b⟩ hI1 rfl ⟨hs,hb⟩;rw[b3s]at hs hb
   refine c1I ?_;refine go 9 ?_;refine cb rfl (fun h48 p48=>?_) (fun h48 p48=>?_)
   ·refine go 4 ?_;refine a1o ?_;refine a0m _ he rfl rfl rfl rfl rfl rfl ?_;refine go 5 ?_;refine a0g ?_;refine a7z ?_;refine a2D rfl ⟨_,_,_,rfl,m1,.inr ⟨_,he,(by first|rfl|exact hen _),rfl⟩⟩ rfl ?_
    have e:(bndA f c l (a1q l R p) p day)=2:=by rw[hBA,if_pos (by rw[←hb];simpa using h48)]
    exact q_i (by unfold bndS;rw[e,if_neg (by decide),he0]<;>rfl)
   ·refine go 4 ?_;refine o_v rfl (a4d m3 he rfl (hen _)) ?_;refine go 1 ?_;refine a1o ?_;refine a0m _ he rfl rfl rfl (hen _) rfl (hoc _) ?_;refine go 4 ?_;refine a0g ?_;refine a7z ?_;refine a2D rfl ⟨_,_,_,rfl,m1,.inr ⟨_,he,(by first|rfl|exact hen _),rfl⟩⟩ rfl ?_
    have e:(bndA f c l (a1q l R p) p day)=0:=by rw[hBA,if_neg (by rw[←hb];simpa using h48)]
    exact q_i (by unfold bndS;rw[e,if_pos rfl,hs]<;>rfl)
  ·rintro D pre I1 s cd hI1 hpart h;exact h.elim
theorem a4T (I:IMap) (vc:Value) (c:List Kind) (hvc:RdS I vc c) (hsc:SmC c) (f:Fm) (sf:Value) (hf:FmRd I [ci f.op,ci f.n,sf] f) (v:Value) (l:List Rep) (hv:RdS I v l) (hl:l.length≤25) (hsl:∀r∈l,∀e∈r.options,SmE e) (R:Nat→Nat) (hRt:Rts l R) (p:ByteArray) (day:Int)  :
    FnI Tryz.prog 37 #[.agg #[vc,ci f.op,ci f.n,sf],v,.string p,.int .i64 (day)] I (fun u J=>u = .tuple #[.agg (bndLife f c l (a1q l R p) p day).1.cells.toArray,.int .i64 (bndLife f c l (a1q l R p) p day).2]):=by
 refine enter Tryz.func37 Tryz.call37 rfl Tryz.ntmps37 rfl (fun w0=>?_);refine go 3 ?_;refine a0B _ rfl rfl rfl (fun g4=>?_);refine go 1 ?_;refine a0h he rfl (fun g8=>?_);refine go 10 ?_;refine a0F (c2G _ vc c hvc hsc f sf hf v l hv hl hsl R hRt p day (fun (xs:H3s)=>(xs.1.map hcl).flatten) z3 rfl c9E c9F g3F 75 [] (fun J hJ b s u o hu=>c6a J b s.1 s.2 u o hu)) rfl rfl (fun v17 I17 j17 q17=>?_)
 try have hvc:=hvc.le j17
 try have hf:=hf.le j17
 try have hv:=hv.le j17
 obtain rfl:=q17;obtain⟨x0,x1,x2,hS⟩:=c0m (bndS z3 g3F f c l (a1q l R p) p day);obtain⟨hq,hq2⟩:=d2g hS;rw[hS];refine go 4 ?_;refine a0h he rfl (fun g10=>?_);refine go 1 ?_;refine a0m _ he rfl rfl rfl rfl rfl rfl ?_;refine go 5 ?_;refine o_v rfl (a5x he rfl rfl 0 rfl (by omega)) ?_;refine go 1 ?_;refine o_v rfl (a2o (x0.2.cells) m0 he rfl rfl rfl) ?_;refine o_v rfl (a5x he rfl rfl 1 rfl (by omega)) ?_;refine go 1 ?_;refine o_v rfl (a2o (x1.2.cells) m0 he rfl rfl rfl) ?_;refine o_v rfl (a5x he rfl rfl 2 rfl (by omega)) ?_;refine go 1 ?_;refine o_v rfl (a2o (x2.2.cells) m0 he rfl rfl rfl) ?_;refine go 1 ?_;refine a0l rfl (a0A (pl:=[(0,2),(2,2),(4,2)]) he he rfl rfl) ?_;refine go 2 ?_;refine a0g ?_;refine a0m _ he rfl rfl rfl rfl rfl rfl ?_;refine go 4 ?_;refine a2D rfl ⟨_,_,_,rfl,m0,.inr ⟨_,he,rfl,rfl⟩⟩ rfl ?_;exact q_i (by rw[hq,hq2]<;>rfl)
theorem c5Z (I:IMap) (b:Nat) (x:Hu) (u:Value) (o:Option Part) (hu:PtrO I u o) (s:ByteArray) (day:Int) (ga gd:Nat) (ka:ICells I ga 0 [.string s]) (kd:ICells I gd 0 [.int .i64 (day)]) :
    FnM Tryz.prog 81 #[.pointer (some ⟨b,0,none⟩),u,.pointer (some ⟨ga,0,none⟩),.pointer (some ⟨gd,0,none⟩)] I (.blk b 131 (hcl x)) (.blk b 131 (hcl (b3U x (a4x s day o)))):=by
 obtain⟨pp,rfl,hpp⟩:=hu.val;refine enter Tryz.func81 Tryz.call81 rfl Tryz.ntmps81 rfl (fun w0=>?_);refine go 3 ?_;refine a0h he rfl (fun g6=>?_);refine go 3 ?_;refine a2z (I':=I) (L':=[(0,.pointer (some ⟨b,0,none⟩)),(6,.pointer (some ⟨g6,0,none⟩))]) (H':=[.blk g6 44 (a4x s day o).cells,.blk b 131 (hcl x)]) ?_ ?_
 ·refine go 3 ?_;refine o_v rfl (b7H he rfl rfl) ?_;refine go 2 ?_;refine cb rfl (fun h8 p8=>?_) (fun h8 p8=>?_)
  ·obtain⟨q,gq,w,rfl,rfl,cu,hw⟩:=hpp.resolve_left (by rintro⟨rfl,_⟩;simp at h8);refine a1t T.mixed ?_;refine a0f 0 rfl rfl (by kernel_rfl) rfl (.cons _ (.refl _)) rfl (a0c rfl) ?_;refine a0f 1 rfl rfl (by kernel_rfl) rfl (.cons _ (.refl _)) rfl (a0j rfl) ?_;refine a0f 2 rfl rfl (by kernel_rfl) rfl (.cons _ (.refl _)) rfl (a0H he rfl cu rfl) ?_;refine a0f 3 rfl rfl (by kernel_rfl) rfl (.cons _ (.refl _)) rfl (a0W he rfl (ka 0 _ rfl)) ?_;refine a0f 4 rfl rfl (by kernel_rfl) rfl (.cons _ (.refl _)) rfl (a0W he rfl (kd 0 _ rfl)) ?_;refine a0i 5 (by kernel_rfl) rfl ?_;refine a0a (b3u _ q w hw s day) rfl rfl ?_;refine a0r (fun _ m=>m.keeps (.cons _ (.refl _))) ?_;refine a0f 6 rfl rfl (by kernel_rfl) rfl (.cons _ (.refl _)) rfl (a0c rfl) ?_;refine a0f 7 rfl rfl (by kernel_rfl) rfl (.cons _ (.refl _)) rfl (a2g rfl rfl) ?_;refine a0f 8 rfl rfl (by kernel_rfl) rfl (.cons _ (.refl _)) rfl (a2g rfl rfl) ?_;refine a0i 9 (by kernel_rfl) rfl ?_;refine a0m _ he rfl rfl rfl rfl rfl rfl ?_;refine a0r (fun _ m=>m.keeps (.cons _ (.refl _))) ?_;refine a0w (by kernel_rfl) ?_;refine go 1 ?_;exact a0E sb rfl rfl
  ·obtain⟨rfl,rfl⟩:pp=none∧o=none:=hpp.resolve_right (by rintro⟨q,g,w,rfl,_⟩;simp at h8);refine go 2 ?_;exact a0E sb rfl rfl
 ·refine go 4 ?_;refine a0g ?_;refine a4G (c0s (xss:=[hcl x]) _ b 131 0 (c5s [x]) x rfl (a4x s day o) 0 rfl) rfl rfl ?_;refine go 1 ?_;refine a4y rfl ?_;refine a0g ?_;refine a0b ?_;exact q_m
theorem a1c (I:IMap) (vc:Value) (c:List Kind) (hvc:RdS I vc c) (hsc:SmC c) (f:Fm) (sf:Value) (hf:FmRd I [ci f.op,ci f.n,sf] f) (v:Value) (l:List Rep) (hv:RdS I v l) (hl:l.length≤25) (hsl:∀r∈l,∀e∈r.options,SmE e) (R:Nat→Nat) (hRt:Rts l R) (p:ByteArray) (s:ByteArray) (day:Int)  :
    FnI Tryz.prog 39 #[.agg #[vc,ci f.op,ci f.n,sf],v,.string p,.string s,.int .i64 (day)] I (fun u J=>u = .tuple #[.agg (bndVal s f c l (a1q l R p) p day).1.cells.toArray,.int .i64 (bndVal s f c l (a1q l R p) p day).2]):=by
 refine enter Tryz.func39 Tryz.call39 rfl Tryz.ntmps39 rfl (fun w0=>?_);refine go 3 ?_;refine a0B _ rfl rfl rfl (fun g5=>?_);refine go 1 ?_;refine a0B _ rfl rfl rfl (fun g8=>?_);refine go 1 ?_;refine a0B _ rfl rfl rfl (fun g9=>?_);refine go 1 ?_;refine a0h he rfl (fun g10=>?_);refine go 8 ?_;refine a0a (c9P _ s) rfl rfl ?_;refine go 3 ?_;refine cb rfl (fun h16 p16=>?_) (fun h16 p16=>?_)
 ·refine go 3 ?_;refine a0l rfl (a0A (pl:=[(0,1),(1,1)]) he he rfl rfl) ?_;refine go 1 ?_;refine a0m _ he rfl rfl rfl rfl rfl rfl ?_;refine go 5 ?_;refine a2D rfl ⟨_,_,_,rfl,m0,.inr ⟨_,he,rfl,rfl⟩⟩ rfl ?_
  have e:(bndVal s f c l (a1q l R p) p day)=(a4R,15):=if_pos (by simpa using h16)
  exact q_i (by rw[e]<;>rfl)
 ·have hcu:a5W s=true:=by simpa using h16
  have hBV:(bndVal s f c l (a1q l R p) p day)=bndF (a4x s day) f c l (a1q l R p) p day:=if_neg (by rw[hcu];decide)
  refine go 8 ?_;refine a0u ?_;refine a2f (fun Ig8 jg8 cg8=>?_)
  have hvc:=hvc.le jg8
  have hf:=hf.le jg8
  have hv:=hv.le jg8
  refine a0g ?_;refine a2f (fun Ig9 jg9 cg9=>?_)
  have hvc:=hvc.le jg9
  have hf:=hf.le jg9
  have hv:=hv.le jg9
  have cg8:=cg8.le jg9
  refine o_v rfl (a1a rfl rfl) ?_;refine go 1 ?_;refine a0F (c2F _ vc c hvc hsc f sf hf v l hv hl hsl R hRt p day hcl ((false,a4R):Hu) rfl (fun _=>rfl) (fun _=>rfl) (fun h o=>b3U h (a4x s day o)) 81 [.pointer (some ⟨g8,0,none⟩),.pointer (some ⟨g9,0,none⟩)] (fun J hJ b x u o hu=>c5Z J b x u o hu s day g8 g9 (cg8.le hJ) (cg9.le hJ))) rfl rfl (fun v24 I24 j24 q24=>?_)
  try have hvc:=hvc.le j24
  try have hf:=hf.le j24
  try have hv:=hv.le j24
  obtain rfl:=q24
  have hq:=d0Z (f:=f) (c:=c) (l:=l) (own:=(a1q l R p)) (p:=p) (day:=day) (g:=a4x s day)
  have hq2:=bndA_is (f:=f) (c:=c) (l:=l) (own:=(a1q l R p)) (p:=p) (day:=day) (g:=a4x s day)
  obtain⟨x0,hS⟩:∃q,q=bndS ((false,a4R):Hu) (fun h o=>b3U h (a4x s day o)) f c l (a1q l R p) p day:=⟨_,rfl⟩;rw[←hS]at hq ⊢
  refine go 4 ?_;refine a0h he rfl (fun g12=>?_);refine go 1 ?_;refine a0m _ he rfl rfl rfl rfl rfl rfl ?_;refine go 6 ?_;refine o_v rfl (a2o (x0.2.cells) m0 he rfl rfl rfl) ?_;refine go 2 ?_;refine a0g ?_;refine a0m _ he rfl rfl rfl rfl rfl rfl ?_;refine go 4 ?_;refine a2D rfl ⟨_,_,_,rfl,m0,.inr ⟨_,he,rfl,rfl⟩⟩ rfl ?_;exact q_i (by rw[hBV,←hq,hq2]<;>rfl)
end Go.Proofs.YtdapmfkbpnjkmaaGreat
set_option linter.all false
namespace Go.Sx
open Go
def b3d (c:List Kind) (f:Fm) (l:List Rep):Bool:=b8d c f [] 0&&b8e l 729
theorem b6l {c:List Kind} {f:Fm} {l:List Rep} (h:b3d c f l=true):SmC c∧l.length≤12∧(∀r∈l,∀e∈r.options,SmE e)∧b0n l≤729:=by
 simp only[b3d,Bool.and_eq_true]at h
 obtain⟨h1,h2⟩:=c3b h.2
 have h3:=b4T h1
 have h4:=h.1
 simp only[b8d,b7N,Bool.and_eq_true,Bool.not_eq_true',Bool.or_eq_false_iff,Bool.not_eq_false']at h4
 exact⟨b9X h4.1.1.2,by have:=h3.2;omega,h3.1,by omega⟩
theorem c9e {I:IMap}:FmRd I [ci bxF.op,ci bxF.n,.slice none 0 0] bxF:=.mk 2 0 [] none 0 0 0 (fun _=>[]) (fun h=>absurd h (Nat.lt_irrefl 0)) (fun i x h=>by simp at h) (fun i x h=>by simp at h) (Nat.le_refl _) (by omega)
section
variable {f:Fm} {c:List Kind} {l:List Rep} {R:Nat→Nat} {p:ByteArray} {day:Int}
theorem a5B (hv:∀r∈l,a0t r=true):bndLife f c (a1q l R p) (a1q l R p) p day=bndLife f c l (a1q l R p) p day:=by
 unfold bndLife;rw[b4D hv,b4D hv,b4D hv]
theorem a2Q {own:List Rep}:bndVal a2u f c l own p day=bndF (a4x a2u day) f c l own p day∧bndVal a6y f c l own p day=bndF (a4x a6y day) f c l own p day:=by
 unfold bndVal;exact⟨if_neg (by decide +kernel),if_neg (by decide +kernel)⟩
theorem a1x {own:List Rep} {g:Option Part→Ivl}:(bndF g f c l own p day).2=(bndLife f c l own p day).2:=b1L
theorem c0E {own:List Rep} {q:Part} (h:∀g,bndF g f c l own p day=(g (some q),0)):bndLife f c l own p day=(q.life,0):=by
 unfold bndLife;rw[h,h,h];rfl
theorem c4W {own:List Rep} {q:Part} {s:ByteArray} (h:∀g,bndF g f c l own p day=(g (some q),0)) (hd:0≤day∧day≤40000):bndVal s f c l own p day=a5y q s day:=by
 unfold bndVal
 cases hc:a5W s with
 |false=>rw[b7I hc];rfl
 |true=>
  rw[if_neg (by decide),h,a7K hc hd]
  show ((a5y q s day).1,0)=_
  rw[a7K hc hd]
end
end Go.Sx
namespace Go.Proofs.YtdapmfkbpnjkmaaGreat
open Go Go.Sx
set_option linter.all false
set_option maxRecDepth 20000
set_option maxHeartbeats 4000000
theorem T.eqg_44:Tryz.prog.eqGuardType Tryz.prog.depth 44=false:=by kernel_rfl
instance T.pl_70:Has (plK Tryz.prog 70) [(0,1),(1,1),(2,1)]:=⟨by kernel_rfl⟩
instance T.pl_72:Has (plK Tryz.prog 72) [(0,1),(1,3)]:=⟨by kernel_rfl⟩
instance T.zero_72:Has (a1Z Tryz.prog 72) [.slice none 0 0,.int .i64 0,.int .i64 0,.slice none 0 0]:=⟨by kernel_rfl⟩
theorem c4q (I:IMap) (vc:Value) (c:List Kind) (hvc:RdS I vc c) (f:Fm) (sf:Value) (hf:FmRd I [ci f.op,ci f.n,sf] f) (v:Value) (l:List Rep) (hv:RdS I v l) :
    FnV Tryz.prog 73 #[.agg #[vc,ci f.op,ci f.n,sf],v] I (.bool (b3d c f l)):=by
 refine enter Tryz.func73 Tryz.call73 rfl Tryz.ntmps73 rfl (fun w0=>?_);refine go 3 ?_;refine a0B _ rfl rfl rfl (fun g2=>?_);refine go 7 ?_;refine a0a (c4m _ vc c hvc f sf hf _ [] RdS.nil' 0) rfl rfl ?_;refine go 1 ?_;refine sxb 7 rfl (fun h7 p7=>?_) (fun h7 p7=>?_)
 ·refine go 2 ?_;refine a0y rfl rfl h7 (a0a (c4p _ v l hv 729 (by omega)) rfl rfl ?_);refine go 5 ?_;refine a0x rfl rfl ?_;exact q_v (congrArg Value.bool (by simp only[b3d,h7,bS]))
 ·refine go 7 ?_;refine a0x rfl rfl ?_;exact q_v (congrArg Value.bool (by simp only[b3d,h7,bS]))
theorem b6B (I:IMap) (vc:Value) (c:List Kind) (hvc:RdS I vc c) (f:Fm) (sf:Value) (hf:FmRd I [ci f.op,ci f.n,sf] f) (v:Value) (l:List Rep) (hv:RdS I v l) :
    FnV Tryz.prog 36 #[.agg #[vc,ci f.op,ci f.n,sf],v] I (.bool (b3d c f l)):=by
 refine enter Tryz.func36 Tryz.call36 rfl Tryz.ntmps36 rfl (fun w0=>?_);refine go 3 ?_;refine a0B _ rfl rfl rfl (fun g2=>?_);refine go 8 ?_;refine a0a (c4q _ vc c hvc f sf hf v l hv) rfl rfl ?_;refine go 4 ?_;refine a0x rfl rfl ?_;exact q_v rfl
theorem b2V (I:IMap) (d k:Int) :
    FnV Tryz.prog 130 #[.int .i64 (d),.int .i64 (k)] I (.agg (a5a d k).cells.toArray):=by
 refine enter Tryz.func130 Tryz.call130 rfl Tryz.ntmps130 rfl (fun w0=>?_);refine go 3 ?_;refine a0h he rfl (fun g4=>?_);refine go 8 ?_;refine a0l rfl (a0A (pl:=[(0,1),(1,1)]) he he rfl rfl) ?_;refine go 1 ?_;refine a0l rfl (a0A (pl:=[(0,2),(2,2),(4,2)]) he he rfl rfl) ?_;refine go 1 ?_;refine a0l rfl (a0A (pl:=[(0,1),(1,1),(2,1),(3,1),(4,1),(5,1),(6,1),(7,1),(8,6)]) he he rfl rfl) ?_;refine go 1 ?_;refine a0m _ he rfl rfl rfl rfl rfl rfl ?_;refine go 3 ?_;refine a0x rfl ⟨_,_,_,rfl,m0,.inr ⟨_,he,rfl,rfl⟩⟩ ?_;exact q_v rfl
theorem b9W (I:IMap) :
    FnI Tryz.prog 72 #[] I (fun u J=>∃vc w,u = .tuple #[.agg #[vc,ci 2,ci 0,.slice none 0 0],w]∧RdS J vc bxC∧RdS J w bxL):=by
 refine enter Tryz.func72 Tryz.call72 rfl Tryz.ntmps72 rfl (fun w0=>?_);refine go 3 ?_;refine a0h he rfl (fun g0=>?_);refine go 11 ?_;refine a0l rfl (a0A (pl:=[(0,1),(1,1),(2,1)]) he he rfl rfl) ?_;refine go 1 ?_;refine a0e he he rfl rfl rfl rfl rfl rfl rfl (fun v5=>?_);refine a0o (l:=bxC) rfl rfl ((.one ⟨_,rfl,RdS.nil'⟩)) (fun I5 j5 R5=>?_)
 have R5s:=R5
 obtain⟨A5,c5,rfl,_⟩:=R5s;refine go 1 ?_;refine a0l rfl (a0A (pl:=[(0,1)]) he he rfl rfl) ?_;refine go 1 ?_;refine a0l rfl (a0A (pl:=[(0,1),(1,1),(2,1)]) he he rfl rfl) ?_;refine go 1 ?_;refine a0l rfl (a0A (pl:=[(0,1),(1,3)]) he he rfl rfl) ?_;refine go 1 ?_;refine a0h he rfl (fun g3=>?_);refine go 1 ?_;refine a0m _ he rfl rfl rfl rfl rfl rfl ?_;refine go 3 ?_;refine a0g ?_;refine a7H (fun hE3 hf3=>?_);refine a1t T.mixed ?_;refine a0f 0 rfl rfl (by kernel_rfl) rfl (.cons _ (.refl _)) rfl (a4d m0 he rfl rfl) ?_;refine a0f 1 rfl rfl (by kernel_rfl) rfl (.cons _ (.refl _)) rfl (a0A (pl:=[(0,1),(1,1),(2,1),(3,1),(4,1),(5,1),(6,1),(7,1),(8,6)]) he he rfl rfl) ?_;refine a0f 4 rfl rfl (by kernel_rfl) rfl (.cons _ (.refl _)) rfl (a0c rfl) ?_;refine a0f 6 rfl rfl (by kernel_rfl) rfl (.cons _ (.refl _)) rfl (a0c rfl) ?_;refine a2A 2 5 (by kernel_rfl) rfl rfl ?_ ?_
 ·refine a0e he he rfl rfl rfl rfl rfl rfl rfl (fun v11=>?_);refine a0o (l:=[a8r]) rfl rfl ((.one rfl)) (fun I11 j11 R11=>?_)
  have R5:=R5.le j11
  try have R17:=R17.le j11
  have R11s:=R11
  obtain⟨A11,c11,rfl,_⟩:=R11s;refine a0r (fun _ m=>m.keepsI (.cons _ (.refl _)) (j11) hE3 hf3) ?_;refine d_t 3 rfl rfl (by kernel_rfl) rfl (fun _ m=>m.keepsI (.cons _ (.refl _)) (j11) hE3 hf3) (y_v rfl (a0A (pl:=[(0,1),(1,1)]) he he rfl rfl)) ?_;refine a0i 5 (by kernel_rfl) rfl ?_;refine a0a (b2V _ 1 10) rfl rfl ?_;refine a0r (fun _ m=>m.keepsI (.cons _ (.refl _)) (j11) hE3 hf3) ?_;refine a0i 7 (by kernel_rfl) rfl ?_;refine a0a (b2V _ 2 20) rfl rfl ?_;refine a0r (fun _ m=>m.keepsI (.cons _ (.refl _)) (j11) hE3 hf3) ?_;refine a2A 8 11 (by kernel_rfl) rfl rfl ?_ ?_
  ·refine a0e he he rfl rfl rfl rfl rfl rfl rfl (fun v17=>?_);refine a0o (l:=[a5a 1 10,a5a 2 20]) rfl rfl (.cons rfl (.one rfl)) (fun I17 j17 R17=>?_)
   have R5:=R5.le j17
   try have R11:=R11.le j17
   have R17s:=R17
   obtain⟨A17,c17,rfl,_⟩:=R17s;refine a0r (fun _ m=>m.keepsI (.cons _ (.refl _)) ((j11).trans j17) hE3 hf3) ?_;refine d_t 9 rfl rfl (by kernel_rfl) rfl (fun _ m=>m.keepsI (.cons _ (.refl _)) ((j11).trans j17) hE3 hf3) (y_v rfl (a0A (pl:=[(0,1),(1,1)]) he he rfl rfl)) ?_;refine a2A 10 11 (by kernel_rfl) rfl rfl ?_ ?_
   ·refine a0e he he rfl rfl rfl rfl rfl rfl rfl (fun v19=>?_);refine a0o (l:=bxL) rfl rfl (.cons ⟨_,rfl,R11⟩ (.one ⟨_,rfl,R17⟩)) (fun I19 j19 R19=>?_)
    have R5:=R5.le j19
    refine a0r (fun _ m=>m.keepsI (.cons _ (.refl _)) (((j11).trans j17).trans j19) hE3 hf3) ?_;refine a0i 11 (by kernel_rfl) rfl ?_;refine a0m _ he rfl rfl rfl rfl rfl rfl ?_;refine a0r (fun _ m=>m.keepsI (.cons _ (.refl _)) (((j11).trans j17).trans j19) hE3 hf3) ?_;refine d_t 12 rfl rfl (by kernel_rfl) rfl (fun _ m=>m.keepsI (.cons _ (.refl _)) (((j11).trans j17).trans j19) hE3 hf3) (y_v rfl (a0I rfl)) ?_;refine a0w (by kernel_rfl) ?_;refine go 2 ?_;refine a2D rfl ⟨_,_,_,rfl,m0,.inr ⟨_,he,rfl,rfl⟩⟩ rfl ?_;exact q_i ⟨_,_,rfl,R5,R19⟩
   ·refine a0m _ he rfl rfl rfl rfl rfl rfl ?_;refine a0r (fun _ m=>m.keepsI (.cons _ (.refl _)) ((j11).trans j17) hE3 hf3) ?_;refine a0i 10 (by kernel_rfl) rfl ?_;refine a0e he he rfl rfl rfl rfl rfl rfl rfl (fun v19=>?_);refine a0o (l:=bxL) rfl rfl (.cons ⟨_,rfl,R11⟩ (.one ⟨_,rfl,R17⟩)) (fun I19 j19 R19=>?_)
    have R5:=R5.le j19
    refine a0r (fun _ m=>m.keepsI (.cons _ (.refl _)) (((j11).trans j17).trans j19) hE3 hf3) ?_;refine d_t 12 rfl rfl (by kernel_rfl) rfl (fun _ m=>m.keepsI (.cons _ (.refl _)) (((j11).trans j17).trans j19) hE3 hf3) (y_v rfl (a0I rfl)) ?_;refine a0w (by kernel_rfl) ?_;refine go 2 ?_;refine a2D rfl ⟨_,_,_,rfl,m0,.inr ⟨_,he,rfl,rfl⟩⟩ rfl ?_;exact q_i ⟨_,_,rfl,R5,R19⟩
  ·refine a0m _ he rfl rfl rfl rfl rfl rfl ?_;refine a0r (fun _ m=>m.keepsI (.cons _ (.refl _)) (j11) hE3 hf3) ?_;refine a0i 8 (by kernel_rfl) rfl ?_;refine a0e he he rfl rfl rfl rfl rfl rfl rfl (fun v17=>?_);refine a0o (l:=[a5a 1 10,a5a 2 20]) rfl rfl (.cons rfl (.one rfl)) (fun I17 j17 R17=>?_)
   have R5:=R5.le j17
   try have R11:=R11.le j17
   have R17s:=R17
   obtain⟨A17,c17,rfl,_⟩:=R17s;refine a0r (fun _ m=>m.keepsI (.cons _ (.refl _)) ((j11).trans j17) hE3 hf3) ?_;refine d_t 9 rfl rfl (by kernel_rfl) rfl (fun _ m=>m.keepsI (.cons _ (.refl _)) ((j11).trans j17) hE3 hf3) (y_v rfl (a0A (pl:=[(0,1),(1,1)]) he he rfl rfl)) ?_;refine a0i 10 (by kernel_rfl) rfl ?_;refine a0e he he rfl rfl rfl rfl rfl rfl rfl (fun v19=>?_);refine a0o (l:=bxL) rfl rfl (.cons ⟨_,rfl,R11⟩ (.one ⟨_,rfl,R17⟩)) (fun I19 j19 R19=>?_)
   have R5:=R5.le j19
   refine a0r (fun _ m=>m.keepsI (.cons _ (.refl _)) (((j11).trans j17).trans j19) hE3 hf3) ?_;refine d_t 12 rfl rfl (by kernel_rfl) rfl (fun _ m=>m.keepsI (.cons _ (.refl _)) (((j11).trans j17).trans j19) hE3 hf3) (y_v rfl (a0I rfl)) ?_;refine a0w (by kernel_rfl) ?_;refine go 2 ?_;refine a2D rfl ⟨_,_,_,rfl,m0,.inr ⟨_,he,rfl,rfl⟩⟩ rfl ?_;exact q_i ⟨_,_,rfl,R5,R19⟩
 ·refine a0a (b2V _ 1 10) rfl rfl ?_;refine a0r (fun _ m=>m.keeps (.cons _ (.refl _))) ?_;refine a2A 2 7 (by kernel_rfl) rfl rfl ?_ ?_
  ·refine a0e he he rfl rfl rfl rfl rfl rfl rfl (fun v11=>?_);refine a0o (l:=[a8r]) rfl rfl ((.one rfl)) (fun I11 j11 R11=>?_)
   have R5:=R5.le j11
   try have R17:=R17.le j11
   have R11s:=R11
   obtain⟨A11,c11,rfl,_⟩:=R11s;refine a0r (fun _ m=>m.keepsI (.cons _ (.refl _)) (j11) hE3 hf3) ?_;refine d_t 3 rfl rfl (by kernel_rfl) rfl (fun _ m=>m.keepsI (.cons _ (.refl _)) (j11) hE3 hf3) (y_v rfl (a0A (pl:=[(0,1),(1,1)]) he he rfl rfl)) ?_;refine a0i 7 (by kernel_rfl) rfl ?_;refine a0a (b2V _ 2 20) rfl rfl ?_;refine a0r (fun _ m=>m.keepsI (.cons _ (.refl _)) (j11) hE3 hf3) ?_;refine a2A 8 11 (by kernel_rfl) rfl rfl ?_ ?_
   ·refine a0e he he rfl rfl rfl rfl rfl rfl rfl (fun v17=>?_);refine a0o (l:=[a5a 1 10,a5a 2 20]) rfl rfl (.cons rfl (.one rfl)) (fun I17 j17 R17=>?_)
    have R5:=R5.le j17
    try have R11:=R11.le j17
    have R17s:=R17
    obtain⟨A17,c17,rfl,_⟩:=R17s;refine a0r (fun _ m=>m.keepsI (.cons _ (.refl _)) ((j11).trans j17) hE3 hf3) ?_;refine d_t 9 rfl rfl (by kernel_rfl) rfl (fun _ m=>m.keepsI (.cons _ (.refl _)) ((j11).trans j17) hE3 hf3) (y_v rfl (a0A (pl:=[(0,1),(1,1)]) he he rfl rfl)) ?_;refine a2A 10 11 (by kernel_rfl) rfl rfl ?_ ?_
    ·refine a0e he he rfl rfl rfl rfl rfl rfl rfl (fun v19=>?_);refine a0o (l:=bxL) rfl rfl (.cons ⟨_,rfl,R11⟩ (.one ⟨_,rfl,R17⟩)) (fun I19 j19 R19=>?_)
     have R5:=R5.le j19
     refine a0r (fun _ m=>m.keepsI (.cons _ (.refl _)) (((j11).trans j17).trans j19) hE3 hf3) ?_;refine a0i 11 (by kernel_rfl) rfl ?_;refine a0m _ he rfl rfl rfl rfl rfl rfl ?_;refine a0r (fun _ m=>m.keepsI (.cons _ (.refl _)) (((j11).trans j17).trans j19) hE3 hf3) ?_;refine d_t 12 rfl rfl (by kernel_rfl) rfl (fun _ m=>m.keepsI (.cons _ (.refl _)) (((j11).trans j17).trans j19) hE3 hf3) (y_v rfl (a0I rfl)) ?_;refine a0w (by kernel_rfl) ?_;refine go 2 ?_;refine a2D rfl ⟨_,_,_,rfl,m0,.inr ⟨_,he,rfl,rfl⟩⟩ rfl ?_;exact q_i ⟨_,_,rfl,R5,R19⟩
    ·refine a0m _ he rfl rfl rfl rfl rfl rfl ?_;refine a0r (fun _ m=>m.keepsI (.cons _ (.refl _)) ((j11).trans j17) hE3 hf3) ?_;refine a0i 10 (by kernel_rfl) rfl ?_;refine a0e he he rfl rfl rfl rfl rfl rfl rfl (fun v19=>?_);refine a0o (l:=bxL) rfl rfl (.cons ⟨_,rfl,R11⟩ (.one ⟨_,rfl,R17⟩)) (fun I19 j19 R19=>?_)
     have R5:=R5.le j19
     refine a0r (fun _ m=>m.keepsI (.cons _ (.refl _)) (((j11).trans j17).trans j19) hE3 hf3) ?_;refine d_t 12 rfl rfl (by kernel_rfl) rfl (fun _ m=>m.keepsI (.cons _ (.refl _)) (((j11).trans j17).trans j19) hE3 hf3) (y_v rfl (a0I rfl)) ?_;refine a0w (by kernel_rfl) ?_;refine go 2 ?_;refine a2D rfl ⟨_,_,_,rfl,m0,.inr ⟨_,he,rfl,rfl⟩⟩ rfl ?_;exact q_i ⟨_,_,rfl,R5,R19⟩
   ·refine a0m _ he rfl rfl rfl rfl rfl rfl ?_;refine a0r (fun _ m=>m.keepsI (.cons _ (.refl _)) (j11) hE3 hf3) ?_;refine a0i 8 (by kernel_rfl) rfl ?_;refine a0e he he rfl rfl rfl rfl rfl rfl rfl (fun v17=>?_);refine a0o (l:=[a5a 1 10,a5a 2 20]) rfl rfl (.cons rfl (.one rfl)) (fun I17 j17 R17=>?_)
    have R5:=R5.le j17
    try have R11:=R11.le j17
    have R17s:=R17
    obtain⟨A17,c17,rfl,_⟩:=R17s;refine a0r (fun _ m=>m.keepsI (.cons _ (.refl _)) ((j11).trans j17) hE3 hf3) ?_;refine d_t 9 rfl rfl (by kernel_rfl) rfl (fun _ m=>m.keepsI (.cons _ (.refl _)) ((j11).trans j17) hE3 hf3) (y_v rfl (a0A (pl:=[(0,1),(1,1)]) he he rfl rfl)) ?_;refine a0i 10 (by kernel_rfl) rfl ?_;refine a0e he he rfl rfl rfl rfl rfl rfl rfl (fun v19=>?_);refine a0o (l:=bxL) rfl rfl (.cons ⟨_,rfl,R11⟩ (.one ⟨_,rfl,R17⟩)) (fun I19 j19 R19=>?_)
    have R5:=R5.le j19
    refine a0r (fun _ m=>m.keepsI (.cons _ (.refl _)) (((j11).trans j17).trans j19) hE3 hf3) ?_;refine d_t 12 rfl rfl (by kernel_rfl) rfl (fun _ m=>m.keepsI (.cons _ (.refl _)) (((j11).trans j17).trans j19) hE3 hf3) (y_v rfl (a0I rfl)) ?_;refine a0w (by kernel_rfl) ?_;refine go 2 ?_;refine a2D rfl ⟨_,_,_,rfl,m0,.inr ⟨_,he,rfl,rfl⟩⟩ rfl ?_;exact q_i ⟨_,_,rfl,R5,R19⟩
  ·refine a0a (b2V _ 2 20) rfl rfl ?_;refine a0r (fun _ m=>m.keeps (.cons _ (.refl _))) ?_;refine b4L 2 8 11 (by kernel_rfl) rfl rfl rfl ?_ ?_ ?_
   ·refine a0e he he rfl rfl rfl rfl rfl rfl rfl (fun v11=>?_);refine a0o (l:=[a8r]) rfl rfl ((.one rfl)) (fun I11 j11 R11=>?_)
    have R5:=R5.le j11
    try have R17:=R17.le j11
    have R11s:=R11
    obtain⟨A11,c11,rfl,_⟩:=R11s;refine a0r (fun _ m=>m.keepsI (.cons _ (.refl _)) (j11) hE3 hf3) ?_;refine d_t 3 rfl rfl (by kernel_rfl) rfl (fun _ m=>m.keepsI (.cons _ (.refl _)) (j11) hE3 hf3) (y_v rfl (a0A (pl:=[(0,1),(1,1)]) he he rfl rfl)) ?_;refine a2A 8 11 (by kernel_rfl) rfl rfl ?_ ?_
    ·refine a0e he he rfl rfl rfl rfl rfl rfl rfl (fun v17=>?_);refine a0o (l:=[a5a 1 10,a5a 2 20]) rfl rfl (.cons rfl (.one rfl)) (fun I17 j17 R17=>?_)
     have R5:=R5.le j17
     try have R11:=R11.le j17
     have R17s:=R17
     obtain⟨A17,c17,rfl,_⟩:=R17s;refine a0r (fun _ m=>m.keepsI (.cons _ (.refl _)) ((j11).trans j17) hE3 hf3) ?_;refine d_t 9 rfl rfl (by kernel_rfl) rfl (fun _ m=>m.keepsI (.cons _ (.refl _)) ((j11).trans j17) hE3 hf3) (y_v rfl (a0A (pl:=[(0,1),(1,1)]) he he rfl rfl)) ?_;refine a2A 10 11 (by kernel_rfl) rfl rfl ?_ ?_
     ·refine a0e he he rfl rfl rfl rfl rfl rfl rfl (fun v19=>?_);refine a0o (l:=bxL) rfl rfl (.cons ⟨_,rfl,R11⟩ (.one ⟨_,rfl,R17⟩)) (fun I19 j19 R19=>?_)
      have R5:=R5.le j19
      refine a0r (fun _ m=>m.keepsI (.cons _ (.refl _)) (((j11).trans j17).trans j19) hE3 hf3) ?_;refine a0i 11 (by kernel_rfl) rfl ?_;refine a0m _ he rfl rfl rfl rfl rfl rfl ?_;refine a0r (fun _ m=>m.keepsI (.cons _ (.refl _)) (((j11).trans j17).trans j19) hE3 hf3) ?_;refine d_t 12 rfl rfl (by kernel_rfl) rfl (fun _ m=>m.keepsI (.cons _ (.refl _)) (((j11).trans j17).trans j19) hE3 hf3) (y_v rfl (a0I rfl)) ?_;refine a0w (by kernel_rfl) ?_;refine go 2 ?_;refine a2D rfl ⟨_,_,_,rfl,m0,.inr ⟨_,he,rfl,rfl⟩⟩ rfl ?_;exact q_i ⟨_,_,rfl,R5,R19⟩
     ·refine a0m _ he rfl rfl rfl rfl rfl rfl ?_;refine a0r (fun _ m=>m.keepsI (.cons _ (.refl _)) ((j11).trans j17) hE3 hf3) ?_;refine a0i 10 (by kernel_rfl) rfl ?_;refine a0e he he rfl rfl rfl rfl rfl rfl rfl (fun v19=>?_);refine a0o (l:=bxL) rfl rfl (.cons ⟨_,rfl,R11⟩ (.one ⟨_,rfl,R17⟩)) (fun I19 j19 R19=>?_)
      have R5:=R5.le j19
      refine a0r (fun _ m=>m.keepsI (.cons _ (.refl _)) (((j11).trans j17).trans j19) hE3 hf3) ?_;refine d_t 12 rfl rfl (by kernel_rfl) rfl (fun _ m=>m.keepsI (.cons _ (.refl _)) (((j11).trans j17).trans j19) hE3 hf3) (y_v rfl (a0I rfl)) ?_;refine a0w (by kernel_rfl) ?_;refine go 2 ?_;refine a2D rfl ⟨_,_,_,rfl,m0,.inr ⟨_,he,rfl,rfl⟩⟩ rfl ?_;exact q_i ⟨_,_,rfl,R5,R19⟩
    ·refine a0m _ he rfl rfl rfl rfl rfl rfl ?_;refine a0r (fun _ m=>m.keepsI (.cons _ (.refl _)) (j11) hE3 hf3) ?_;refine a0i 8 (by kernel_rfl) rfl ?_;refine a0e he he rfl rfl rfl rfl rfl rfl rfl (fun v17=>?_);refine a0o (l:=[a5a 1 10,a5a 2 20]) rfl rfl (.cons rfl (.one rfl)) (fun I17 j17 R17=>?_)
     have R5:=R5.le j17
     try have R11:=R11.le j17
     have R17s:=R17
     obtain⟨A17,c17,rfl,_⟩:=R17s;refine a0r (fun _ m=>m.keepsI (.cons _ (.refl _)) ((j11).trans j17) hE3 hf3) ?_;refine d_t 9 rfl rfl (by kernel_rfl) rfl (fun _ m=>m.keepsI (.cons _ (.refl _)) ((j11).trans j17) hE3 hf3) (y_v rfl (a0A (pl:=[(0,1),(1,1)]) he he rfl rfl)) ?_;refine a0i 10 (by kernel_rfl) rfl ?_;refine a0e he he rfl rfl rfl rfl rfl rfl rfl (fun v19=>?_);refine a0o (l:=bxL) rfl rfl (.cons ⟨_,rfl,R11⟩ (.one ⟨_,rfl,R17⟩)) (fun I19 j19 R19=>?_)
     have R5:=R5.le j19
     refine a0r (fun _ m=>m.keepsI (.cons _ (.refl _)) (((j11).trans j17).trans j19) hE3 hf3) ?_;refine d_t 12 rfl rfl (by kernel_rfl) rfl (fun _ m=>m.keepsI (.cons _ (.refl _)) (((j11).trans j17).trans j19) hE3 hf3) (y_v rfl (a0I rfl)) ?_;refine a0w (by kernel_rfl) ?_;refine go 2 ?_;refine a2D rfl ⟨_,_,_,rfl,m0,.inr ⟨_,he,rfl,rfl⟩⟩ rfl ?_;exact q_i ⟨_,_,rfl,R5,R19⟩
   ·refine a0e he he rfl rfl rfl rfl rfl rfl rfl (fun v17=>?_);refine a0o (l:=[a5a 1 10,a5a 2 20]) rfl rfl (.cons rfl (.one rfl)) (fun I17 j17 R17=>?_)
    have R5:=R5.le j17
    try have R11:=R11.le j17
    have R17s:=R17
    obtain⟨A17,c17,rfl,_⟩:=R17s;refine a0r (fun _ m=>m.keepsI (.cons _ (.refl _)) (j17) hE3 hf3) ?_;refine d_t 9 rfl rfl (by kernel_rfl) rfl (fun _ m=>m.keepsI (.cons _ (.refl _)) (j17) hE3 hf3) (y_v rfl (a0A (pl:=[(0,1),(1,1)]) he he rfl rfl)) ?_;refine a2A 2 11 (by kernel_rfl) rfl rfl ?_ ?_
    ·refine a0e he he rfl rfl rfl rfl rfl rfl rfl (fun v11=>?_);refine a0o (l:=[a8r]) rfl rfl ((.one rfl)) (fun I11 j11 R11=>?_)
     have R5:=R5.le j11
     try have R17:=R17.le j11
     have R11s:=R11
     obtain⟨A11,c11,rfl,_⟩:=R11s;refine a0r (fun _ m=>m.keepsI (.cons _ (.refl _)) ((j17).trans j11) hE3 hf3) ?_;refine d_t 3 rfl rfl (by kernel_rfl) rfl (fun _ m=>m.keepsI (.cons _ (.refl _)) ((j17).trans j11) hE3 hf3) (y_v rfl (a0A (pl:=[(0,1),(1,1)]) he he rfl rfl)) ?_;refine a2A 10 11 (by kernel_rfl) rfl rfl ?_ ?_
     ·refine a0e he he rfl rfl rfl rfl rfl rfl rfl (fun v19=>?_);refine a0o (l:=bxL) rfl rfl (.cons ⟨_,rfl,R11⟩ (.one ⟨_,rfl,R17⟩)) (fun I19 j19 R19=>?_)
      have R5:=R5.le j19
      refine a0r (fun _ m=>m.keepsI (.cons _ (.refl _)) (((j17).trans j11).trans j19) hE3 hf3) ?_;refine a0i 11 (by kernel_rfl) rfl ?_;refine a0m _ he rfl rfl rfl rfl rfl rfl ?_;refine a0r (fun _ m=>m.keepsI (.cons _ (.refl _)) (((j17).trans j11).trans j19) hE3 hf3) ?_;refine d_t 12 rfl rfl (by kernel_rfl) rfl (fun _ m=>m.keepsI (.cons _ (.refl _)) (((j17).trans j11).trans j19) hE3 hf3) (y_v rfl (a0I rfl)) ?_;refine a0w (by kernel_rfl) ?_;refine go 2 ?_;refine a2D rfl ⟨_,_,_,rfl,m0,.inr ⟨_,he,rfl,rfl⟩⟩ rfl ?_;exact q_i ⟨_,_,rfl,R5,R19⟩
     ·refine a0m _ he rfl rfl rfl rfl rfl rfl ?_;refine a0r (fun _ m=>m.keepsI (.cons _ (.refl _)) ((j17).trans j11) hE3 hf3) ?_;refine a0i 10 (by kernel_rfl) rfl ?_;refine a0e he he rfl rfl rfl rfl rfl rfl rfl (fun v19=>?_);refine a0o (l:=bxL) rfl rfl (.cons ⟨_,rfl,R11⟩ (.one ⟨_,rfl,R17⟩)) (fun I19 j19 R19=>?_)
      have R5:=R5.le j19
      refine a0r (fun _ m=>m.keepsI (.cons _ (.refl _)) (((j17).trans j11).trans j19) hE3 hf3) ?_;refine d_t 12 rfl rfl (by kernel_rfl) rfl (fun _ m=>m.keepsI (.cons _ (.refl _)) (((j17).trans j11).trans j19) hE3 hf3) (y_v rfl (a0I rfl)) ?_;refine a0w (by kernel_rfl) ?_;refine go 2 ?_;refine a2D rfl ⟨_,_,_,rfl,m0,.inr ⟨_,he,rfl,rfl⟩⟩ rfl ?_;exact q_i ⟨_,_,rfl,R5,R19⟩
    ·refine a0m _ he rfl rfl rfl rfl rfl rfl ?_;refine a0r (fun _ m=>m.keepsI (.cons _ (.refl _)) (j17) hE3 hf3) ?_;refine a0i 2 (by kernel_rfl) rfl ?_;refine a0e he he rfl rfl rfl rfl rfl rfl rfl (fun v11=>?_);refine a0o (l:=[a8r]) rfl rfl ((.one rfl)) (fun I11 j11 R11=>?_)
     have R5:=R5.le j11
     try have R17:=R17.le j11
     have R11s:=R11
     obtain⟨A11,c11,rfl,_⟩:=R11s;refine a0r (fun _ m=>m.keepsI (.cons _ (.refl _)) ((j17).trans j11) hE3 hf3) ?_;refine d_t 3 rfl rfl (by kernel_rfl) rfl (fun _ m=>m.keepsI (.cons _ (.refl _)) ((j17).trans j11) hE3 hf3) (y_v rfl (a0A (pl:=[(0,1),(1,1)]) he he rfl rfl)) ?_;refine a0i 10 (by kernel_rfl) rfl ?_;refine a0e he he rfl rfl rfl rfl rfl rfl rfl (fun v19=>?_);refine a0o (l:=bxL) rfl rfl (.cons ⟨_,rfl,R11⟩ (.one ⟨_,rfl,R17⟩)) (fun I19 j19 R19=>?_)
     have R5:=R5.le j19
     refine a0r (fun _ m=>m.keepsI (.cons _ (.refl _)) (((j17).trans j11).trans j19) hE3 hf3) ?_;refine d_t 12 rfl rfl (by kernel_rfl) rfl (fun _ m=>m.keepsI (.cons _ (.refl _)) (((j17).trans j11).trans j19) hE3 hf3) (y_v rfl (a0I rfl)) ?_;refine a0w (by kernel_rfl) ?_;refine go 2 ?_;refine a2D rfl ⟨_,_,_,rfl,m0,.inr ⟨_,he,rfl,rfl⟩⟩ rfl ?_;exact q_i ⟨_,_,rfl,R5,R19⟩
   ·refine a0m _ he rfl rfl rfl rfl rfl rfl ?_;refine a0r (fun _ m=>m.keeps (.cons _ (.refl _))) ?_;refine a2A 2 8 (by kernel_rfl) rfl rfl ?_ ?_
    ·refine a0e he he rfl rfl rfl rfl rfl rfl rfl (fun v11=>?_);refine a0o (l:=[a8r]) rfl rfl ((.one rfl)) (fun I11 j11 R11=>?_)
     have R5:=R5.le j11
     try have R17:=R17.le j11
     have R11s:=R11
     obtain⟨A11,c11,rfl,_⟩:=R11s;refine a0r (fun _ m=>m.keepsI (.cons _ (.refl _)) (j11) hE3 hf3) ?_;refine d_t 3 rfl rfl (by kernel_rfl) rfl (fun _ m=>m.keepsI (.cons _ (.refl _)) (j11) hE3 hf3) (y_v rfl (a0A (pl:=[(0,1),(1,1)]) he he rfl rfl)) ?_;refine a0i 8 (by kernel_rfl) rfl ?_;refine a0e he he rfl rfl rfl rfl rfl rfl rfl (fun v17=>?_);refine a0o (l:=[a5a 1 10,a5a 2 20]) rfl rfl (.cons rfl (.one rfl)) (fun I17 j17 R17=>?_)
     have R5:=R5.le j17
     try have R11:=R11.le j17
     have R17s:=R17
     obtain⟨A17,c17,rfl,_⟩:=R17s;refine a0r (fun _ m=>m.keepsI (.cons _ (.refl _)) ((j11).trans j17) hE3 hf3) ?_;refine d_t 9 rfl rfl (by kernel_rfl) rfl (fun _ m=>m.keepsI (.cons _ (.refl _)) ((j11).trans j17) hE3 hf3) (y_v rfl (a0A (pl:=[(0,1),(1,1)]) he he rfl rfl)) ?_;refine a0i 10 (by kernel_rfl) rfl ?_;refine a0e he he rfl rfl rfl rfl rfl rfl rfl (fun v19=>?_);refine a0o (l:=bxL) rfl rfl (.cons ⟨_,rfl,R11⟩ (.one ⟨_,rfl,R17⟩)) (fun I19 j19 R19=>?_)
     have R5:=R5.le j19
     refine a0r (fun _ m=>m.keepsI (.cons _ (.refl _)) (((j11).trans j17).trans j19) hE3 hf3) ?_;refine d_t 12 rfl rfl (by kernel_rfl) rfl (fun _ m=>m.keepsI (.cons _ (.refl _)) (((j11).trans j17).trans j19) hE3 hf3) (y_v rfl (a0I rfl)) ?_;refine a0w (by kernel_rfl) ?_;refine go 2 ?_;refine a2D rfl ⟨_,_,_,rfl,m0,.inr ⟨_,he,rfl,rfl⟩⟩ rfl ?_;exact q_i ⟨_,_,rfl,R5,R19⟩
    ·refine a0e he he rfl rfl rfl rfl rfl rfl rfl (fun v17=>?_);refine a0o (l:=[a5a 1 10,a5a 2 20]) rfl rfl (.cons rfl (.one rfl)) (fun I17 j17 R17=>?_)
     have R5:=R5.le j17
     try have R11:=R11.le j17
     have R17s:=R17
     obtain⟨A17,c17,rfl,_⟩:=R17s;refine a0r (fun _ m=>m.keepsI (.cons _ (.refl _)) (j17) hE3 hf3) ?_;refine d_t 9 rfl rfl (by kernel_rfl) rfl (fun _ m=>m.keepsI (.cons _ (.refl _)) (j17) hE3 hf3) (y_v rfl (a0A (pl:=[(0,1),(1,1)]) he he rfl rfl)) ?_;refine a0i 2 (by kernel_rfl) rfl ?_;refine a0e he he rfl rfl rfl rfl rfl rfl rfl (fun v11=>?_);refine a0o (l:=[a8r]) rfl rfl ((.one rfl)) (fun I11 j11 R11=>?_)
     have R5:=R5.le j11
     try have R17:=R17.le j11
     have R11s:=R11
     obtain⟨A11,c11,rfl,_⟩:=R11s;refine a0r (fun _ m=>m.keepsI (.cons _ (.refl _)) ((j17).trans j11) hE3 hf3) ?_;refine d_t 3 rfl rfl (by kernel_rfl) rfl (fun _ m=>m.keepsI (.cons _ (.refl _)) ((j17).trans j11) hE3 hf3) (y_v rfl (a0A (pl:=[(0,1),(1,1)]) he he rfl rfl)) ?_;refine a0i 10 (by kernel_rfl) rfl ?_;refine a0e he he rfl rfl rfl rfl rfl rfl rfl (fun v19=>?_);refine a0o (l:=bxL) rfl rfl (.cons ⟨_,rfl,R11⟩ (.one ⟨_,rfl,R17⟩)) (fun I19 j19 R19=>?_)
     have R5:=R5.le j19
     refine a0r (fun _ m=>m.keepsI (.cons _ (.refl _)) (((j17).trans j11).trans j19) hE3 hf3) ?_;refine d_t 12 rfl rfl (by kernel_rfl) rfl (fun _ m=>m.keepsI (.cons _ (.refl _)) (((j17).trans j11).trans j19) hE3 hf3) (y_v rfl (a0I rfl)) ?_;refine a0w (by kernel_rfl) ?_;refine go 2 ?_;refine a2D rfl ⟨_,_,_,rfl,m0,.inr ⟨_,he,rfl,rfl⟩⟩ rfl ?_;exact q_i ⟨_,_,rfl,R5,R19⟩
theorem c5t (I:IMap) :
    FnV Tryz.prog 35 #[] I (.bool true):=by
 refine enter Tryz.func35 Tryz.call35 rfl Tryz.ntmps35 rfl (fun w0=>?_);obtain⟨R,hR⟩:=a9g bxL;obtain⟨ho1,ho2⟩:=c6d hR;refine go 8 ?_;refine a0F (b9W _) rfl rfl (fun v15 I15 j15 q15=>?_);obtain⟨vc,w,rfl,hvc,hv⟩:=q15
 have hf:FmRd I15 [ci bxF.op,ci bxF.n,.slice none 0 0] bxF:=c9e
 refine go 4 ?_;refine a0h he rfl (fun g1=>?_);refine go 1 ?_;refine a0m _ he rfl rfl rfl rfl rfl (by simp[hvc.one];exact⟨rfl,rfl,rfl⟩) ?_;refine go 8 ?_;refine a0F (a1c _ vc bxC hvc b2W bxF _ hf _ bxL hv (by decide) b9w R hR nV1 sKm 0) rfl rfl (fun v21 I21 j21 q21=>?_)
 try have hvc:=hvc.le j21
 try have hv:=hv.le j21
 try have hf:=hf.le j21
 obtain rfl:=q21;rw[ho1,d1t];refine go 4 ?_;refine a0h he rfl (fun g3=>?_);refine go 1 ?_;refine a0m _ he rfl rfl rfl rfl rfl rfl ?_;refine go 8 ?_;refine a0F (a1c _ vc bxC hvc b2W bxF _ hf _ bxL hv (by decide) b9w R hR nV1 sKm 1) rfl rfl (fun v27 I27 j27 q27=>?_)
 try have hvc:=hvc.le j27
 try have hv:=hv.le j27
 try have hf:=hf.le j27
 obtain rfl:=q27;rw[ho1,d1u];refine go 4 ?_;refine a0h he rfl (fun g5=>?_);refine go 1 ?_;refine a0m _ he rfl rfl rfl rfl rfl rfl ?_;refine go 8 ?_;refine a0F (a4T _ vc bxC hvc b2W bxF _ hf _ bxL hv (by decide) b9w R hR nV1 2) rfl rfl (fun v33 I33 j33 q33=>?_)
 try have hvc:=hvc.le j33
 try have hv:=hv.le j33
 try have hf:=hf.le j33
 obtain rfl:=q33;rw[ho1,c6g];refine go 4 ?_;refine a0h he rfl (fun g7=>?_);refine go 1 ?_;refine a0m _ he rfl rfl rfl rfl rfl rfl ?_;refine go 8 ?_;refine a0F (a4T _ vc bxC hvc b2W bxF _ hf _ bxL hv (by decide) b9w R hR nV2 2) rfl rfl (fun v39 I39 j39 q39=>?_)
 try have hvc:=hvc.le j39
 try have hv:=hv.le j39
 try have hf:=hf.le j39
 obtain rfl:=q39;rw[ho2,c6h];obtain⟨z39,hz39⟩:∃q,q=(bndLife bxF bxC bxL [] nV2 2).1:=⟨_,rfl⟩;rw[←hz39];refine go 4 ?_;refine a0h he rfl (fun g9=>?_);refine go 1 ?_;refine a0m _ he rfl rfl rfl rfl rfl rfl ?_;refine go 8 ?_;refine a0F (a1c _ vc bxC hvc b2W bxF _ hf _ bxL hv (by decide) b9w R hR nV1 c5E 2) rfl rfl (fun v45 I45 j45 q45=>?_)
 try have hvc:=hvc.le j45
 try have hv:=hv.le j45
 try have hf:=hf.le j45
 obtain rfl:=q45;rw[c2K];refine go 4 ?_;refine a0h he rfl (fun g11=>?_);refine go 1 ?_;refine a0m _ he rfl rfl rfl rfl rfl rfl ?_;refine go 6 ?_;refine o_v rfl (OV.cast (u:=.bool true) (b4m rfl rfl) (congrArg Value.bool (decide_eq_true (rfl)))) ?_;refine go 3 ?_;refine a0y rfl rfl rfl (a0l rfl (a0A (pl:=[(0,1),(1,1)]) he he rfl rfl) ?_);refine a0v (a0y rfl rfl rfl (a0l rfl (OV.cast (u:=.bool true) (a3Q T.eqg_44 (a9w (⟨0,0⟩:Ivl) ⟨0,0⟩) rfl rfl) (congrArg Value.bool (decide_eq_true (rfl)))) ?_));refine go 3 ?_;refine a0v (a0y rfl rfl rfl (a0l rfl (OV.cast (u:=.bool true) (b4m rfl rfl) (congrArg Value.bool (decide_eq_true (rfl)))) ?_));refine go 4 ?_;refine a0y rfl rfl rfl (a0l rfl (a0A (pl:=[(0,1),(1,1)]) he he rfl rfl) ?_);refine a0v (a0y rfl rfl rfl (a0l rfl (OV.cast (u:=.bool true) (a3Q T.eqg_44 (a9w (⟨0,10⟩:Ivl) ⟨0,10⟩) rfl rfl) (congrArg Value.bool (decide_eq_true (rfl)))) ?_));refine go 3 ?_;refine a0v (a0y rfl rfl rfl (a0l rfl (OV.cast (u:=.bool true) (b4m rfl rfl) (congrArg Value.bool (decide_eq_true (rfl)))) ?_));refine go 3 ?_;refine a0v (a0y rfl rfl rfl (a0l rfl (a2o ((⟨10,20⟩:Ivl).cells) m2 he rfl rfl rfl) ?_));refine go 1 ?_;refine a0y rfl rfl rfl (a0l rfl (a0A (pl:=[(0,1),(1,1)]) he he rfl rfl) ?_);refine a0v (a0y rfl rfl rfl (a0l rfl (OV.cast (u:=.bool true) (a3Q T.eqg_44 (a9w (⟨10,20⟩:Ivl) ⟨10,20⟩) rfl rfl) (congrArg Value.bool (decide_eq_true (rfl)))) ?_));refine go 9 ?_;refine a0v (a0y rfl rfl rfl (a0l rfl (a2o ((⟨10,20⟩:Ivl).cells) m2 he rfl rfl rfl) ?_));refine go 1 ?_;refine a0v (a0y rfl rfl rfl (a0l rfl (a2o ((⟨10,20⟩:Ivl).cells) m2 he rfl rfl rfl) ?_));refine a0v (a0y rfl rfl rfl (a0l rfl (OV.cast (u:=.bool true) (a3Q T.eqg_44 (a9w (⟨10,20⟩:Ivl) ⟨10,20⟩) rfl rfl) (congrArg Value.bool (decide_eq_true (rfl)))) ?_));refine go 3 ?_;refine a0v (a0y rfl rfl rfl (a0l rfl (OV.cast (u:=.bool true) (b4m rfl rfl) (congrArg Value.bool (decide_eq_true (rfl)))) ?_));refine go 3 ?_;refine a0v (a0y rfl rfl rfl (a0l rfl (OV.cast (u:=.bool true) (b4m rfl rfl) (congrArg Value.bool (decide_eq_true (rfl)))) ?_));refine go 5 ?_;refine a0x rfl rfl ?_;exact a8c rfl
end Go.Proofs.YtdapmfkbpnjkmaaGreat
namespace Go.Proofs.YtdapmfkbpnjkmaaGreat
open Go Go.Sx
set_option linter.all false
set_option maxRecDepth 20000
set_option maxHeartbeats 4000000
instance T.by_46:Has (a2y Tryz.prog 46) ([.int .i64 0,.int .i64 0,.int .i64 0,.int .i64 0,.int .i64 0,.int .i64 0],6,48):=⟨by kernel_rfl⟩
instance T.elt_79:Has (a8D Tryz.prog 79) (46,6):=⟨by kernel_rfl⟩
instance T.und_79:Has (Tryz.prog.underlying 79) (.slice 46):=⟨by kernel_rfl⟩
end Go.Proofs.YtdapmfkbpnjkmaaGreat
set_option linter.all false
namespace Go.Sx
open Go
def d1h (r:Rep):Prop:=∀e∈r.options,OkE e
section
variable {P:Program} {t:TypeId}
theorem b3J {tb tk:TypeId} (hf:a1n P t=some [(tk,0,1),(tb,1,1)]) (hc:P.cellsOf t=2) (hk:a3i P tk (List Evt) (fun l=>∀x∈l,OkE x)) (hb:a3i P tb Bool (fun _=>True)):a3i P t Rep d1h:=by
 intro H enc w base spare held fuel cs x h;obtain⟨hl,hall⟩:=a2X hf h;rw[hc]at hl
 obtain⟨a0,r0_,rfl,l0_⟩:=a0N hl;obtain⟨a1,r1_,rfl,l1_⟩:=a0N l0_;obtain rfl:=a5X l1_;obtain⟨n0,y0,h0⟩:=hall (tk,0,1) (by simp);obtain⟨x0,e0,g0⟩:=hk enc w base spare held n0 _ y0 h0;obtain⟨v0,e0,r0⟩:=e0
 have e0:[a0]=[v0]:=e0
 cases e0
 obtain⟨n1,y1,h1⟩:=hall (tb,1,1) (by simp);obtain⟨x1,e1,g1⟩:=hb enc w base spare held n1 _ y1 h1
 have e1:[a1]=[.bool x1]:=e1
 cases e1
 exact⟨⟨x0,x1⟩,⟨_,rfl,r0⟩,g0⟩
end
end Go.Sx
