
import Derived.Test.YtdapmfkbpnjkmaaGreatZBhe
import Derived.ChangeKeysEq
import Derived.Ground.NamesProg
import Derived.Ground.SlsfProg
import Derived.Laws.Pointers
import Derived.Lib.Bytealg
import Derived.Shelf.SlGeneric
import Derived.Shelf.SlSortCmp.NoneTotal
import Derived.Shelf.Small.Strs
import Derived.Shelf.Sort.Plain
import Derived.Test.YtdapmfkbpnjkmaaGreatProg
namespace Go.Proofs.YtdapmfkbpnjkmaaGreat
open Go Go.Sx
set_option linter.all false
set_option maxRecDepth 20000
set_option maxHeartbeats 4000000
instance T.fld_72_0:Has (a3G Tryz.prog 72 0) (0,true,1):=⟨by kernel_rfl⟩
instance T.fld_72_1:Has (a3G Tryz.prog 72 1) (1,true,3):=⟨by kernel_rfl⟩
instance T.und_233:Has (Tryz.prog.underlying 233) (.map 9 9):=⟨by kernel_rfl⟩
theorem b6E (I:IMap) (v:Value) (l:List Part) (hv:RdS I v l) (s:ByteArray) (hN:b8x l≤12) :
    FnX Tryz.prog 92 #[.agg #[v],.string s] I [] (fun u r=>∃ns,r = .row u 9 1 ns.length (a2H ns).flatten∧(∀n,n∈ns↔b1H l s n)∧ns.length≤12):=by
 have hv0:=hv
 obtain⟨A,c0,rfl,hA,hc,hm⟩:=hv;refine enter Tryz.func92 Tryz.call92 rfl Tryz.ntmps92 rfl (fun w0=>?_);refine go 3 ?_;refine a0y _ rfl rfl rfl (fun g2=>?_);refine go 7 ?_;refine a2Z (d2B _ _ l hv0) rfl rfl (fun v20 s20 q20=>?_);obtain⟨m20,kvs,rfl,rfl,hIx,hnd⟩:=q20;obtain⟨z,b,hz,hb,hfs,hfn⟩:=hIx.look s;refine go 1 ?_;refine a0h he rfl (fun g5=>?_);refine go 1 ?_;refine a0p _ he rfl rfl rfl rfl rfl rfl ?_;refine go 8 ?_;refine o_v rfl (a8s m1 (a0S he) he he (s) rfl rfl hz hb) ?_;refine go 13 ?_;refine cb rfl (fun h29 p29=>?_) (fun h29 p29=>?_)
 ·refine go 7 ?_;refine a0u rfl rfl ?_;refine a0b ?_;refine a0b ?_;refine a0b ?_;refine a1i 9 1 ?_;exact q_x ⟨[],rfl,fun n=>⟨fun h=>(by cases h),fun h=>absurd h (c8l (hfn (by simpa using h29)) n)⟩,Nat.zero_le _⟩
 ·have hsome:(a0T l s).isSome=true:=by
    obtain⟨i,hi,_,hF⟩:=hfs (by simpa using h29);rw[hF];rfl
  refine go 5 ?_;refine a7o (Value.string) he rfl (fun r30=>?_);refine go 7 ?_;refine a0r ?_;refine b1y (fun S0 hO0 hT0 hS0=>?_);refine go 2 ?_;refine c1x hS0 he rfl rfl (fun i33=>?_);refine go 3 ?_;refine a0A ?_;refine a0b ?_
  refine a3A (S0) (kvs) ([]) (fun S todo done=>I)
   (fun S todo done=>[(1,.string s),(5,.pointer (some ⟨g5,0,none⟩)),(8,.map (some r30)),(33,.pointer (some ⟨i33,0,none⟩))])
   (fun S todo done=>[.any i33 (S.it m20),.any m20 S.mp,.mp r30 (a2t Value.string (a3z (a4p l (done.map Prod.fst)))),.blk g5 118 [.slice A l.length c0,.map (some m20)]])
   (fun S todo done=>S.Ok Value.string kvs∧S.Todo Value.string todo∧(done++todo).Perm kvs)
   (fun S todo done=>todo.length) ⟨hO0,hT0,.refl _⟩ rfl sb rfl ?_
  intro S todo done ⟨hO,hT,hP⟩;refine go 3 ?_;refine a0f ?_;refine a0f ?_;refine c6h hO hT rfl rfl (fun q34 S34 t34 hst=>?_);refine o_v rfl (a5u rfl (c1p _ _)) ?_;refine go 3 ?_;refine cb rfl (fun h35 p35=>?_) (fun h35 p35=>?_)
  ·obtain⟨p,a,b,htd,hO1,hT1,hA1,rfl,rfl⟩:=hst.some h35
   have hpk:=c4A hP htd
   have hpn:=c4B hP htd hnd
   obtain⟨i,hi,hpv,hF⟩:=hIx.mem hnd hpk
   have hup:upP l p.1=l[i].into:=by unfold upP;rw[hF];rfl
   refine go 5 ?_;refine o_v rfl (c2B m0 m1 hO1 hA1 rfl) ?_;refine go 1 ?_;refine o_v rfl (OV.cast (u:=.int .i64 ((i:Nat):Int)) (a5u rfl rfl) hpv) ?_;refine go 9 ?_;obtain⟨b42,o42,w42,e42,c42,r42⟩:=RdA.at_ hA (i:=i) hi;obtain⟨q42,rfl,B42,d42,rfl,hB42,hd42,hm42⟩:=r42;refine o_v rfl (a0m he rfl rfl e42 (i) rfl hi) ?_;refine go 1 ?_;refine o_v rfl (OV.cast (u:=.string (upP l p.1)) (a0V he rfl (c42 2 _ rfl)) (congrArg Value.string hup.symm)) ?_;refine go 9 ?_;refine cb rfl (fun h46 p46=>?_) (fun h46 p46=>?_)
   ·refine go 5 ?_;refine a0r ?_;refine a4s (a3z ((a4p l (done.map Prod.fst))++[(p.1,upP l p.1)])) (a0S he) he (p.1) rfl rfl rfl (c0h (c3L hpn)) ?_;refine go 3 ?_;refine a1c ?_;refine a0f ?_;refine a1c ?_;refine a1c ?_;exact a2b (S34) (a++b) (done++[p]) ⟨hO1,hT1,a7r hP htd⟩ (by rw[htd];simp) rfl sb (by rw[c0q p46])
   ·refine go 3 ?_;exact a2b (S34) (a++b) (done++[p]) ⟨hO1,hT1,a7r hP htd⟩ (by rw[htd];simp) rfl sb (by rw[c0p (by simpa using h46)])
  ·obtain⟨rfl,rfl,rfl⟩:=hst.none h35
   have hdp:done.Perm kvs:=by simpa using hP
   refine go 10 ?_;refine a0r ?_;refine b7l (a0S he) he s rfl rfl ?_;rw[b3d (c7A hnd hdp)]
   have hB0:=Bfs.start (v:=s) hIx hnd hdp
   refine go 4 ?_;refine a1i 9 1 ?_;refine go 8 ?_;refine a0d he he rfl rfl rfl rfl rfl rfl rfl (fun v53=>?_);refine a0l (l:=[s]) rfl rfl ((.one rfl)) (fun I53 j53 R53=>?_)
   have R53s:=R53
   obtain⟨A53,c53,rfl,_,_,_⟩:=R53s;refine go 4 ?_;refine a0r ?_;refine a0b ?_;refine a0r ?_;refine a0b ?_;refine a0r ?_;refine a0b ?_
   refine c6W (_) ([s]) ([]) (A53) (c53) (_) ([]) (I53) (fun R lst out A1 c1 v12 xs J=>J)
    (fun R lst out A1 c1 v12 xs J=>[(8,.map (some r30)),(12,v12),(13,.slice A1 lst.length c1)])
    (fun R lst out A1 c1 v12 xs J=>[.row v12 9 1 out.length xs,.mp r30 (a2t Value.string (a3z R))])
    (fun R lst out A1 c1 v12 xs J=>RdS J (.slice A1 lst.length c1) lst∧Flat J xs out∧Bfs l s R lst out)
    (fun R lst out A1 c1 v12 xs J=>R.length+R.length+min lst.length 1) ⟨R53,.nil,hB0⟩ rfl sb rfl ?_
   intro R lst out A1 c1 v12 xs J ⟨hL,hFo,hB⟩
   have hlen:=hB.len
   refine go 8 ?_;refine cb rfl (fun h56 p56=>?_) (fun h56 p56=>?_)
   ·refine go 5 ?_;refine a1i 9 1 ?_;refine go 6 ?_;refine a0r ?_;refine b1y (fun S0 hO0 hT0 hS0=>?_);refine go 2 ?_;refine c1x hS0 he rfl rfl (fun i58=>?_);refine go 3 ?_
    refine b1R (S0) (R) ([]) (_) ([]) (fun S todo done v14 ys=>J)
     (fun S todo done v14 ys=>[(8,.map (some r30)),(12,v12),(13,.slice A1 lst.length c1),(14,v14),(58,.pointer (some ⟨i58,0,none⟩))])
     (fun S todo done v14 ys=>[.any i58 (S.it r30),.any r30 S.mp,.row v14 9 1 (a2R lst done).length ys,.row v12 9 1 out.length xs])
     (fun S todo done v14 ys=>S.Ok Value.string (a3z R)∧S.Todo Value.string (a3z todo)∧(done++todo).Perm R∧Flat J ys (a2R lst done))
     (fun S todo done v14 ys=>todo.length) ⟨hO0,hT0,.refl _,.nil⟩ rfl sb rfl ?_
    intro S todo done v14 ys ⟨hO,hT,hP,hFy⟩
    have hdl:=hP.length_eq
    rw[List.length_append]at hdl
    have hnl:=c1q (lst:=lst) done
    refine go 3 ?_;refine a0f ?_;refine a0f ?_;refine c6h hO hT rfl rfl (fun q59 S59 t59 hst=>?_);refine o_v rfl (a5u rfl (c1p _ _)) ?_;refine go 3 ?_;refine cb rfl (fun h60 p60=>?_) (fun h60 p60=>?_)
    ·obtain⟨n,u,a,b,htd,hO1,hT1,hA1,rfl⟩:=hst.nu h60;refine go 5 ?_;refine o_v rfl (c2B m0 m1 hO1 hA1 rfl) ?_;refine go 11 ?_;refine a0a (a4B _ _ lst hL u) rfl rfl ?_;refine go 2 ?_;refine cb rfl (fun h66 p66=>?_) (fun h66 p66=>?_)
     ·refine go 4 ?_;refine a0d he he rfl rfl rfl rfl rfl rfl rfl (fun v69=>?_);refine go 1 ?_;refine a1c ?_;refine a1h he he rfl rfl rfl rfl rfl (by omega) (by omega) rfl (fun v70=>?_);refine go 4 ?_;refine a0f ?_;refine a0b ?_;refine a1c ?_;refine a0f ?_;refine a1c ?_;refine a1c ?_;exact a6P (S59) (a++b) (done++[(n,u)]) (_) (_) ⟨hO1,hT1,a7r hP htd,by rw[b3E (p:=(n,u)) p66];exact hFy.append (.one rfl)⟩ (by rw[htd];simp) rfl sb (by rw[b3E (p:=(n,u)) p66,List.length_append];rfl)
     ·refine go 3 ?_;exact a6P (S59) (a++b) (done++[(n,u)]) (_) (_) ⟨hO1,hT1,a7r hP htd,by rw[b7g (p:=(n,u)) p66];exact hFy⟩ (by rw[htd];simp) rfl sb (by rw[b7g (p:=(n,u)) p66])
    ·obtain⟨rfl,rfl,rfl⟩:=hst.nuNone h60
     have hdp:done.Perm R:=by simpa using hP
     refine a0f ?_;refine b9j hO ?_;refine go 8 ?_;refine a0r ?_;refine a0l (l:=(a2R lst done)) rfl rfl (hFy) (fun I71 j71 R71=>?_)
     have hFo:=hFo.le j71
     have R71s:=R71
     obtain⟨A14,c14,rfl,hA71,_,_⟩:=R71s;refine go 6 ?_;refine a0f ?_;refine a0b ?_
     refine a0N (α:=Nat) 0 (fun i=>I71)
      (fun i=>[(8,.map (some r30)),(12,v12),(14,.slice A14 (a2R lst done).length c14),(71,.slice A14 (a2R lst done).length c14),(72,.int .i64 (((a2R lst done).length:Nat):Int)),(73,.int .i64 ((i:Nat):Int))])
      (fun i=>[.mp r30 (a2t Value.string (a3z (a7t R ((a2R lst done).take i)))),.row v12 9 1 out.length xs])
      (fun i=>i≤(a2R lst done).length)
      (fun i=>(a2R lst done).length-i) (Nat.zero_le _) rfl sb (by rw[List.take_zero,c1R]) ?_
     intro i hi;refine go 6 ?_;refine cb rfl (fun h74 p74=>?_) (fun h74 p74=>?_)
     ·have hlt:i<(a2R lst done).length:=by omega
      refine go 6 ?_;obtain⟨b75,o75,w75,e75,c75,r75⟩:=RdA.at_ hA71 (i:=i) (by omega);obtain rfl:=r75;refine o_v rfl (a0m he rfl rfl e75 (i) (by omega) (by omega)) ?_;refine o_v rfl (a0V he rfl (c75 0 _ rfl)) ?_;refine go 7 ?_;refine b7l (a0S he) he ((a2R lst done)[i]) rfl rfl ?_;rw[b9e hlt hB.kn];refine go 8 ?_;exact a0J (i+1) (by omega) (by omega) rfl sb rfl
     ·obtain rfl:i=(a2R lst done).length:=by omega
      rw[List.take_length];refine go 10 ?_;refine a0f ?_;refine a1m (R71) rfl he he rfl rfl rfl rfl (by omega) (by omega) rfl (fun v82 x82 f82=>?_);refine go 9 ?_;exact c8I (a7t R (a2R lst done)) ((a2R lst done)) (out++(a2R lst done)) (A14) (c14) (_) (_) (I71) ⟨R71,hFo.append f82,hB.step hsome hdp⟩ (by have:=b7h (lst:=lst) hB.kn hdp;omega) rfl sb (by rw[List.length_append])
   ·obtain rfl:lst=[]:=List.eq_nil_of_length_eq_zero (by omega);refine go 9 ?_;refine a1s (b7O _ _ out xs hFo (by omega)) rfl rfl (fun v85 s85 q85=>?_);obtain⟨rfl,m,ys,hpm,hFm,rfl⟩:=q85;refine go 9 ?_;refine a0u rfl rfl ?_;refine a0f ?_;refine a0b ?_;exact q_x ⟨m,by rw[hpm.1,c3U hFm],fun n=>(hpm.2 n).trans hB.over,by have:=hpm.1;omega⟩
theorem c8c (I:IMap) {xss:List (List Value)} (g t i:Nat) (hU:Uk 14 xss) (p:Part) (q:Value) (hi:xss[i]? = some (p.cells q)) (u:Use) (dd:Ivl) (off:Nat) (ho:off=i * 14+8) :
    FnM Tryz.prog 96 #[.pointer (some ⟨g,off,none⟩),.agg u.cells.toArray,.agg dd.cells.toArray] I (.blk g t xss.flatten) (.blk g t (xss.set i ((a9h dd u p).cells q)).flatten):=by
 refine enter Tryz.func96 Tryz.call96 rfl Tryz.ntmps96 rfl (fun w0=>?_);refine go 3 ?_;refine a0y _ rfl rfl rfl (fun g4=>?_);refine go 1 ?_;refine a0y _ rfl rfl rfl (fun g5=>?_);refine go 2 ?_;refine a0r ?_;refine a1r T.mixed ?_;refine a0g 0 rfl rfl (by kernel_rfl) rfl (.cons _ (.refl _)) rfl (a0c rfl) ?_;refine a0g 1 rfl rfl (by kernel_rfl) rfl (.cons _ (.refl _)) rfl (a0c rfl) ?_;refine a0g 2 rfl rfl (by kernel_rfl) rfl (.cons _ (.refl _)) rfl (a0c rfl) ?_;refine a0g 3 rfl rfl (by kernel_rfl) rfl (.cons _ (.refl _)) rfl (a0c rfl) ?_;refine a0g 4 rfl rfl (by kernel_rfl) rfl (.cons _ (.refl _)) rfl (a0j rfl) ?_;refine a0g 5 rfl rfl (by kernel_rfl) rfl (.cons _ (.refl _)) rfl (a0e he rfl) ?_;refine a0g 7 rfl rfl (by kernel_rfl) rfl (.cons _ (.refl _)) rfl (a0e he rfl) ?_;refine a0g 8 rfl rfl (by kernel_rfl) rfl (.cons _ (.refl _)) rfl (a1W (u.km.cells) m1 he rfl rfl rfl) ?_;refine a0g 10 rfl rfl (by kernel_rfl) rfl (.cons _ (.refl _)) rfl (a0c rfl) ?_;refine a0g 11 rfl rfl (by kernel_rfl) rfl (.cons _ (.refl _)) rfl (a0j rfl) ?_;refine a0g 12 rfl rfl (by kernel_rfl) rfl (.cons _ (.refl _)) rfl (a0e he rfl) ?_;refine a0g 14 rfl rfl (by kernel_rfl) rfl (.cons _ (.refl _)) rfl (a0e he rfl) ?_;refine a0g 15 rfl rfl (by kernel_rfl) rfl (.cons _ (.refl _)) rfl (a1W (u.cycles.cells) m1 he rfl rfl rfl) ?_;refine a0g 17 rfl rfl (by kernel_rfl) rfl (.cons _ (.refl _)) rfl (a0c rfl) ?_;refine a0g 18 rfl rfl (by kernel_rfl) rfl (.cons _ (.refl _)) rfl (a0j rfl) ?_;refine a0g 19 rfl rfl (by kernel_rfl) rfl (.cons _ (.refl _)) rfl (a0e he rfl) ?_;refine a0g 21 rfl rfl (by kernel_rfl) rfl (.cons _ (.refl _)) rfl (a4k m0 he rfl rfl) ?_;refine b4S 6 13 20 (by kernel_rfl) rfl rfl rfl ?_ ?_ ?_
 ·refine a0s rfl (a2s (p.life.km.cells) m0 hU he rfl (i) 8 (by omega) hi rfl rfl rfl) ?_;refine a0v (fun _ m=>m.keeps (.cons _ (.refl _))) ?_;refine b4S 9 13 20 (by kernel_rfl) rfl rfl rfl ?_ ?_ ?_
  ·refine a0a (a2o _ p.life.km u.km) rfl rfl ?_;refine a0v (fun _ m=>m.keeps (.cons _ (.refl _))) ?_;refine a2P 13 20 (by kernel_rfl) rfl rfl ?_ ?_
   ·refine a0s rfl (a2s (p.life.cycles.cells) m0 hU he rfl (i) 10 (by omega) hi rfl rfl rfl) ?_;refine a0v (fun _ m=>m.keeps (.cons _ (.refl _))) ?_;refine a2P 16 20 (by kernel_rfl) rfl rfl ?_ ?_
    ·refine a0a (a2o _ p.life.cycles u.cycles) rfl rfl ?_;refine a0v (fun _ m=>m.keeps (.cons _ (.refl _))) ?_;refine a0i 20 (by kernel_rfl) rfl ?_;refine a0s rfl (a2s (p.life.damage.cells) m0 hU he rfl (i) 12 (by omega) hi rfl rfl rfl) ?_;refine a0v (fun _ m=>m.keeps (.cons _ (.refl _))) ?_;refine a0i 22 (by kernel_rfl) rfl ?_;refine a0a (a2o _ p.life.damage dd) rfl rfl ?_;refine a0v (fun _ m=>m.keeps (.cons _ (.refl _))) ?_;refine a0g 23 rfl rfl (by kernel_rfl) rfl (.cons _ (.refl _)) rfl (a0j rfl) ?_;refine a0g 24 rfl rfl (by kernel_rfl) rfl (.cons _ (.refl _)) rfl (a0e he rfl) ?_;refine a0i 25 (by kernel_rfl) rfl ?_;refine a1f _ _ (by first|exact hU|exact hU.set rfl _|exact (hU.set rfl _).set rfl _) he rfl rfl rfl rfl rfl (i) 8 (by omega) (by first|exact hi|exact a0k hi|exact a0k (a0k hi)) (by decide) rfl ?_;refine a0v (fun _ m=>m.keeps (.cons _ (.refl _))) ?_;refine a0g 26 rfl rfl (by kernel_rfl) rfl (.cons _ (.refl _)) rfl (a0j rfl) ?_;refine a0g 27 rfl rfl (by kernel_rfl) rfl (.cons _ (.refl _)) rfl (a0e he rfl) ?_;refine a0i 28 (by kernel_rfl) rfl ?_;refine a1f _ _ (by first|exact hU|exact hU.set rfl _|exact (hU.set rfl _).set rfl _) he rfl rfl rfl rfl rfl (i) 10 (by omega) (by first|exact hi|exact a0k hi|exact a0k (a0k hi)) (by decide) rfl ?_;refine a0v (fun _ m=>m.keeps (.cons _ (.refl _))) ?_;refine a0g 29 rfl rfl (by kernel_rfl) rfl (.cons _ (.refl _)) rfl (a0j rfl) ?_;refine a0g 30 rfl rfl (by kernel_rfl) rfl (.cons _ (.refl _)) rfl (a0e he rfl) ?_;refine a0i 31 (by kernel_rfl) rfl ?_;refine a1f _ _ (by first|exact hU|exact hU.set rfl _|exact (hU.set rfl _).set rfl _) he rfl rfl rfl rfl rfl (i) 12 (by omega) (by first|exact hi|exact a0k hi|exact a0k (a0k hi)) (by decide) rfl ?_;refine a0v (fun _ m=>m.keeps (.cons _ (.refl _))) ?_;refine a0w (by kernel_rfl) ?_;refine a4w rfl ?_;refine a0f ?_;refine a0b ?_;refine a0f ?_;refine a0b ?_;exact b4a (by rw[List.set_set,List.set_set];rfl)
    ·refine a0s rfl (a2s (p.life.damage.cells) m0 hU he rfl (i) 12 (by omega) hi rfl rfl rfl) ?_;refine a0v (fun _ m=>m.keeps (.cons _ (.refl _))) ?_;refine a0i 16 (by kernel_rfl) rfl ?_;refine a0a (a2o _ p.life.cycles u.cycles) rfl rfl ?_;refine a0v (fun _ m=>m.keeps (.cons _ (.refl _))) ?_;refine a0i 22 (by kernel_rfl) rfl ?_;refine a0a (a2o _ p.life.damage dd) rfl rfl ?_;refine a0v (fun _ m=>m.keeps (.cons _ (.refl _))) ?_;refine a0g 23 rfl rfl (by kernel_rfl) rfl (.cons _ (.refl _)) rfl (a0j rfl) ?_;refine a0g 24 rfl rfl (by kernel_rfl) rfl (.cons _ (.refl _)) rfl (a0e he rfl) ?_;refine a0i 25 (by kernel_rfl) rfl ?_;refine a1f _ _ (by first|exact hU|exact hU.set rfl _|exact (hU.set rfl _).set rfl _) he rfl rfl rfl rfl rfl (i) 8 (by omega) (by first|exact hi|exact a0k hi|exact a0k (a0k hi)) (by decide) rfl ?_;refine a0v (fun _ m=>m.keeps (.cons _ (.refl _))) ?_;refine a0g 26 rfl rfl (by kernel_rfl) rfl (.cons _ (.refl _)) rfl (a0j rfl) ?_;refine a0g 27 rfl rfl (by kernel_rfl) rfl (.cons _ (.refl _)) rfl (a0e he rfl) ?_;refine a0i 28 (by kernel_rfl) rfl ?_;refine a1f _ _ (by first|exact hU|exact hU.set rfl _|exact (hU.set rfl _).set rfl _) he rfl rfl rfl rfl rfl (i) 10 (by omega) (by first|exact hi|exact a0k hi|exact a0k (a0k hi)) (by decide) rfl ?_;refine a0v (fun _ m=>m.keeps (.cons _ (.refl _))) ?_;refine a0g 29 rfl rfl (by kernel_rfl) rfl (.cons _ (.refl _)) rfl (a0j rfl) ?_;refine a0g 30 rfl rfl (by kernel_rfl) rfl (.cons _ (.refl _)) rfl (a0e he rfl) ?_;refine a0i 31 (by kernel_rfl) rfl ?_;refine a1f _ _ (by first|exact hU|exact hU.set rfl _|exact (hU.set rfl _).set rfl _) he rfl rfl rfl rfl rfl (i) 12 (by omega) (by first|exact hi|exact a0k hi|exact a0k (a0k hi)) (by decide) rfl ?_;refine a0v (fun _ m=>m.keeps (.cons _ (.refl _))) ?_;refine a0w (by kernel_rfl) ?_;refine a4w rfl ?_;refine a0f ?_;refine a0b ?_;refine a0f ?_;refine a0b ?_;exact b4a (by rw[List.set_set,List.set_set];rfl)
   ·refine a0s rfl (a2s (p.life.damage.cells) m0 hU he rfl (i) 12 (by omega) hi rfl rfl rfl) ?_;refine a0v (fun _ m=>m.keeps (.cons _ (.refl _))) ?_;refine a0i 13 (by kernel_rfl) rfl ?_;refine a0s rfl (a2s (p.life.cycles.cells) m0 hU he rfl (i) 10 (by omega) hi rfl rfl rfl) ?_;refine a0v (fun _ m=>m.keeps (.cons _ (.refl _))) ?_;refine a0i 16 (by kernel_rfl) rfl ?_;refine a0a (a2o _ p.life.cycles u.cycles) rfl rfl ?_;refine a0v (fun _ m=>m.keeps (.cons _ (.refl _))) ?_;refine a0i 22 (by kernel_rfl) rfl ?_;refine a0a (a2o _ p.life.damage dd) rfl rfl ?_;refine a0v (fun _ m=>m.keeps (.cons _ (.refl _))) ?_;refine a0g 23 rfl rfl (by kernel_rfl) rfl (.cons _ (.refl _)) rfl (a0j rfl) ?_;refine a0g 24 rfl rfl (by kernel_rfl) rfl (.cons _ (.refl _)) rfl (a0e he rfl) ?_;refine a0i 25 (by kernel_rfl) rfl ?_;refine a1f _ _ (by first|exact hU|exact hU.set rfl _|exact (hU.set rfl _).set rfl _) he rfl rfl rfl rfl rfl (i) 8 (by omega) (by first|exact hi|exact a0k hi|exact a0k (a0k hi)) (by decide) rfl ?_;refine a0v (fun _ m=>m.keeps (.cons _ (.refl _))) ?_;refine a0g 26 rfl rfl (by kernel_rfl) rfl (.cons _ (.refl _)) rfl (a0j rfl) ?_;refine a0g 27 rfl rfl (by kernel_rfl) rfl (.cons _ (.refl _)) rfl (a0e he rfl) ?_;refine a0i 28 (by kernel_rfl) rfl ?_;refine a1f _ _ (by first|exact hU|exact hU.set rfl _|exact (hU.set rfl _).set rfl _) he rfl rfl rfl rfl rfl (i) 10 (by omega) (by first|exact hi|exact a0k hi|exact a0k (a0k hi)) (by decide) rfl ?_;refine a0v (fun _ m=>m.keeps (.cons _ (.refl _))) ?_;refine a0g 29 rfl rfl (by kernel_rfl) rfl (.cons _ (.refl _)) rfl (a0j rfl) ?_;refine a0g 30 rfl rfl (by kernel_rfl) rfl (.cons _ (.refl _)) rfl (a0e he rfl) ?_;refine a0i 31 (by kernel_rfl) rfl ?_;refine a1f _ _ (by first|exact hU|exact hU.set rfl _|exact (hU.set rfl _).set rfl _) he rfl rfl rfl rfl rfl (i) 12 (by omega) (by first|exact hi|exact a0k hi|exact a0k (a0k hi)) (by decide) rfl ?_;refine a0v (fun _ m=>m.keeps (.cons _ (.refl _))) ?_;refine a0w (by kernel_rfl) ?_;refine a4w rfl ?_;refine a0f ?_;refine a0b ?_;refine a0f ?_;refine a0b ?_;exact b4a (by rw[List.set_set,List.set_set];rfl)
  ·refine a0s rfl (a2s (p.life.cycles.cells) m0 hU he rfl (i) 10 (by omega) hi rfl rfl rfl) ?_;refine a0v (fun _ m=>m.keeps (.cons _ (.refl _))) ?_;refine a2P 9 20 (by kernel_rfl) rfl rfl ?_ ?_
   ·refine a0a (a2o _ p.life.km u.km) rfl rfl ?_;refine a0v (fun _ m=>m.keeps (.cons _ (.refl _))) ?_;refine a2P 16 20 (by kernel_rfl) rfl rfl ?_ ?_
    ·refine a0a (a2o _ p.life.cycles u.cycles) rfl rfl ?_;refine a0v (fun _ m=>m.keeps (.cons _ (.refl _))) ?_;refine a0i 20 (by kernel_rfl) rfl ?_;refine a0s rfl (a2s (p.life.damage.cells) m0 hU he rfl (i) 12 (by omega) hi rfl rfl rfl) ?_;refine a0v (fun _ m=>m.keeps (.cons _ (.refl _))) ?_;refine a0i 22 (by kernel_rfl) rfl ?_;refine a0a (a2o _ p.life.damage dd) rfl rfl ?_;refine a0v (fun _ m=>m.keeps (.cons _ (.refl _))) ?_;refine a0g 23 rfl rfl (by kernel_rfl) rfl (.cons _ (.refl _)) rfl (a0j rfl) ?_;refine a0g 24 rfl rfl (by kernel_rfl) rfl (.cons _ (.refl _)) rfl (a0e he rfl) ?_;refine a0i 25 (by kernel_rfl) rfl ?_;refine a1f _ _ (by first|exact hU|exact hU.set rfl _|exact (hU.set rfl _).set rfl _) he rfl rfl rfl rfl rfl (i) 8 (by omega) (by first|exact hi|exact a0k hi|exact a0k (a0k hi)) (by decide) rfl ?_;refine a0v (fun _ m=>m.keeps (.cons _ (.refl _))) ?_;refine a0g 26 rfl rfl (by kernel_rfl) rfl (.cons _ (.refl _)) rfl (a0j rfl) ?_;refine a0g 27 rfl rfl (by kernel_rfl) rfl (.cons _ (.refl _)) rfl (a0e he rfl) ?_;refine a0i 28 (by kernel_rfl) rfl ?_;refine a1f _ _ (by first|exact hU|exact hU.set rfl _|exact (hU.set rfl _).set rfl _) he rfl rfl rfl rfl rfl (i) 10 (by omega) (by first|exact hi|exact a0k hi|exact a0k (a0k hi)) (by decide) rfl ?_;refine a0v (fun _ m=>m.keeps (.cons _ (.refl _))) ?_;refine a0g 29 rfl rfl (by kernel_rfl) rfl (.cons _ (.refl _)) rfl (a0j rfl) ?_;refine a0g 30 rfl rfl (by kernel_rfl) rfl (.cons _ (.refl _)) rfl (a0e he rfl) ?_;refine a0i 31 (by kernel_rfl) rfl ?_;refine a1f _ _ (by first|exact hU|exact hU.set rfl _|exact (hU.set rfl _).set rfl _) he rfl rfl rfl rfl rfl (i) 12 (by omega) (by first|exact hi|exact a0k hi|exact a0k (a0k hi)) (by decide) rfl ?_;refine a0v (fun _ m=>m.keeps (.cons _ (.refl _))) ?_;refine a0w (by kernel_rfl) ?_;refine a4w rfl ?_;refine a0f ?_;refine a0b ?_;refine a0f ?_;refine a0b ?_;exact b4a (by rw[List.set_set,List.set_set];rfl)
    ·refine a0s rfl (a2s (p.life.damage.cells) m0 hU he rfl (i) 12 (by omega) hi rfl rfl rfl) ?_;refine a0v (fun _ m=>m.keeps (.cons _ (.refl _))) ?_;refine a0i 16 (by kernel_rfl) rfl ?_;refine a0a (a2o _ p.life.cycles u.cycles) rfl rfl ?_;refine a0v (fun _ m=>m.keeps (.cons _ (.refl _))) ?_;refine a0i 22 (by kernel_rfl) rfl ?_;refine a0a (a2o _ p.life.damage dd) rfl rfl ?_;refine a0v (fun _ m=>m.keeps (.cons _ (.refl _))) ?_;refine a0g 23 rfl rfl (by kernel_rfl) rfl (.cons _ (.refl _)) rfl (a0j rfl) ?_;refine a0g 24 rfl rfl (by kernel_rfl) rfl (.cons _ (.refl _)) rfl (a0e he rfl) ?_;refine a0i 25 (by kernel_rfl) rfl ?_;refine a1f _ _ (by first|exact hU|exact hU.set rfl _|exact (hU.set rfl _).set rfl _) he rfl rfl rfl rfl rfl (i) 8 (by omega) (by first|exact hi|exact a0k hi|exact a0k (a0k hi)) (by decide) rfl ?_;refine a0v (fun _ m=>m.keeps (.cons _ (.refl _))) ?_;refine a0g 26 rfl rfl (by kernel_rfl) rfl (.cons _ (.refl _)) rfl (a0j rfl) ?_;refine a0g 27 rfl rfl (by kernel_rfl) rfl (.cons _ (.refl _)) rfl (a0e he rfl) ?_;refine a0i 28 (by kernel_rfl) rfl ?_;refine a1f _ _ (by first|exact hU|exact hU.set rfl _|exact (hU.set rfl _).set rfl _) he rfl rfl rfl rfl rfl (i) 10 (by omega) (by first|exact hi|exact a0k hi|exact a0k (a0k hi)) (by decide) rfl ?_;refine a0v (fun _ m=>m.keeps (.cons _ (.refl _))) ?_;refine a0g 29 rfl rfl (by kernel_rfl) rfl (.cons _ (.refl _)) rfl (a0j rfl) ?_;refine a0g 30 rfl rfl (by kernel_rfl) rfl (.cons _ (.refl _)) rfl (a0e he rfl) ?_;refine a0i 31 (by kernel_rfl) rfl ?_;refine a1f _ _ (by first|exact hU|exact hU.set rfl _|exact (hU.set rfl _).set rfl _) he rfl rfl rfl rfl rfl (i) 12 (by omega) (by first|exact hi|exact a0k hi|exact a0k (a0k hi)) (by decide) rfl ?_;refine a0v (fun _ m=>m.keeps (.cons _ (.refl _))) ?_;refine a0w (by kernel_rfl) ?_;refine a4w rfl ?_;refine a0f ?_;refine a0b ?_;refine a0f ?_;refine a0b ?_;exact b4a (by rw[List.set_set,List.set_set];rfl)
   ·refine a0s rfl (a2s (p.life.damage.cells) m0 hU he rfl (i) 12 (by omega) hi rfl rfl rfl) ?_;refine a0v (fun _ m=>m.keeps (.cons _ (.refl _))) ?_;refine a0i 9 (by kernel_rfl) rfl ?_;refine a0a (a2o _ p.life.km u.km) rfl rfl ?_;refine a0v (fun _ m=>m.keeps (.cons _ (.refl _))) ?_;refine a0i 16 (by kernel_rfl) rfl ?_;refine a0a (a2o _ p.life.cycles u.cycles) rfl rfl ?_;refine a0v (fun _ m=>m.keeps (.cons _ (.refl _))) ?_;refine a0i 22 (by kernel_rfl) rfl ?_;refine a0a (a2o _ p.life.damage dd) rfl rfl ?_;refine a0v (fun _ m=>m.keeps (.cons _ (.refl _))) ?_;refine a0g 23 rfl rfl (by kernel_rfl) rfl (.cons _ (.refl _)) rfl (a0j rfl) ?_;refine a0g 24 rfl rfl (by kernel_rfl) rfl (.cons _ (.refl _)) rfl (a0e he rfl) ?_;refine a0i 25 (by kernel_rfl) rfl ?_;refine a1f _ _ (by first|exact hU|exact hU.set rfl _|exact (hU.set rfl _).set rfl _) he rfl rfl rfl rfl rfl (i) 8 (by omega) (by first|exact hi|exact a0k hi|exact a0k (a0k hi)) (by decide) rfl ?_;refine a0v (fun _ m=>m.keeps (.cons _ (.refl _))) ?_;refine a0g 26 rfl rfl (by kernel_rfl) rfl (.cons _ (.refl _)) rfl (a0j rfl) ?_;refine a0g 27 rfl rfl (by kernel_rfl) rfl (.cons _ (.refl _)) rfl (a0e he rfl) ?_;refine a0i 28 (by kernel_rfl) rfl ?_;refine a1f _ _ (by first|exact hU|exact hU.set rfl _|exact (hU.set rfl _).set rfl _) he rfl rfl rfl rfl rfl (i) 10 (by omega) (by first|exact hi|exact a0k hi|exact a0k (a0k hi)) (by decide) rfl ?_;refine a0v (fun _ m=>m.keeps (.cons _ (.refl _))) ?_;refine a0g 29 rfl rfl (by kernel_rfl) rfl (.cons _ (.refl _)) rfl (a0j rfl) ?_;refine a0g 30 rfl rfl (by kernel_rfl) rfl (.cons _ (.refl _)) rfl (a0e he rfl) ?_;refine a0i 31 (by kernel_rfl) rfl ?_;refine a1f _ _ (by first|exact hU|exact hU.set rfl _|exact (hU.set rfl _).set rfl _) he rfl rfl rfl rfl rfl (i) 12 (by omega) (by first|exact hi|exact a0k hi|exact a0k (a0k hi)) (by decide) rfl ?_;refine a0v (fun _ m=>m.keeps (.cons _ (.refl _))) ?_;refine a0w (by kernel_rfl) ?_;refine a4w rfl ?_;refine a0f ?_;refine a0b ?_;refine a0f ?_;refine a0b ?_;exact b4a (by rw[List.set_set,List.set_set];rfl)
  ·refine a0s rfl (a2s (p.life.damage.cells) m0 hU he rfl (i) 12 (by omega) hi rfl rfl rfl) ?_;refine a0v (fun _ m=>m.keeps (.cons _ (.refl _))) ?_;refine a2P 9 13 (by kernel_rfl) rfl rfl ?_ ?_
   ·refine a0a (a2o _ p.life.km u.km) rfl rfl ?_;refine a0v (fun _ m=>m.keeps (.cons _ (.refl _))) ?_;refine a0i 13 (by kernel_rfl) rfl ?_;refine a0s rfl (a2s (p.life.cycles.cells) m0 hU he rfl (i) 10 (by omega) hi rfl rfl rfl) ?_;refine a0v (fun _ m=>m.keeps (.cons _ (.refl _))) ?_;refine a0i 16 (by kernel_rfl) rfl ?_;refine a0a (a2o _ p.life.cycles u.cycles) rfl rfl ?_;refine a0v (fun _ m=>m.keeps (.cons _ (.refl _))) ?_;refine a0i 22 (by kernel_rfl) rfl ?_;refine a0a (a2o _ p.life.damage dd) rfl rfl ?_;refine a0v (fun _ m=>m.keeps (.cons _ (.refl _))) ?_;refine a0g 23 rfl rfl (by kernel_rfl) rfl (.cons _ (.refl _)) rfl (a0j rfl) ?_;refine a0g 24 rfl rfl (by kernel_rfl) rfl (.cons _ (.refl _)) rfl (a0e he rfl) ?_;refine a0i 25 (by kernel_rfl) rfl ?_;refine a1f _ _ (by first|exact hU|exact hU.set rfl _|exact (hU.set rfl _).set rfl _) he rfl rfl rfl rfl rfl (i) 8 (by omega) (by first|exact hi|exact a0k hi|exact a0k (a0k hi)) (by decide) rfl ?_;refine a0v (fun _ m=>m.keeps (.cons _ (.refl _))) ?_;refine a0g 26 rfl rfl (by kernel_rfl) rfl (.cons _ (.refl _)) rfl (a0j rfl) ?_;refine a0g 27 rfl rfl (by kernel_rfl) rfl (.cons _ (.refl _)) rfl (a0e he rfl) ?_;refine a0i 28 (by kernel_rfl) rfl ?_;refine a1f _ _ (by first|exact hU|exact hU.set rfl _|exact (hU.set rfl _).set rfl _) he rfl rfl rfl rfl rfl (i) 10 (by omega) (by first|exact hi|exact a0k hi|exact a0k (a0k hi)) (by decide) rfl ?_;refine a0v (fun _ m=>m.keeps (.cons _ (.refl _))) ?_;refine a0g 29 rfl rfl (by kernel_rfl) rfl (.cons _ (.refl _)) rfl (a0j rfl) ?_;refine a0g 30 rfl rfl (by kernel_rfl) rfl (.cons _ (.refl _)) rfl (a0e he rfl) ?_;refine a0i 31 (by kernel_rfl) rfl ?_;refine a1f _ _ (by first|exact hU|exact hU.set rfl _|exact (hU.set rfl _).set rfl _) he rfl rfl rfl rfl rfl (i) 12 (by omega) (by first|exact hi|exact a0k hi|exact a0k (a0k hi)) (by decide) rfl ?_;refine a0v (fun _ m=>m.keeps (.cons _ (.refl _))) ?_;refine a0w (by kernel_rfl) ?_;refine a4w rfl ?_;refine a0f ?_;refine a0b ?_;refine a0f ?_;refine a0b ?_;exact b4a (by rw[List.set_set,List.set_set];rfl)
   ·refine a0s rfl (a2s (p.life.cycles.cells) m0 hU he rfl (i) 10 (by omega) hi rfl rfl rfl) ?_;refine a0v (fun _ m=>m.keeps (.cons _ (.refl _))) ?_;refine a0i 9 (by kernel_rfl) rfl ?_;refine a0a (a2o _ p.life.km u.km) rfl rfl ?_;refine a0v (fun _ m=>m.keeps (.cons _ (.refl _))) ?_;refine a0i 16 (by kernel_rfl) rfl ?_;refine a0a (a2o _ p.life.cycles u.cycles) rfl rfl ?_;refine a0v (fun _ m=>m.keeps (.cons _ (.refl _))) ?_;refine a0i 22 (by kernel_rfl) rfl ?_;refine a0a (a2o _ p.life.damage dd) rfl rfl ?_;refine a0v (fun _ m=>m.keeps (.cons _ (.refl _))) ?_;refine a0g 23 rfl rfl (by kernel_rfl) rfl (.cons _ (.refl _)) rfl (a0j rfl) ?_;refine a0g 24 rfl rfl (by kernel_rfl) rfl (.cons _ (.refl _)) rfl (a0e he rfl) ?_;refine a0i 25 (by kernel_rfl) rfl ?_;refine a1f _ _ (by first|exact hU|exact hU.set rfl _|exact (hU.set rfl _).set rfl _) he rfl rfl rfl rfl rfl (i) 8 (by omega) (by first|exact hi|exact a0k hi|exact a0k (a0k hi)) (by decide) rfl ?_;refine a0v (fun _ m=>m.keeps (.cons _ (.refl _))) ?_;refine a0g 26 rfl rfl (by kernel_rfl) rfl (.cons _ (.refl _)) rfl (a0j rfl) ?_;refine a0g 27 rfl rfl (by kernel_rfl) rfl (.cons _ (.refl _)) rfl (a0e he rfl) ?_;refine a0i 28 (by kernel_rfl) rfl ?_;refine a1f _ _ (by first|exact hU|exact hU.set rfl _|exact (hU.set rfl _).set rfl _) he rfl rfl rfl rfl rfl (i) 10 (by omega) (by first|exact hi|exact a0k hi|exact a0k (a0k hi)) (by decide) rfl ?_;refine a0v (fun _ m=>m.keeps (.cons _ (.refl _))) ?_;refine a0g 29 rfl rfl (by kernel_rfl) rfl (.cons _ (.refl _)) rfl (a0j rfl) ?_;refine a0g 30 rfl rfl (by kernel_rfl) rfl (.cons _ (.refl _)) rfl (a0e he rfl) ?_;refine a0i 31 (by kernel_rfl) rfl ?_;refine a1f _ _ (by first|exact hU|exact hU.set rfl _|exact (hU.set rfl _).set rfl _) he rfl rfl rfl rfl rfl (i) 12 (by omega) (by first|exact hi|exact a0k hi|exact a0k (a0k hi)) (by decide) rfl ?_;refine a0v (fun _ m=>m.keeps (.cons _ (.refl _))) ?_;refine a0w (by kernel_rfl) ?_;refine a4w rfl ?_;refine a0f ?_;refine a0b ?_;refine a0f ?_;refine a0b ?_;exact b4a (by rw[List.set_set,List.set_set];rfl)
 ·refine a0s rfl (a2s (p.life.cycles.cells) m0 hU he rfl (i) 10 (by omega) hi rfl rfl rfl) ?_;refine a0v (fun _ m=>m.keeps (.cons _ (.refl _))) ?_;refine a2P 6 20 (by kernel_rfl) rfl rfl ?_ ?_
  ·refine a0s rfl (a2s (p.life.km.cells) m0 hU he rfl (i) 8 (by omega) hi rfl rfl rfl) ?_;refine a0v (fun _ m=>m.keeps (.cons _ (.refl _))) ?_;refine a2P 9 20 (by kernel_rfl) rfl rfl ?_ ?_
   ·refine a0a (a2o _ p.life.km u.km) rfl rfl ?_;refine a0v (fun _ m=>m.keeps (.cons _ (.refl _))) ?_;refine a2P 16 20 (by kernel_rfl) rfl rfl ?_ ?_
    ·refine a0a (a2o _ p.life.cycles u.cycles) rfl rfl ?_;refine a0v (fun _ m=>m.keeps (.cons _ (.refl _))) ?_;refine a0i 20 (by kernel_rfl) rfl ?_;refine a0s rfl (a2s (p.life.damage.cells) m0 hU he rfl (i) 12 (by omega) hi rfl rfl rfl) ?_;refine a0v (fun _ m=>m.keeps (.cons _ (.refl _))) ?_;refine a0i 22 (by kernel_rfl) rfl ?_;refine a0a (a2o _ p.life.damage dd) rfl rfl ?_;refine a0v (fun _ m=>m.keeps (.cons _ (.refl _))) ?_;refine a0g 23 rfl rfl (by kernel_rfl) rfl (.cons _ (.refl _)) rfl (a0j rfl) ?_;refine a0g 24 rfl rfl (by kernel_rfl) rfl (.cons _ (.refl _)) rfl (a0e he rfl) ?_;refine a0i 25 (by kernel_rfl) rfl ?_;refine a1f _ _ (by first|exact hU|exact hU.set rfl _|exact (hU.set rfl _).set rfl _) he rfl rfl rfl rfl rfl (i) 8 (by omega) (by first|exact hi|exact a0k hi|exact a0k (a0k hi)) (by decide) rfl ?_;refine a0v (fun _ m=>m.keeps (.cons _ (.refl _))) ?_;refine a0g 26 rfl rfl (by kernel_rfl) rfl (.cons _ (.refl _)) rfl (a0j rfl) ?_;refine a0g 27 rfl rfl (by kernel_rfl) rfl (.cons _ (.refl _)) rfl (a0e he rfl) ?_;refine a0i 28 (by kernel_rfl) rfl ?_;refine a1f _ _ (by first|exact hU|exact hU.set rfl _|exact (hU.set rfl _).set rfl _) he rfl rfl rfl rfl rfl (i) 10 (by omega) (by first|exact hi|exact a0k hi|exact a0k (a0k hi)) (by decide) rfl ?_;refine a0v (fun _ m=>m.keeps (.cons _ (.refl _))) ?_;refine a0g 29 rfl rfl (by kernel_rfl) rfl (.cons _ (.refl _)) rfl (a0j rfl) ?_;refine a0g 30 rfl rfl (by kernel_rfl) rfl (.cons _ (.refl _)) rfl (a0e he rfl) ?_;refine a0i 31 (by kernel_rfl) rfl ?_;refine a1f _ _ (by first|exact hU|exact hU.set rfl _|exact (hU.set rfl _).set rfl _) he rfl rfl rfl rfl rfl (i) 12 (by omega) (by first|exact hi|exact a0k hi|exact a0k (a0k hi)) (by decide) rfl ?_;refine a0v (fun _ m=>m.keeps (.cons _ (.refl _))) ?_;refine a0w (by kernel_rfl) ?_;refine a4w rfl ?_;refine a0f ?_;refine a0b ?_;refine a0f ?_;refine a0b ?_;exact b4a (by rw[List.set_set,List.set_set];rfl)
    ·refine a0s rfl (a2s (p.life.damage.cells) m0 hU he rfl (i) 12 (by omega) hi rfl rfl rfl) ?_;refine a0v (fun _ m=>m.keeps (.cons _ (.refl _))) ?_;refine a0i 16 (by kernel_rfl) rfl ?_;refine a0a (a2o _ p.life.cycles u.cycles) rfl rfl ?_;refine a0v (fun _ m=>m.keeps (.cons _ (.refl _))) ?_;refine a0i 22 (by kernel_rfl) rfl ?_;refine a0a (a2o _ p.life.damage dd) rfl rfl ?_;refine a0v (fun _ m=>m.keeps (.cons _ (.refl _))) ?_;refine a0g 23 rfl rfl (by kernel_rfl) rfl (.cons _ (.refl _)) rfl (a0j rfl) ?_;refine a0g 24 rfl rfl (by kernel_rfl) rfl (.cons _ (.refl _)) rfl (a0e he rfl) ?_;refine a0i 25 (by kernel_rfl) rfl ?_;refine a1f _ _ (by first|exact hU|exact hU.set rfl _|exact (hU.set rfl _).set rfl _) he rfl rfl rfl rfl rfl (i) 8 (by omega) (by first|exact hi|exact a0k hi|exact a0k (a0k hi)) (by decide) rfl ?_;refine a0v (fun _ m=>m.keeps (.cons _ (.refl _))) ?_;refine a0g 26 rfl rfl (by kernel_rfl) rfl (.cons _ (.refl _)) rfl (a0j rfl) ?_;refine a0g 27 rfl rfl (by kernel_rfl) rfl (.cons _ (.refl _)) rfl (a0e he rfl) ?_;refine a0i 28 (by kernel_rfl) rfl ?_;refine a1f _ _ (by first|exact hU|exact hU.set rfl _|exact (hU.set rfl _).set rfl _) he rfl rfl rfl rfl rfl (i) 10 (by omega) (by first|exact hi|exact a0k hi|exact a0k (a0k hi)) (by decide) rfl ?_;refine a0v (fun _ m=>m.keeps (.cons _ (.refl _))) ?_;refine a0g 29 rfl rfl (by kernel_rfl) rfl (.cons _ (.refl _)) rfl (a0j rfl) ?_;refine a0g 30 rfl rfl (by kernel_rfl) rfl (.cons _ (.refl _)) rfl (a0e he rfl) ?_;refine a0i 31 (by kernel_rfl) rfl ?_;refine a1f _ _ (by first|exact hU|exact hU.set rfl _|exact (hU.set rfl _).set rfl _) he rfl rfl rfl rfl rfl (i) 12 (by omega) (by first|exact hi|exact a0k hi|exact a0k (a0k hi)) (by decide) rfl ?_;refine a0v (fun _ m=>m.keeps (.cons _ (.refl _))) ?_;refine a0w (by kernel_rfl) ?_;refine a4w rfl ?_;refine a0f ?_;refine a0b ?_;refine a0f ?_;refine a0b ?_;exact b4a (by rw[List.set_set,List.set_set];rfl)
   ·refine a0s rfl (a2s (p.life.damage.cells) m0 hU he rfl (i) 12 (by omega) hi rfl rfl rfl) ?_;refine a0v (fun _ m=>m.keeps (.cons _ (.refl _))) ?_;refine a0i 9 (by kernel_rfl) rfl ?_;refine a0a (a2o _ p.life.km u.km) rfl rfl ?_;refine a0v (fun _ m=>m.keeps (.cons _ (.refl _))) ?_;refine a0i 16 (by kernel_rfl) rfl ?_;refine a0a (a2o _ p.life.cycles u.cycles) rfl rfl ?_;refine a0v (fun _ m=>m.keeps (.cons _ (.refl _))) ?_;refine a0i 22 (by kernel_rfl) rfl ?_;refine a0a (a2o _ p.life.damage dd) rfl rfl ?_;refine a0v (fun _ m=>m.keeps (.cons _ (.refl _))) ?_;refine a0g 23 rfl rfl (by kernel_rfl) rfl (.cons _ (.refl _)) rfl (a0j rfl) ?_;refine a0g 24 rfl rfl (by kernel_rfl) rfl (.cons _ (.refl _)) rfl (a0e he rfl) ?_;refine a0i 25 (by kernel_rfl) rfl ?_;refine a1f _ _ (by first|exact hU|exact hU.set rfl _|exact (hU.set rfl _).set rfl _) he rfl rfl rfl rfl rfl (i) 8 (by omega) (by first|exact hi|exact a0k hi|exact a0k (a0k hi)) (by decide) rfl ?_;refine a0v (fun _ m=>m.keeps (.cons _ (.refl _))) ?_;refine a0g 26 rfl rfl (by kernel_rfl) rfl (.cons _ (.refl _)) rfl (a0j rfl) ?_;refine a0g 27 rfl rfl (by kernel_rfl) rfl (.cons _ (.refl _)) rfl (a0e he rfl) ?_;refine a0i 28 (by kernel_rfl) rfl ?_;refine a1f _ _ (by first|exact hU|exact hU.set rfl _|exact (hU.set rfl _).set rfl _) he rfl rfl rfl rfl rfl (i) 10 (by omega) (by first|exact hi|exact a0k hi|exact a0k (a0k hi)) (by decide) rfl ?_;refine a0v (fun _ m=>m.keeps (.cons _ (.refl _))) ?_;refine a0g 29 rfl rfl (by kernel_rfl) rfl (.cons _ (.refl _)) rfl (a0j rfl) ?_;refine a0g 30 rfl rfl (by kernel_rfl) rfl (.cons _ (.refl _)) rfl (a0e he rfl) ?_;refine a0i 31 (by kernel_rfl) rfl ?_;refine a1f _ _ (by first|exact hU|exact hU.set rfl _|exact (hU.set rfl _).set rfl _) he rfl rfl rfl rfl rfl (i) 12 (by omega) (by first|exact hi|exact a0k hi|exact a0k (a0k hi)) (by decide) rfl ?_;refine a0v (fun _ m=>m.keeps (.cons _ (.refl _))) ?_;refine a0w (by kernel_rfl) ?_;refine a4w rfl ?_;refine a0f ?_;refine a0b ?_;refine a0f ?_;refine a0b ?_;exact b4a (by rw[List.set_set,List.set_set];rfl)
  ·refine a0s rfl (a2s (p.life.damage.cells) m0 hU he rfl (i) 12 (by omega) hi rfl rfl rfl) ?_;refine a0v (fun _ m=>m.keeps (.cons _ (.refl _))) ?_;refine a0i 6 (by kernel_rfl) rfl ?_;refine a0s rfl (a2s (p.life.km.cells) m0 hU he rfl (i) 8 (by omega) hi rfl rfl rfl) ?_;refine a0v (fun _ m=>m.keeps (.cons _ (.refl _))) ?_;refine a0i 9 (by kernel_rfl) rfl ?_;refine a0a (a2o _ p.life.km u.km) rfl rfl ?_;refine a0v (fun _ m=>m.keeps (.cons _ (.refl _))) ?_;refine a0i 16 (by kernel_rfl) rfl ?_;refine a0a (a2o _ p.life.cycles u.cycles) rfl rfl ?_;refine a0v (fun _ m=>m.keeps (.cons _ (.refl _))) ?_;refine a0i 22 (by kernel_rfl) rfl ?_;refine a0a (a2o _ p.life.damage dd) rfl rfl ?_;refine a0v (fun _ m=>m.keeps (.cons _ (.refl _))) ?_;refine a0g 23 rfl rfl (by kernel_rfl) rfl (.cons _ (.refl _)) rfl (a0j rfl) ?_;refine a0g 24 rfl rfl (by kernel_rfl) rfl (.cons _ (.refl _)) rfl (a0e he rfl) ?_;refine a0i 25 (by kernel_rfl) rfl ?_;refine a1f _ _ (by first|exact hU|exact hU.set rfl _|exact (hU.set rfl _).set rfl _) he rfl rfl rfl rfl rfl (i) 8 (by omega) (by first|exact hi|exact a0k hi|exact a0k (a0k hi)) (by decide) rfl ?_;refine a0v (fun _ m=>m.keeps (.cons _ (.refl _))) ?_;refine a0g 26 rfl rfl (by kernel_rfl) rfl (.cons _ (.refl _)) rfl (a0j rfl) ?_;refine a0g 27 rfl rfl (by kernel_rfl) rfl (.cons _ (.refl _)) rfl (a0e he rfl) ?_;refine a0i 28 (by kernel_rfl) rfl ?_;refine a1f _ _ (by first|exact hU|exact hU.set rfl _|exact (hU.set rfl _).set rfl _) he rfl rfl rfl rfl rfl (i) 10 (by omega) (by first|exact hi|exact a0k hi|exact a0k (a0k hi)) (by decide) rfl ?_;refine a0v (fun _ m=>m.keeps (.cons _ (.refl _))) ?_;refine a0g 29 rfl rfl (by kernel_rfl) rfl (.cons _ (.refl _)) rfl (a0j rfl) ?_;refine a0g 30 rfl rfl (by kernel_rfl) rfl (.cons _ (.refl _)) rfl (a0e he rfl) ?_;refine a0i 31 (by kernel_rfl) rfl ?_;refine a1f _ _ (by first|exact hU|exact hU.set rfl _|exact (hU.set rfl _).set rfl _) he rfl rfl rfl rfl rfl (i) 12 (by omega) (by first|exact hi|exact a0k hi|exact a0k (a0k hi)) (by decide) rfl ?_;refine a0v (fun _ m=>m.keeps (.cons _ (.refl _))) ?_;refine a0w (by kernel_rfl) ?_;refine a4w rfl ?_;refine a0f ?_;refine a0b ?_;refine a0f ?_;refine a0b ?_;exact b4a (by rw[List.set_set,List.set_set];rfl)
 ·refine a0s rfl (a2s (p.life.damage.cells) m0 hU he rfl (i) 12 (by omega) hi rfl rfl rfl) ?_;refine a0v (fun _ m=>m.keeps (.cons _ (.refl _))) ?_;refine a2P 6 13 (by kernel_rfl) rfl rfl ?_ ?_
  ·refine a0s rfl (a2s (p.life.km.cells) m0 hU he rfl (i) 8 (by omega) hi rfl rfl rfl) ?_;refine a0v (fun _ m=>m.keeps (.cons _ (.refl _))) ?_;refine a2P 9 13 (by kernel_rfl) rfl rfl ?_ ?_
   ·refine a0a (a2o _ p.life.km u.km) rfl rfl ?_;refine a0v (fun _ m=>m.keeps (.cons _ (.refl _))) ?_;refine a0i 13 (by kernel_rfl) rfl ?_;refine a0s rfl (a2s (p.life.cycles.cells) m0 hU he rfl (i) 10 (by omega) hi rfl rfl rfl) ?_;refine a0v (fun _ m=>m.keeps (.cons _ (.refl _))) ?_;refine a0i 16 (by kernel_rfl) rfl ?_;refine a0a (a2o _ p.life.cycles u.cycles) rfl rfl ?_;refine a0v (fun _ m=>m.keeps (.cons _ (.refl _))) ?_;refine a0i 22 (by kernel_rfl) rfl ?_;refine a0a (a2o _ p.life.damage dd) rfl rfl ?_;refine a0v (fun _ m=>m.keeps (.cons _ (.refl _))) ?_;refine a0g 23 rfl rfl (by kernel_rfl) rfl (.cons _ (.refl _)) rfl (a0j rfl) ?_;refine a0g 24 rfl rfl (by kernel_rfl) rfl (.cons _ (.refl _)) rfl (a0e he rfl) ?_;refine a0i 25 (by kernel_rfl) rfl ?_;refine a1f _ _ (by first|exact hU|exact hU.set rfl _|exact (hU.set rfl _).set rfl _) he rfl rfl rfl rfl rfl (i) 8 (by omega) (by first|exact hi|exact a0k hi|exact a0k (a0k hi)) (by decide) rfl ?_;refine a0v (fun _ m=>m.keeps (.cons _ (.refl _))) ?_;refine a0g 26 rfl rfl (by kernel_rfl) rfl (.cons _ (.refl _)) rfl (a0j rfl) ?_;refine a0g 27 rfl rfl (by kernel_rfl) rfl (.cons _ (.refl _)) rfl (a0e he rfl) ?_;refine a0i 28 (by kernel_rfl) rfl ?_;refine a1f _ _ (by first|exact hU|exact hU.set rfl _|exact (hU.set rfl _).set rfl _) he rfl rfl rfl rfl rfl (i) 10 (by omega) (by first|exact hi|exact a0k hi|exact a0k (a0k hi)) (by decide) rfl ?_;refine a0v (fun _ m=>m.keeps (.cons _ (.refl _))) ?_;refine a0g 29 rfl rfl (by kernel_rfl) rfl (.cons _ (.refl _)) rfl (a0j rfl) ?_;refine a0g 30 rfl rfl (by kernel_rfl) rfl (.cons _ (.refl _)) rfl (a0e he rfl) ?_;refine a0i 31 (by kernel_rfl) rfl ?_;refine a1f _ _ (by first|exact hU|exact hU.set rfl _|exact (hU.set rfl _).set rfl _) he rfl rfl rfl rfl rfl (i) 12 (by omega) (by first|exact hi|exact a0k hi|exact a0k (a0k hi)) (by decide) rfl ?_;refine a0v (fun _ m=>m.keeps (.cons _ (.refl _))) ?_;refine a0w (by kernel_rfl) ?_;refine a4w rfl ?_;refine a0f ?_;refine a0b ?_;refine a0f ?_;refine a0b ?_;exact b4a (by rw[List.set_set,List.set_set];rfl)
   ·refine a0s rfl (a2s (p.life.cycles.cells) m0 hU he rfl (i) 10 (by omega) hi rfl rfl rfl) ?_;refine a0v (fun _ m=>m.keeps (.cons _ (.refl _))) ?_;refine a0i 9 (by kernel_rfl) rfl ?_;refine a0a (a2o _ p.life.km u.km) rfl rfl ?_;refine a0v (fun _ m=>m.keeps (.cons _ (.refl _))) ?_;refine a0i 16 (by kernel_rfl) rfl ?_;refine a0a (a2o _ p.life.cycles u.cycles) rfl rfl ?_;refine a0v (fun _ m=>m.keeps (.cons _ (.refl _))) ?_;refine a0i 22 (by kernel_rfl) rfl ?_;refine a0a (a2o _ p.life.damage dd) rfl rfl ?_;refine a0v (fun _ m=>m.keeps (.cons _ (.refl _))) ?_;refine a0g 23 rfl rfl (by kernel_rfl) rfl (.cons _ (.refl _)) rfl (a0j rfl) ?_;refine a0g 24 rfl rfl (by kernel_rfl) rfl (.cons _ (.refl _)) rfl (a0e he rfl) ?_;refine a0i 25 (by kernel_rfl) rfl ?_;refine a1f _ _ (by first|exact hU|exact hU.set rfl _|exact (hU.set rfl _).set rfl _) he rfl rfl rfl rfl rfl (i) 8 (by omega) (by first|exact hi|exact a0k hi|exact a0k (a0k hi)) (by decide) rfl ?_;refine a0v (fun _ m=>m.keeps (.cons _ (.refl _))) ?_;refine a0g 26 rfl rfl (by kernel_rfl) rfl (.cons _ (.refl _)) rfl (a0j rfl) ?_;refine a0g 27 rfl rfl (by kernel_rfl) rfl (.cons _ (.refl _)) rfl (a0e he rfl) ?_;refine a0i 28 (by kernel_rfl) rfl ?_;refine a1f _ _ (by first|exact hU|exact hU.set rfl _|exact (hU.set rfl _).set rfl _) he rfl rfl rfl rfl rfl (i) 10 (by omega) (by first|exact hi|exact a0k hi|exact a0k (a0k hi)) (by decide) rfl ?_;refine a0v (fun _ m=>m.keeps (.cons _ (.refl _))) ?_;refine a0g 29 rfl rfl (by kernel_rfl) rfl (.cons _ (.refl _)) rfl (a0j rfl) ?_;refine a0g 30 rfl rfl (by kernel_rfl) rfl (.cons _ (.refl _)) rfl (a0e he rfl) ?_;refine a0i 31 (by kernel_rfl) rfl ?_;refine a1f _ _ (by first|exact hU|exact hU.set rfl _|exact (hU.set rfl _).set rfl _) he rfl rfl rfl rfl rfl (i) 12 (by omega) (by first|exact hi|exact a0k hi|exact a0k (a0k hi)) (by decide) rfl ?_;refine a0v (fun _ m=>m.keeps (.cons _ (.refl _))) ?_;refine a0w (by kernel_rfl) ?_;refine a4w rfl ?_;refine a0f ?_;refine a0b ?_;refine a0f ?_;refine a0b ?_;exact b4a (by rw[List.set_set,List.set_set];rfl)
  ·refine a0s rfl (a2s (p.life.cycles.cells) m0 hU he rfl (i) 10 (by omega) hi rfl rfl rfl) ?_;refine a0v (fun _ m=>m.keeps (.cons _ (.refl _))) ?_;refine a0i 6 (by kernel_rfl) rfl ?_;refine a0s rfl (a2s (p.life.km.cells) m0 hU he rfl (i) 8 (by omega) hi rfl rfl rfl) ?_;refine a0v (fun _ m=>m.keeps (.cons _ (.refl _))) ?_;refine a0i 9 (by kernel_rfl) rfl ?_;refine a0a (a2o _ p.life.km u.km) rfl rfl ?_;refine a0v (fun _ m=>m.keeps (.cons _ (.refl _))) ?_;refine a0i 16 (by kernel_rfl) rfl ?_;refine a0a (a2o _ p.life.cycles u.cycles) rfl rfl ?_;refine a0v (fun _ m=>m.keeps (.cons _ (.refl _))) ?_;refine a0i 22 (by kernel_rfl) rfl ?_;refine a0a (a2o _ p.life.damage dd) rfl rfl ?_;refine a0v (fun _ m=>m.keeps (.cons _ (.refl _))) ?_;refine a0g 23 rfl rfl (by kernel_rfl) rfl (.cons _ (.refl _)) rfl (a0j rfl) ?_;refine a0g 24 rfl rfl (by kernel_rfl) rfl (.cons _ (.refl _)) rfl (a0e he rfl) ?_;refine a0i 25 (by kernel_rfl) rfl ?_;refine a1f _ _ (by first|exact hU|exact hU.set rfl _|exact (hU.set rfl _).set rfl _) he rfl rfl rfl rfl rfl (i) 8 (by omega) (by first|exact hi|exact a0k hi|exact a0k (a0k hi)) (by decide) rfl ?_;refine a0v (fun _ m=>m.keeps (.cons _ (.refl _))) ?_;refine a0g 26 rfl rfl (by kernel_rfl) rfl (.cons _ (.refl _)) rfl (a0j rfl) ?_;refine a0g 27 rfl rfl (by kernel_rfl) rfl (.cons _ (.refl _)) rfl (a0e he rfl) ?_;refine a0i 28 (by kernel_rfl) rfl ?_;refine a1f _ _ (by first|exact hU|exact hU.set rfl _|exact (hU.set rfl _).set rfl _) he rfl rfl rfl rfl rfl (i) 10 (by omega) (by first|exact hi|exact a0k hi|exact a0k (a0k hi)) (by decide) rfl ?_;refine a0v (fun _ m=>m.keeps (.cons _ (.refl _))) ?_;refine a0g 29 rfl rfl (by kernel_rfl) rfl (.cons _ (.refl _)) rfl (a0j rfl) ?_;refine a0g 30 rfl rfl (by kernel_rfl) rfl (.cons _ (.refl _)) rfl (a0e he rfl) ?_;refine a0i 31 (by kernel_rfl) rfl ?_;refine a1f _ _ (by first|exact hU|exact hU.set rfl _|exact (hU.set rfl _).set rfl _) he rfl rfl rfl rfl rfl (i) 12 (by omega) (by first|exact hi|exact a0k hi|exact a0k (a0k hi)) (by decide) rfl ?_;refine a0v (fun _ m=>m.keeps (.cons _ (.refl _))) ?_;refine a0w (by kernel_rfl) ?_;refine a4w rfl ?_;refine a0f ?_;refine a0b ?_;refine a0f ?_;refine a0b ?_;exact b4a (by rw[List.set_set,List.set_set];rfl)
theorem c0Y (I:IMap) (x:Evt) (g:Nat) (day:Int) (cg:ICells I g 0 [ci day]) :
    FnV Tryz.prog 89 #[.agg (Day.ch x).toArray,.pointer (some ⟨g,0,none⟩)] I (.bool (decide (x.day>day))):=by
 refine enter Tryz.func89 Tryz.call89 rfl Tryz.ntmps89 rfl (fun w0=>?_)
 show SX _ _ _ (b1M [.agg x.cells.toArray,.pointer (some ⟨g,0,none⟩)] 0) _ _
 refine go 3 ?_;refine a0y _ rfl rfl rfl (fun g2=>?_);refine go 7 ?_;refine o_v rfl (a0V he rfl (cg 0 _ rfl)) ?_;refine go 5 ?_;refine a0u rfl rfl ?_;exact q_v rfl
theorem b5o (I:IMap) (vc:Value) (c:List Kind) (hvc:RdS I vc c) (hsc:SmC c) (f:Fm) (sf:Value) (hf:FmRd I [ci f.op,ci f.n,sf] f) (v:Value) (l:List Evt) (hv:RdS I v l) (hl:l.length≤25) (hse:∀e∈l,SmE e) (day:Int) :
    FnI Tryz.prog 44 #[.agg #[vc,ci f.op,ci f.n,sf],v,.int .i64 day] I (fun u J=>∃w,u = .tuple #[.agg #[w],.int .i64 (runL f c l day).2.1,.int .i64 (runL f c l day).2.2]∧RdS J w (runL f c l day).1):=by
 obtain⟨U,hUe⟩:∃U,a1n (l.filter fun e=>!decide (e.day>day))=U:=⟨_,rfl⟩
 have hUl:U.length≤25:=by rw[←hUe,a4b];exact Nat.le_trans (List.length_filter_le _ _) hl
 have hUs:∀e∈U,SmE e:=fun e he=>hse e (List.mem_filter.1 (a5t.1 (hUe▸he))).1
 refine enter Tryz.func44 Tryz.call44 rfl Tryz.ntmps44 rfl (fun w0=>?_);refine go 3 ?_;refine a0y _ rfl rfl rfl (fun g3=>?_);refine go 1 ?_;refine a0y _ rfl rfl rfl (fun g5=>?_);refine go 1 ?_;refine a0h he rfl (fun g6=>?_);refine go 6 ?_;refine a2C (I':=I) (L':=[(1,v),(3,.pointer (some ⟨g3,0,none⟩)),(5,.pointer (some ⟨g5,0,none⟩)),(6,.pointer (some ⟨g6,0,none⟩)),(27,.bool (!a0Y c || !a1H f))]) (H':=[.blk g3 72 [vc,ci f.op,ci f.n,sf],.blk g5 3 [ci day],.blk g6 53 [.slice none 0 0]]) ?_ ?_
 ·refine go 2 ?_;refine o_v rfl (a1W ([vc]) m2 he rfl rfl rfl) ?_;refine go 1 ?_;refine a0a (a8H _ vc c hvc hsc) rfl rfl ?_;refine go 2 ?_;refine sxb 22 rfl (fun h22 p22=>?_) (fun h22 p22=>?_)
  ·refine go 7 ?_;refine a0f ?_;refine a0r ?_;exact a0D ⟨rfl,rfl,rfl,rfl,(congrArg (fun b=>some (Value.bool b)) (by simp only[h22,bS])),trivial⟩ rfl rfl
  ·refine go 1 ?_;refine a0H (a0E rfl rfl h22 (a0s rfl (a1W ([ci f.op,ci f.n,sf]) m2 he rfl rfl rfl) ?_));refine go 1 ?_;refine a0E rfl rfl h22 (a0a (c0x _ f _ hf) rfl rfl ?_);refine go 4 ?_;refine a0f ?_;refine a0r ?_;exact a0D ⟨rfl,rfl,rfl,rfl,(congrArg (fun b=>some (Value.bool b)) (by simp only[h22,bS])),trivial⟩ rfl rfl
 ·refine cb rfl (fun h27 p27=>?_) (fun h27 p27=>?_)
  ·refine go 3 ?_;refine a0s rfl (a0z (pl:=[(0,1)]) he he rfl rfl) ?_;refine go 1 ?_;refine a0r ?_;refine a0p _ he rfl rfl rfl rfl rfl rfl ?_;refine go 6 ?_;refine c3O rfl ⟨_,_,_,rfl,m0,.inr ⟨_,he,rfl,rfl⟩⟩ rfl rfl ?_;exact q_i ⟨_,by rw[b7I h27],by rw[b7I h27];exact RdS.nil'⟩
  ·refine go 6 ?_;refine a0f ?_;refine a2m (fun Ig5 jg5 cg5=>?_)
   have hvc:=hvc.le jg5
   have hv:=hv.le jg5
   have hf:=hf.le jg5
   refine a2Z (b9T _ v l hv (by omega)) rfl rfl (fun v30 s30 q30=>?_);obtain⟨xss,rfl,hx⟩:=q30;obtain rfl:=c0j hx;refine o_v rfl (a1b rfl rfl) ?_;refine go 1 ?_;refine c8m (b0v _ _ l (by omega) 89 [.pointer (some ⟨g5,0,none⟩)] (fun x=>decide (x.day>day)) (fun I2 hI2 x=>c0Y I2 x g5 day (cg5.le hI2))) rfl rfl (fun v32 I32 j32 q32=>?_)
   have hvc:=hvc.le j32
   have hf:=hf.le j32
   refine go 6 ?_;refine a0h he rfl (fun g10=>?_);refine go 7 ?_;refine a1e (d2x _ _ (l.filter fun e=>!decide (e.day>day)) q32 (Nat.le_trans (List.length_filter_le _ _) (by omega))) rfl rfl (fun v34 I34 j34 q34=>?_)
   have hvc:=hvc.le j34
   have hf:=hf.le j34
   rw[hUe]at q34
   have R34:=q34
   obtain⟨A34,c34,rfl,hA34,_,_⟩:=q34;refine go 5 ?_;refine a0f ?_;refine a0r ?_;refine a0r ?_
   refine a4c ((0:Nat)) ([]) (.slice none 0 0) (I34) (fun i st v10 J=>J)
    (fun i st v10 J=>[(3,.pointer (some ⟨g3,0,none⟩)),(6,.pointer (some ⟨g6,0,none⟩)),(10,.pointer (some ⟨g10,0,none⟩)),(34,.slice A34 U.length c34),(35,.int .i64 ((U.length:Nat):Int)),(36,.int .i64 ((i:Nat):Int))])
    (fun i st v10 J=>[.blk g10 53 [v10],.blk g6 53 [.slice none 0 0],.blk g3 72 [vc,ci f.op,ci f.n,sf]])
    (fun i st v10 J=>i≤U.length∧ILe I34 J∧RdS J v10 st∧SmF st∧b0N st≤i∧runLGo f c st (i:Nat) (U.drop i)=runL f c l day)
    (fun i st v10 J=>U.length-i) ⟨Nat.zero_le _,ILe.refl _,RdS.nil',SmF.nil,Nat.le_refl _,by rw[c8R h27,hUe];rfl⟩ rfl sb rfl ?_
   intro i st v10 J ⟨hi,hJ,hv10,hsf,hcn,hgo⟩
   have hvc:=hvc.le hJ
   have hf:=hf.le hJ
   have hA34:=hA34.le hJ
   refine go 6 ?_;refine cb rfl (fun h37 p37=>?_) (fun h37 p37=>?_)
   ·have hlt:i<U.length:=by omega
    refine go 7 ?_;obtain⟨b39,o39,w39,e39,c39,r39⟩:=RdA.at_ hA34 (i:=i) (by omega);obtain rfl:=r39;refine o_v rfl (a0m he rfl rfl e39 (i) (by omega) (by omega)) ?_;refine o_v rfl (a0G he rfl c39 rfl) ?_;refine go 1 ?_;refine a0h he rfl (fun g12=>?_);refine go 2 ?_;refine a0p _ he rfl rfl rfl rfl rfl rfl ?_;refine go 5 ?_;refine o_v rfl (a1W ([vc]) m3 he rfl rfl rfl) ?_;refine go 3 ?_;refine a1e (c0t _ vc c hvc hsc v10 st hv10 hsf U[i] (hUs _ (List.getElem_mem hlt))) rfl rfl (fun v46 I46 j46 q46=>?_)
    have hvc:=hvc.le j46
    have hf:=hf.le j46
    have hA34:=hA34.le j46
    obtain⟨w46,rfl,hw46⟩:=q46;refine go 4 ?_;refine a0h he rfl (fun g13=>?_);refine go 1 ?_;refine a0p _ he rfl rfl rfl rfl rfl (by simp[RdS.one hw46]) ?_;refine go 10 ?_;refine cb rfl (fun h50 p50=>?_) (fun h50 p50=>?_)
    ·refine go 3 ?_;refine a0s rfl (a0z (pl:=[(0,1)]) he he rfl rfl) ?_;refine go 3 ?_;refine a1c ?_;refine a0p _ he rfl rfl rfl rfl rfl rfl ?_;refine go 11 ?_;refine c3O rfl ⟨_,_,_,rfl,m0,.inr ⟨_,he,rfl,rfl⟩⟩ rfl rfl ?_
     have hr:runL f c l day=([],((i:Nat):Int),(a0n c st U[i]).2):=by rw[←hgo,c3X hlt p50]
     exact q_i ⟨_,by rw[hr]<;>rfl,by rw[hr];exact RdS.nil'⟩
    ·have h0:(a0n c st U[i]).2=0:=by simpa using h50
     have hsm:=b2N (c:=c) hsf (hUs _ (List.getElem_mem hlt))
     have hc1:=b9X h0
     have hc2:(a0n c st U[i]).1.length+b8x (a0n c st U[i]).1≤i+1:=by unfold b0N at *;omega
     have hfl:b8x (a0n c st U[i]).1≤(a0n c st U[i]).1.length:=List.length_filter_le _ _
     have hfn:b8x (a0n c st U[i]).1≤12:=by omega
     refine go 7 ?_;refine a0r ?_;refine a0p _ he rfl rfl rfl rfl rfl (by simp[RdS.one hw46]) ?_;refine go 9 ?_;refine cb rfl (fun h57 p57=>?_) (fun h57 p57=>?_)
     ·refine go 9 ?_;refine a0f ?_;refine a0b ?_;refine a0f ?_;refine a0b ?_;exact a2y (i+1) ((a0n c st U[i]).1) (w46) (I46) ⟨by omega,hJ.trans j46,hw46,hsm,by omega,(c0F hlt h0 p57).symm.trans hgo⟩ (by omega) rfl sb rfl
     ·have h4:U[i].op=4:=by simpa using h57
      refine go 3 ?_;refine b9Q (Ix:=(fun v15 ns ys=>I46)) (Lx:=(fun v15 ns ys=>[(3,.pointer (some ⟨g3,0,none⟩)),(6,.pointer (some ⟨g6,0,none⟩)),(10,.pointer (some ⟨g10,0,none⟩)),(34,.slice A34 U.length c34),(35,.int .i64 ((U.length:Nat):Int)),(36,.int .i64 ((i:Nat):Int)),(12,.pointer (some ⟨g12,0,none⟩)),(15,v15)])) (Hx:=(fun v15 ns ys=>[.row v15 9 1 (ns++[U[i].part]).length ys,.blk g10 53 [w46],.blk g12 96 U[i].cells,.blk g6 53 [.slice none 0 0],.blk g3 72 [vc,ci f.op,ci f.n,sf]])) (p:=(fun v15 ns ys=>Flat I46 ys (ns++[U[i].part])∧∀n,n∈ns↔b1H (a0n c st U[i]).1 U[i].part n)) ?_ ?_
      ·refine a1p T.mixed ?_;refine a0g 0 rfl rfl (by kernel_rfl) rfl (.refl _) rfl (a4k m0 he rfl rfl) ?_;refine a0g 1 rfl rfl (by kernel_rfl) rfl (.refl _) rfl (a0e he rfl) ?_;refine a0g 2 rfl rfl (by kernel_rfl) rfl (.refl _) rfl (a6x m2 he rfl rfl) ?_;refine a0g 4 rfl rfl (by kernel_rfl) rfl (.refl _) rfl (a0e he rfl) ?_;refine a0g 5 rfl rfl (by kernel_rfl) rfl (.refl _) rfl (a6x m2 he rfl rfl) ?_;refine a2P 3 6 (by kernel_rfl) rfl rfl ?_ ?_
       ·refine a2Z (b6E _ _ (a0n c st U[i]).1 hw46 U[i].part hfn) rfl rfl (fun v61 s61 q61=>?_);obtain⟨ns,rfl,hns,hnl⟩:=q61;refine a0v (fun _ m=>m.keeps (.cons _ (.refl _))) ?_;refine a0i 6 (by kernel_rfl) rfl ?_;refine a0d he he rfl rfl rfl rfl rfl rfl rfl (fun v64=>?_);refine a0v (fun _ m=>m.keeps (.cons _ (.cons _ (.refl _)))) ?_;refine a0i 7 (by kernel_rfl) rfl ?_;refine a0f ?_;refine a1h he he rfl rfl rfl rfl rfl (by omega) (by omega) rfl (fun v65=>?_);refine a0v (fun _ m=>m.keeps (.cons _ (.cons _ (.refl _)))) ?_;refine a0g 8 rfl rfl (by kernel_rfl) rfl (.cons _ (.cons _ (.refl _))) rfl (a0P rfl) ?_;refine a0w (by kernel_rfl) ?_;refine go 1 ?_;refine a0f ?_;refine a0b ?_;refine a0r ?_;refine a0b ?_;exact a5D (_) (ns) (_) ⟨(a7y _ ns).flat.append (.one rfl),hns⟩ sb (by rw[List.length_append];rfl) rfl
       ·refine a0d he he rfl rfl rfl rfl rfl rfl rfl (fun v64=>?_);refine a0v (fun _ m=>m.keeps (.cons _ (.refl _))) ?_;refine a0i 3 (by kernel_rfl) rfl ?_;refine a2Z (b6E _ _ (a0n c st U[i]).1 hw46 U[i].part hfn) rfl rfl (fun v61 s61 q61=>?_);obtain⟨ns,rfl,hns,hnl⟩:=q61;refine a0v (fun _ m=>m.keeps (.cons _ (.cons _ (.refl _)))) ?_;refine a0i 7 (by kernel_rfl) rfl ?_;refine a0f ?_;refine a0f ?_;refine a1h he he rfl rfl rfl rfl rfl (by omega) (by omega) rfl (fun v65=>?_);refine a0v (fun _ m=>m.keeps (.cons _ (.cons _ (.refl _)))) ?_;refine a0g 8 rfl rfl (by kernel_rfl) rfl (.cons _ (.cons _ (.refl _))) rfl (a0P rfl) ?_;refine a0w (by kernel_rfl) ?_;refine go 1 ?_;refine a0f ?_;refine a0b ?_;refine a0r ?_;refine a0b ?_;exact a5D (_) (ns) (_) ⟨(a7y _ ns).flat.append (.one rfl),hns⟩ sb (by rw[List.length_append];rfl) rfl
      ·intro v15 ns ys ⟨hF15,hns⟩;refine go 2 ?_;refine a0l (l:=(ns++[U[i].part])) rfl rfl (hF15) (fun I66 j66 R66=>?_)
       have hvc:=hvc.le j66
       have hf:=hf.le j66
       have hA34:=hA34.le j66
       have hw46:=hw46.le j66
       have R66s:=R66
       obtain⟨A15,c15,rfl,_,_,_⟩:=R66s;refine go 1 ?_;refine o_v rfl (a1W ([ci f.op,ci f.n,sf]) m3 he rfl rfl rfl) ?_;refine go 1 ?_;refine o_v rfl (a1W (U[i].use.cells) m1 he rfl rfl rfl) ?_;refine go 1 ?_;refine a0a (c3V _ f _ hf U[i].use) rfl rfl ?_;refine go 1 ?_;refine a0h he rfl (fun g16=>?_);refine go 1 ?_;refine a0p _ he rfl rfl rfl rfl rfl rfl ?_;refine go 7 ?_;refine a2Z (b0L _ _ (a0n c st U[i]).1 hw46 (by omega)) rfl rfl (fun v73 s73 q73=>?_);obtain⟨xss,rfl,hx⟩:=q73
       have hpos:0<(a0n c st U[i]).1.length:=by rw[a6T h0 h4];exact c8S h0 h4
       refine a7A hx.uk hx.len (fun h9 _=>absurd h9 (by omega)) (fun g73 cap73 rest73 e73 hR73 hc73 hm73=>?_);subst e73;refine go 2 ?_;refine a0r ?_;refine a2k he rfl rfl rfl rfl ?_;refine go 11 ?_;refine b2V ?_;refine b2V ?_;refine b2V ?_;refine a1c ?_;refine b2V ?_;refine b2V ?_
       refine a1u ((0:Nat)) (xss) (fun k xss=>I66)
        (fun k xss=>[(3,.pointer (some ⟨g3,0,none⟩)),(6,.pointer (some ⟨g6,0,none⟩)),(10,.pointer (some ⟨g10,0,none⟩)),(34,.slice A34 U.length c34),(35,.int .i64 ((U.length:Nat):Int)),(36,.int .i64 ((i:Nat):Int)),(12,.pointer (some ⟨g12,0,none⟩)),(15,.slice A15 (ns++[U[i].part]).length c15),(16,.pointer (some ⟨g16,0,none⟩)),(77,.int .i64 (((a0n c st U[i]).1.length:Nat):Int)),(78,.int .i64 ((k:Nat):Int))])
        (fun k xss=>[.blk g73 48 (xss++rest73).flatten,.blk g16 44 (b0r f U[i].use).cells,.blk g10 53 [.slice (some ⟨g73,0,none⟩) (a0n c st U[i]).1.length cap73],.blk g12 96 U[i].cells,.blk g6 53 [.slice none 0 0],.blk g3 72 [vc,ci f.op,ci f.n,sf]])
        (fun k xss=>k≤(a0n c st U[i]).1.length∧FlatC I66 xss (useUp (a0n c st U[i]).1 U[i] (b0r f U[i].use) k))
        (fun k xss=>(a0n c st U[i]).1.length-k) ⟨Nat.zero_le _,by rw[b9m];exact hx⟩ rfl sb rfl ?_
       intro k xss ⟨hk,hx⟩;refine go 6 ?_;refine cb rfl (fun h79 p79=>?_) (fun h79 p79=>?_)
       ·have hlk:k<(a0n c st U[i]).1.length:=by omega
        have hlx:k<xss.length:=by rw[hx.len,b4t];exact hlk
        obtain⟨q,hkc,hq⟩:=c3t hx (b7V hlk) rest73
        have hU14:Uk 14 (xss++rest73):=hx.uk.append hR73
        refine go 16 ?_;refine o_v rfl (a0m he rfl rfl rfl (k) (by omega) (by omega)) ?_;refine go 1 ?_;refine o_v rfl (b7Y m0 hU14 he rfl (k) 0 (by omega) hkc rfl) ?_;refine go 1 ?_;refine a0a (a4B _ _ (ns++[U[i].part]) R66 _) rfl rfl ?_;refine go 2 ?_;refine cb rfl (fun h88 p88=>?_) (fun h88 p88=>?_)
        ·refine a1r T.mixed ?_;refine a0g 0 rfl rfl (by kernel_rfl) rfl (.cons _ (.refl _)) rfl (a0e he rfl) ?_;refine a0g 1 rfl rfl (by kernel_rfl) rfl (.cons _ (.refl _)) rfl (a6x m1 he rfl rfl) ?_;refine a0g 2 rfl rfl (by kernel_rfl) rfl (.cons _ (.refl _)) rfl (a0c rfl) ?_;refine a0g 3 rfl rfl (by kernel_rfl) rfl (.cons _ (.refl _)) rfl (a0m he rfl rfl rfl (k) (by omega) (by omega)) ?_;refine a0g 4 rfl rfl (by kernel_rfl) rfl (.cons _ (.refl _)) rfl (a0e he rfl) ?_;refine a0g 5 rfl rfl (by kernel_rfl) rfl (.cons _ (.refl _)) rfl (a0e he rfl) ?_;refine a0g 6 rfl rfl (by kernel_rfl) rfl (.cons _ (.refl _)) rfl (a1W (U[i].use.cells) m2 he rfl rfl rfl) ?_;refine a0g 7 rfl rfl (by kernel_rfl) rfl (.cons _ (.refl _)) rfl (a4k m0 he rfl rfl) ?_;refine a0i 8 (by kernel_rfl) rfl ?_;refine a4F (c8c _ g73 48 k hU14 (a0n c st U[i]).1[k] q hkc U[i].use (b0r f U[i].use) _ (by omega)) rfl rfl ?_;refine a0v (fun _ m=>m.keeps (.cons _ (.refl _))) ?_;refine a0w (by kernel_rfl) ?_;refine go 7 ?_;exact a0L (k+1) (_) ⟨by omega,by rw[b1A hlk,c5y hlk hns p88];exact hx.set (x:=a9h (b0r f U[i].use) U[i].use (a0n c st U[i]).1[k]) ⟨q,rfl,hq⟩ k⟩ (by omega) rfl sb (by rw[List.set_append_left _ _ hlx])
        ·refine go 8 ?_;exact a0L (k+1) (_) ⟨by omega,by rw[c5w hlk hns p88];exact hx⟩ (by omega) rfl sb rfl
       ·obtain rfl:k=(a0n c st U[i]).1.length:=by omega
        rw[c2v]at hx
        refine a2z hx.uk hR73 (by rw[hx.len,use_len]) hc73 hm73 ?_;refine a0l (l:=useL (a0n c st U[i]).1 U[i] (b0r f U[i].use)) rfl use_len.symm hx.flat (fun I9 j9 R9=>?_);refine go 11 ?_;refine a0b ?_;refine a0f ?_;refine a0b ?_;exact a2y (i+1) (useL (a0n c st U[i]).1 U[i] (b0r f U[i].use)) (_) (I9) ⟨by omega,hJ.trans (j46.trans (j66.trans j9)),R9,d1I hsm,by rw[c7k];omega,(c7M hlt h0 h4).symm.trans hgo⟩ (by omega) rfl sb rfl
   ·refine go 9 ?_;refine a0f ?_;refine a0p _ he rfl rfl rfl rfl rfl (by simp[RdS.one hv10]) ?_;refine go 5 ?_;refine c3O rfl ⟨_,_,_,rfl,m0,.inr ⟨_,he,rfl,rfl⟩⟩ rfl rfl ?_
    have hr:runL f c l day=(st,-1,0):=by rw[←hgo,c7L (by omega)]
    exact q_i ⟨_,by rw[hr]<;>rfl,by rw[hr];exact hv10⟩
end Go.Proofs.YtdapmfkbpnjkmaaGreat
set_option linter.all false
namespace Go.Sx
open Go
def sKm:ByteArray:=⟨#[107,109]⟩
def a2T:ByteArray:=⟨#[99,121,99,108,101,115]⟩
def a3e:ByteArray:=⟨#[100,97,109,97,103,101]⟩
def a8b:ByteArray:=⟨#[100,97,121,115]⟩
def c1X:ByteArray:=⟨#[97,103,101]⟩
def c5V:List ByteArray:=[sKm,a2T,a3e,a8b,c1X]
def a7i (s:ByteArray):Bool:=decide (s∈c5V)
def b0f (day a:Int):Ivl:=if a≥day then a4l else ⟨day-max a (day-(1000000000000:Int)),day-max a (day-(1000000000000:Int))⟩
def c2S (p:Part) (s:ByteArray) (day:Int):Ivl:=if s=sKm then p.life.km else if s=a2T then p.life.cycles else if s=a3e then p.life.damage else if s=a8b then b0f day p.since else b0f day p.made
def a7C (p:Part) (s:ByteArray) (day:Int):Ivl×Int:=if a7i s=false then (a4l,15) else if (decide (day<0)||decide (day>40000))=true then (a4l,13) else (c2S p s day,0)
section
variable {p:Part} {s:ByteArray} {day:Int}
theorem c5E (h:a7i s=false):a7C p s day=(a4l,15):=if_pos h
theorem c2K (h:a7i s=true) (hd:(decide (day<0)||decide (day>40000))=true):a7C p s day=(a4l,13):=by unfold a7C;rw[if_neg (by rw[h];decide),if_pos hd]
theorem b4A (h:a7i s=true) (hd:(decide (day<0)||decide (day>40000))=false):a7C p s day=(c2S p s day,0):=by unfold a7C;rw[if_neg (by rw[h];decide),if_neg (by rw[hd];decide)]
theorem b6q (v1 v2 v3 v4 v5:Value) (s:ByteArray):a4U [(sKm,v1),(a2T,v2),(a3e,v3),(a8b,v4),(c1X,v5)] s=if s=sKm then some v1 else if s=a2T then some v2 else if s=a3e then some v3 else if s=a8b then some v4 else if s=c1X then some v5 else none:=by
 simp only[a4U]
 simp only[eq_comm (b:=s)]
theorem b3b (s:ByteArray):(s=sKm∨s=a2T∨s=a3e∨s=a8b∨s=c1X)∨a7i s=false:=by
 cases h:a7i s with
 |false=>exact .inr rfl
 |true=>
  left
  have h1:s∈c5V:=of_decide_eq_true h
  simpa[c5V]using h1
theorem d0n:(sKm≠a2T∧sKm≠a3e∧sKm≠a8b∧sKm≠c1X)∧(a2T≠a3e∧a2T≠a8b∧a2T≠c1X)∧(a3e≠a8b∧a3e≠c1X)∧a8b≠c1X:=by decide +kernel
end
section
variable {P:Program} {ρ:Option Nat} {n:Sz} {E:Ent} {I I':IMap} {L:LL} {H H0:List Res} {Q:Exit→Act→World→Prop} {ops:Array Oper} {K:Act→World→Prop}
variable {d ty:Nat} {pos:String} {af:Array Edge} {fo x y z:Operand} {as_:List Operand} {ats:Array TypeId} {f:FuncId} {args:List Value}
theorem a7p {κ:Type} [DecidableEq κ] {enc:κ→Value} {mt kt et r:Nat} {v:Value} {kvs:List (κ×Value)} (kvs':List (κ×Value)) (hK:KeyOK P kt enc) (ht:P.underlying mt=some (.map kt et)) (key:κ) (hx:ev L x=some (.map (some r))) (hy:ev L y=some (enc key)) (hv:ev L z=some v)
  (he:a5J kvs key v=kvs') (k:SX n E I L (.mp r (a2t enc kvs')::H) K):SX n E I L (.mp r (a2t enc kvs)::H) (one P ops Q ⟨none,.insert mt x y z,ty,pos,af,none⟩ K):=by
 intro a w st mm
 have h1:=a4s (P:=P) (n:=n) (E:=E) (I:=I) (L:=L) (H:=H) (Q:=Q) (ops:=ops) (K:=K) (ty:=ty) (pos:=pos) (af:=af) kvs' hK ht key hx hy hv he k a w st mm
 exact h1
end
end Go.Sx
namespace Go.Proofs.YtdapmfkbpnjkmaaGreat
open Go Go.Sx
set_option linter.all false
set_option maxRecDepth 20000
set_option maxHeartbeats 4000000
instance T.ty_240:Has (tyK Tryz.prog 240) (false,1):=⟨by kernel_rfl⟩
instance T.und_162:Has (Tryz.prog.underlying 162) (.map 9 160):=⟨by kernel_rfl⟩
instance T.zero_240:Has (a2e Tryz.prog 240) [.nilFunc]:=⟨by kernel_rfl⟩
instance T.zv_160:Has (zvK Tryz.prog 160) (.nilFunc):=⟨by kernel_rfl⟩
theorem b3x (I:IMap) (day a:Int) (hd:0≤day∧day≤40000) :
    FnV Tryz.prog 161 #[.int .i64 (day),.int .i64 (a)] I (.agg (b0f day a).cells.toArray):=by
 refine enter Tryz.func161 Tryz.call161 rfl Tryz.ntmps161 rfl (fun w0=>?_);refine go 3 ?_;refine a0h he rfl (fun g4=>?_);refine go 10 ?_;refine cb rfl (fun h8 p8=>?_) (fun h8 p8=>?_)
 ·refine go 3 ?_;refine a0s rfl (a0z (pl:=[(0,1),(1,1)]) he he rfl rfl) ?_;refine go 1 ?_;refine a0p _ he rfl rfl rfl rfl rfl rfl ?_;refine go 4 ?_;refine a0u rfl ⟨_,_,_,rfl,m0,.inr ⟨_,he,rfl,rfl⟩⟩ ?_;exact q_v (by unfold b0f;rw[if_pos p8];rfl)
 ·refine go 8 ?_;refine o_v rfl (OV.cast (u:=.int .i64 (max a (day-(1000000000000:Int)))) (a5I rfl rfl) (congrArg (Value.int .i64) (by omega))) ?_;refine go 9 ?_;refine a0s rfl (a0z (pl:=[(0,1),(1,1)]) he he rfl rfl) ?_;refine go 1 ?_;refine a0p _ he rfl rfl rfl rfl rfl rfl ?_;refine go 3 ?_;refine a0u rfl ⟨_,_,_,rfl,m0,.inr ⟨_,he,rfl,rfl⟩⟩ ?_;exact q_v (by unfold b0f;rw[if_neg p8];rfl)
theorem d0m (I:IMap) (p:Part) (q:Value) (day:Int) (hd:0≤day∧day≤40000) :
    FnV Tryz.prog 162 #[.agg (p.cells q).toArray,.int .i64 (day)] I (.agg p.life.km.cells.toArray):=by
 refine enter Tryz.func162 Tryz.call162 rfl Tryz.ntmps162 rfl (fun w0=>?_);refine go 3 ?_;refine a0y _ rfl rfl rfl (fun g2=>?_);refine go 1 ?_;refine a0h he rfl (fun g4=>?_);refine go 6 ?_;refine o_v rfl (a1W (p.life.km.cells) m1 he rfl rfl rfl) ?_;refine go 1 ?_;refine a0p _ he rfl rfl rfl rfl rfl rfl ?_;refine go 3 ?_;refine a0u rfl ⟨_,_,_,rfl,m0,.inr ⟨_,he,rfl,rfl⟩⟩ ?_;exact q_v rfl
theorem b8q (I:IMap) (p:Part) (q:Value) (day:Int) (hd:0≤day∧day≤40000) :
    FnV Tryz.prog 163 #[.agg (p.cells q).toArray,.int .i64 (day)] I (.agg p.life.cycles.cells.toArray):=by
 refine enter Tryz.func163 Tryz.call163 rfl Tryz.ntmps163 rfl (fun w0=>?_);refine go 3 ?_;refine a0y _ rfl rfl rfl (fun g2=>?_);refine go 1 ?_;refine a0h he rfl (fun g4=>?_);refine go 6 ?_;refine o_v rfl (a1W (p.life.cycles.cells) m1 he rfl rfl rfl) ?_;refine go 1 ?_;refine a0p _ he rfl rfl rfl rfl rfl rfl ?_;refine go 3 ?_;refine a0u rfl ⟨_,_,_,rfl,m0,.inr ⟨_,he,rfl,rfl⟩⟩ ?_;exact q_v rfl
theorem b8r (I:IMap) (p:Part) (q:Value) (day:Int) (hd:0≤day∧day≤40000) :
    FnV Tryz.prog 164 #[.agg (p.cells q).toArray,.int .i64 (day)] I (.agg p.life.damage.cells.toArray):=by
 refine enter Tryz.func164 Tryz.call164 rfl Tryz.ntmps164 rfl (fun w0=>?_);refine go 3 ?_;refine a0y _ rfl rfl rfl (fun g2=>?_);refine go 1 ?_;refine a0h he rfl (fun g4=>?_);refine go 6 ?_;refine o_v rfl (a1W (p.life.damage.cells) m1 he rfl rfl rfl) ?_;refine go 1 ?_;refine a0p _ he rfl rfl rfl rfl rfl rfl ?_;refine go 3 ?_;refine a0u rfl ⟨_,_,_,rfl,m0,.inr ⟨_,he,rfl,rfl⟩⟩ ?_;exact q_v rfl
theorem c0b (I:IMap) (p:Part) (q:Value) (day:Int) (hd:0≤day∧day≤40000) (g:Nat) (hg:ICells I g 0 [.func (.func 161) #[] #[]]) :
    FnV Tryz.prog 165 #[.agg (p.cells q).toArray,.int .i64 (day),.pointer (some ⟨g,0,none⟩)] I (.agg (b0f day p.since).cells.toArray):=by
 refine enter Tryz.func165 Tryz.call165 rfl Tryz.ntmps165 rfl (fun w0=>?_);refine go 3 ?_;refine a0y _ rfl rfl rfl (fun g3=>?_);refine go 1 ?_;refine a0h he rfl (fun g5=>?_);refine go 4 ?_;refine o_v rfl (a0V he rfl (hg 0 _ rfl)) ?_;refine go 4 ?_;refine a0a (b3x _ day p.since hd) rfl rfl ?_;refine go 1 ?_;refine a0p _ he rfl rfl rfl rfl rfl rfl ?_;refine go 3 ?_;refine a0u rfl ⟨_,_,_,rfl,m0,.inr ⟨_,he,rfl,rfl⟩⟩ ?_;exact q_v rfl
theorem c3v (I:IMap) (p:Part) (q:Value) (day:Int) (hd:0≤day∧day≤40000) (g:Nat) (hg:ICells I g 0 [.func (.func 161) #[] #[]]) :
    FnV Tryz.prog 166 #[.agg (p.cells q).toArray,.int .i64 (day),.pointer (some ⟨g,0,none⟩)] I (.agg (b0f day p.made).cells.toArray):=by
 refine enter Tryz.func166 Tryz.call166 rfl Tryz.ntmps166 rfl (fun w0=>?_);refine go 3 ?_;refine a0y _ rfl rfl rfl (fun g3=>?_);refine go 1 ?_;refine a0h he rfl (fun g5=>?_);refine go 4 ?_;refine o_v rfl (a0V he rfl (hg 0 _ rfl)) ?_;refine go 4 ?_;refine a0a (b3x _ day p.made hd) rfl rfl ?_;refine go 1 ?_;refine a0p _ he rfl rfl rfl rfl rfl rfl ?_;refine go 3 ?_;refine a0u rfl ⟨_,_,_,rfl,m0,.inr ⟨_,he,rfl,rfl⟩⟩ ?_;exact q_v rfl
def d0l (g:Nat):List (ByteArray×Value):=[(sKm,.func (.func 162) #[] #[]),(a2T,.func (.func 163) #[] #[]),(a3e,.func (.func 164) #[] #[]),(a8b,.func (.func 165) #[] #[.pointer (some ⟨g,0,none⟩)]),(c1X,.func (.func 166) #[] #[.pointer (some ⟨g,0,none⟩)])]
theorem c0Z (I:IMap) :
    FnH Tryz.prog 97 #[] I [] (fun u J H2=>∃m g,u = .map (some m)∧H2=[.mp m (a2t Value.string (d0l g))]∧ICells J g 0 [.func (.func 161) #[] #[]]):=by
 refine enter Tryz.func97 Tryz.call97 rfl Tryz.ntmps97 rfl (fun w0=>?_);refine go 8 ?_;refine a0h he rfl (fun g1=>?_);refine go 1 ?_;refine a0p _ he rfl rfl rfl rfl rfl rfl ?_;refine go 5 ?_;refine a7o (Value.string) he rfl (fun r2=>?_);refine go 1 ?_;refine a7p ([(sKm,.func (.func 162) #[] #[])]) (a0S he) he (sKm) rfl rfl rfl (rfl) ?_;refine go 1 ?_;refine a7p ([(sKm,.func (.func 162) #[] #[]),(a2T,.func (.func 163) #[] #[])]) (a0S he) he (a2T) rfl rfl rfl (rfl) ?_;refine go 1 ?_;refine a7p ([(sKm,.func (.func 162) #[] #[]),(a2T,.func (.func 163) #[] #[]),(a3e,.func (.func 164) #[] #[])]) (a0S he) he (a3e) rfl rfl rfl (rfl) ?_;refine o_v rfl (a1b rfl rfl) ?_;refine go 1 ?_;refine a7p ([(sKm,.func (.func 162) #[] #[]),(a2T,.func (.func 163) #[] #[]),(a3e,.func (.func 164) #[] #[]),(a8b,.func (.func 165) #[] #[.pointer (some ⟨g1,0,none⟩)])]) (a0S he) he (a8b) rfl rfl rfl (rfl) ?_;refine o_v rfl (a1b rfl rfl) ?_;refine go 1 ?_;refine a7p ([(sKm,.func (.func 162) #[] #[]),(a2T,.func (.func 163) #[] #[]),(a3e,.func (.func 164) #[] #[]),(a8b,.func (.func 165) #[] #[.pointer (some ⟨g1,0,none⟩)]),(c1X,.func (.func 166) #[] #[.pointer (some ⟨g1,0,none⟩)])]) (a0S he) he (c1X) rfl rfl rfl (rfl) ?_;refine go 5 ?_;refine a0u rfl rfl ?_;refine a0f ?_;refine a2m (fun J9 j9 c9=>?_);exact a4V (fun _ m=>m) ⟨_,g1,rfl,rfl,c9⟩
theorem b6p (I:IMap) (g:Nat) (hg:ICells I g 0 [.func (.func 161) #[] #[]]) (s:ByteArray):∃(z:Value) (b:Bool),(a4U (d0l g) s).getD .nilFunc=z∧(a4U (d0l g) s).isSome=b∧b=a7i s∧(b=true→∃(k:FuncId) (cs:List Value),z = .func (.func k) #[] cs.toArray ∧
  ∀J,ILe I J→∀(p:Part) (q:Value) (day:Int),0≤day∧day≤40000→FnV Tryz.prog k ([Value.agg (p.cells q).toArray,.int .i64 day]++cs).toArray J (.agg (c2S p s day).cells.toArray)):=by
 obtain⟨⟨n1,n2,n3,n4⟩,⟨n5,n6,n7⟩,⟨n8,n9⟩,n10⟩:=d0n;refine⟨_,_,rfl,rfl,?_,?_⟩
 ·rw[d0l,b6q]
  rcases b3b s with h|h
  ·rcases h with rfl|rfl|rfl|rfl|rfl<;>simp[a7i,c5V, *,Ne.symm,n1.symm,n2.symm,n3.symm,n4.symm,n5.symm,n6.symm,n7.symm,n8.symm,n9.symm,n10.symm]
  ·rw[h]
   have h2:s∉c5V:=by simpa[a7i]using h
   simp only[c5V,List.mem_cons,List.not_mem_nil,or_false,not_or]at h2
   simp[h2]
 ·intro hs;rw[d0l,b6q]at hs ⊢
  rcases b3b s with h|h
  ·rcases h with rfl|rfl|rfl|rfl|rfl
   ·exact⟨162,[],by simp,fun J _ p q day hd=>by rw[c2S,if_pos rfl];exact d0m J p q day hd⟩
   ·exact⟨163,[],by simp[n1.symm],fun J _ p q day hd=>by rw[c2S,if_neg n1.symm,if_pos rfl];exact b8q J p q day hd⟩
   ·exact⟨164,[],by simp[n2.symm,n5.symm],fun J _ p q day hd=>by rw[c2S,if_neg n2.symm,if_neg n5.symm,if_pos rfl];exact b8r J p q day hd⟩
   ·exact⟨165,[.pointer (some ⟨g,0,none⟩)],by simp[n3.symm,n6.symm,n8.symm],fun J hJ p q day hd=>by rw[c2S,if_neg n3.symm,if_neg n6.symm,if_neg n8.symm,if_pos rfl];exact c0b J p q day hd g (hg.le hJ)⟩
   ·exact⟨166,[.pointer (some ⟨g,0,none⟩)],by simp[n4.symm,n7.symm,n9.symm,n10.symm],fun J hJ p q day hd=>by rw[c2S,if_neg n4.symm,if_neg n7.symm,if_neg n9.symm,if_neg n10.symm];exact c3v J p q day hd g (hg.le hJ)⟩
  ·exfalso
   have h2:s∉c5V:=by simpa[a7i]using h
   simp only[c5V,List.mem_cons,List.not_mem_nil,or_false,not_or]at h2
   simp[h2]at hs
theorem c1a (I:IMap) (p:Part) (q:Value) (hq:q.oneCell'=true) (s:ByteArray) (day:Int) :
    FnV Tryz.prog 45 #[.agg (p.cells q).toArray,.string s,.int .i64 (day)] I (.tuple #[.agg (a7C p s day).1.cells.toArray,.int .i64 ((a7C p s day).2)]):=by
 refine enter Tryz.func45 Tryz.call45 rfl Tryz.ntmps45 rfl (fun w0=>?_);refine go 3 ?_;refine a0y _ rfl rfl rfl (fun g3=>?_);refine go 1 ?_;refine a0h he rfl (fun g6=>?_);refine go 6 ?_;refine b7i (c0Z _) rfl rfl (fun u11 I11 H11 j11 q11=>?_);obtain⟨m,g,rfl,rfl,hg⟩:=q11;refine b7Q ?_;obtain⟨z,b,hz,hb,hbs,hzb⟩:=b6p _ g hg s;refine go 1 ?_;refine o_v rfl (a8s m0 (a0S he) he he (s) rfl rfl hz hb) ?_;refine go 16 ?_;refine cb rfl (fun h16 p16=>?_) (fun h16 p16=>?_)
 ·refine go 3 ?_;refine a0s rfl (a0z (pl:=[(0,1),(1,1)]) he he rfl rfl) ?_;refine go 1 ?_;refine a0f ?_;refine a0p _ he rfl rfl rfl rfl rfl rfl ?_;refine go 6 ?_;refine a2A rfl ⟨_,_,_,rfl,m0,.inr ⟨_,he,rfl,rfl⟩⟩ rfl ?_;exact a8X (by rw[c5E (by rw[←hbs];simpa using h16)]<;>rfl)
 ·have hb1:b=true:=by simpa using h16
  obtain⟨k,cs,rfl,hcall⟩:=hzb hb1;refine go 1 ?_;refine a2C (I':=I11) (L':=[(2,.int .i64 (day)),(3,.pointer (some ⟨g3,0,none⟩)),(6,.pointer (some ⟨g6,0,none⟩)),(8,.func (.func k) #[] cs.toArray),(20,.bool (decide (day<0)||decide (day>40000)))]) (H':=[.blk g3 48 (p.cells q),.blk g6 44 [.int .i64 (0),.int .i64 (0)]]) ?_ ?_
  ·refine go 4 ?_;refine sxb 23 rfl (fun h23 p23=>?_) (fun h23 p23=>?_)
   ·refine go 6 ?_;refine a0b ?_;refine a0f ?_;exact a0D ⟨rfl,rfl,rfl,rfl,(congrArg (fun b=>some (Value.bool b)) (by simp only[h16,h23,bS])),trivial⟩ rfl rfl
   ·refine go 6 ?_;refine a0b ?_;refine a0f ?_;exact a0D ⟨rfl,rfl,rfl,rfl,(congrArg (fun b=>some (Value.bool b)) (by simp only[h16,h23,bS])),trivial⟩ rfl rfl
  ·refine cb rfl (fun h20 p20=>?_) (fun h20 p20=>?_)
   ·refine go 3 ?_;refine a0s rfl (a0z (pl:=[(0,1),(1,1)]) he he rfl rfl) ?_;refine go 1 ?_;refine a0f ?_;refine a0p _ he rfl rfl rfl rfl rfl rfl ?_;refine go 6 ?_;refine a2A rfl ⟨_,_,_,rfl,m0,.inr ⟨_,he,rfl,rfl⟩⟩ rfl ?_;exact a8X (by rw[c2K (by rw[←hbs,hb1]) h20]<;>rfl)
   ·have hd:0≤day∧day≤40000:=by simp at h20;omega
    refine go 9 ?_;refine a0a (hcall _ (ILe.refl _) p q day hd) rfl rfl ?_;refine go 1 ?_;refine a0f ?_;refine a0p _ he rfl rfl rfl rfl rfl rfl ?_;refine go 4 ?_;refine a2A rfl ⟨_,_,_,rfl,m0,.inr ⟨_,he,rfl,rfl⟩⟩ rfl ?_;exact a8X (by rw[b4A (by rw[←hbs,hb1]) h20]<;>rfl)
theorem d0K (I:IMap) (s:ByteArray) :
    FnV Tryz.prog 79 #[.string s] I (.bool (a7i s)):=by
 refine enter Tryz.func79 Tryz.call79 rfl Tryz.ntmps79 rfl (fun w0=>?_);refine go 8 ?_;refine b7i (c0Z _) rfl rfl (fun u6 I6 H6 j6 q6=>?_);obtain⟨m,g,rfl,rfl,hg⟩:=q6;refine b7Q ?_;obtain⟨z,b,hz,hb,hbs,hzb⟩:=b6p _ g hg s;refine go 1 ?_;refine o_v rfl (a8s m0 (a0S he) he he (s) rfl rfl hz hb) ?_;refine go 14 ?_;refine a0u rfl rfl ?_;exact a8X (congrArg Value.bool hbs)
end Go.Proofs.YtdapmfkbpnjkmaaGreat
set_option linter.all false
namespace Go.Sx
open Go
def a4I (e:Evt):Bool:=!(((((decide (((e.part.size:Nat):Int)>300)||decide (((e.kind.size:Nat):Int)>300))||decide (((e.into.size:Nat):Int)>300))||decide (((e.slot.size:Nat):Int)>300))||decide (((e.key.size:Nat):Int)>300))||decide (((e.value.size:Nat):Int)>300))
def b8f (c:List Kind) (f:Fm) (l:List Evt) (n:Int):Bool:=(decide (((l.length:Nat):Int)>n) || !c3H c) || !decide (nodesF f 80≤80)
def b8u (c:List Kind) (f:Fm) (l:List Evt) (n:Int):Bool:=!b8f c f l n&&a3m (fun _ e=>a4I e) l l.length
def c7F (st:List Part) (v:ByteArray):Bool:=(!decide (v=a1j)&&(a0T st v).isSome)&&st.all fun p=>decide (upP st p.name=a1j)||decide (upP st p.name=v)
def d2Y (st:List Part) (e:Evt) (d:Ivl):List Part:=st.map fun p=>if p.name=e.part∨upP st p.name=e.part then a9h d e.use p else p
theorem c9p {st:List Part} {e:Evt} {d:Ivl} (h:c7F st e.part=true):useL st e d=d2Y st e d:=by
 simp only[c7F,Bool.and_eq_true,Bool.not_eq_true',decide_eq_false_iff_not,List.all_eq_true,Bool.or_eq_true,decide_eq_true_eq]at h
 obtain⟨⟨hv,hs⟩,hall⟩:=h;unfold useL d2Y;refine List.map_congr_left fun p hp=>?_
 have hi:(p.name=e.part∨b1H st e.part p.name)↔(p.name=e.part∨upP st p.name=e.part):=by
  constructor
  ·rintro (h|⟨_,k,hk⟩)
   ·exact .inl h
   ·rcases hall p hp with h0|h0
    ·cases k with
     |zero=>cases hk
     |succ k=>simp[a5q,h0]at hk
    ·exact .inr h0
  ·rintro (h|h)
   ·exact .inl h
   ·by_cases hn:p.name=e.part
    ·exact .inl hn
    ·exact .inr ⟨⟨hs,b2I (by rw[h];exact hv),hn⟩,1,by unfold a5q;rw[h];simp[hv]⟩
 by_cases hc:p.name=e.part∨upP st p.name=e.part
 ·rw[if_pos hc,if_pos (hi.2 hc)]
 ·rw[if_neg hc,if_neg (fun h=>hc (hi.1 h))]
def goC (f:Fm) (c:List Kind):List Part→Int→List Evt→Option b9x
 |s,_,[]=>some (s,-1,0)
 |s,i,e::r=>if (a0n c s e).2=0 then (if e.op=4 then (if c7F (a0n c s e).1 e.part=true then goC f c (d2Y (a0n c s e).1 e (b0r f e.use)) (i+1) r else none) else goC f c (a0n c s e).1 (i+1) r) else some ([],i,(a0n c s e).2)
theorem c0E {f:Fm} {c:List Kind}:∀(l:List Evt) {s:List Part} {i:Int} {r:b9x},goC f c s i l=some r→runLGo f c s i l=r
 | [],s,i,r,h=>by simp only[goC,Option.some.injEq]at h;exact h
 |e::l,s,i,r,h=>by
  simp only[goC]at h
  simp only[runLGo,a3H]
  split at h
  ·rename_i h0
   rw[if_pos h0];unfold applyL
   split at h
   ·rename_i h4
    rw[if_pos ⟨h0,h4⟩]
    split at h
    ·rename_i hf
     rw[c9p hf];exact c0E l h
    ·cases h
   ·rename_i h4
    rw[if_neg (fun hc=>h4 hc.2)];exact c0E l h
  ·rename_i h0
   rw[if_neg h0];exact Option.some.inj h
def d3g (f:Fm) (c:List Kind) (l:List Evt) (day:Int):Option b9x:=if (!a0Y c || !a1H f)=true then some ([],-1,1) else goC f c [] 0 (a1n (l.filter fun e=>!decide (e.day>day)))
theorem a7Z {f:Fm} {c:List Kind} {l:List Evt} {day:Int} {r:b9x} (h:d3g f c l day=some r):runL f c l day=r:=by
 unfold d3g at h
 unfold runL
 split at h
 ·rename_i h1;rw[if_pos h1];exact Option.some.inj h
 ·rename_i h1;rw[if_neg h1];exact c0E _ h
theorem c0r {l:List Part} {s:ByteArray} {i:Nat} (hi:i<l.length) (h:a0T (l.drop i) s=a0T l s) (hn:¬l[i].name=s):a0T (l.drop (i+1)) s=a0T l s:=by
 rw[←h,List.drop_eq_getElem_cons hi];unfold a0T;rw[List.find?_cons_of_neg (by simpa using hn)]
theorem c3Q {l:List Part} {s:ByteArray} {i:Nat} (hi:i<l.length) (h:a0T (l.drop i) s=a0T l s) (hn:l[i].name=s):a0T l s=some l[i]:=by
 rw[←h,List.drop_eq_getElem_cons hi];unfold a0T;rw[List.find?_cons_of_pos (by simpa using hn)]
theorem c3P {l:List Part} {s:ByteArray} {i:Nat} (hi:¬i<l.length) (h:a0T (l.drop i) s=a0T l s):a0T l s=none:=by
 rw[←h,List.drop_eq_nil_of_le (by omega)];rfl
end Go.Sx
namespace Go.Proofs.YtdapmfkbpnjkmaaGreat
open Go Go.Sx
set_option linter.all false
set_option maxRecDepth 20000
set_option maxHeartbeats 4000000
theorem b0c (I:IMap) (N:Nat) (ih:∀(f:Fm),cntN f≤N→∀vs,FmRd I vs f→∀m:Int,0≤m→m≤1000→FnV Tryz.prog 249 #[.agg vs.toArray,.int .i64 (m)] I (.int .i64 (nodesF f m))) (f:Fm) (hN:cntN f≤N+1) (vs:List Value) (hr:FmRd I vs f) (m:Int) (h0:0≤m) (h1:m≤1000) :
    FnV Tryz.prog 249 #[.agg vs.toArray,.int .i64 (m)] I (.int .i64 (nodesF f m)):=by
 obtain⟨s,rfl,hs⟩:=a4T hr;obtain⟨A,c0,rfl,hA,hc,hm⟩:=hs;refine enter Tryz.func249 Tryz.call249 rfl Tryz.ntmps249 rfl (fun w0=>?_);refine go 3 ?_;refine a0y _ rfl rfl rfl (fun g2=>?_);refine go 15 ?_
 refine a1u ((0:Nat)) ((1:Int)) (fun i n=>I)
  (fun i n=>[(1,.int .i64 (m)),(2,.pointer (some ⟨g2,0,none⟩)),(5,.int .i64 (n)),(6,.int .i64 ((i:Nat):Int))])
  (fun i n=>[.blk g2 70 [ci f.op,ci f.n,.slice A f.kids.length c0]])
  (fun i n=>i≤f.kids.length∧(1≤n∧n≤m+1)∧nodesL (f.kids.drop i) n m=nodesF f m)
  (fun i n=>f.kids.length-i) ⟨Nat.zero_le _,⟨by omega,by omega⟩,a9Q⟩ rfl sb rfl ?_
 intro i n ⟨hi,hn,hq⟩;refine go 9 ?_;refine sxb 12 rfl (fun h12 p12=>?_) (fun h12 p12=>?_)
 ·have hlt:i<f.kids.length:=by omega
  refine go 6 ?_;refine cb rfl (fun h16 p16=>?_) (fun h16 p16=>?_)
  ·have hkn:=b2n f.kids[i] (m-n) (by omega)
   refine go 9 ?_;obtain⟨b23,o23,w23,e23,c23,r23⟩:=RdA.at_ hA (i:=i) (by omega)
   replace r23:=a4T r23
   obtain⟨s23,rfl,hs23⟩:=r23;refine o_v rfl (a0m he rfl rfl e23 (i) (by omega) (by omega)) ?_;refine o_v rfl (a0G he rfl c23 rfl) ?_;refine go 4 ?_;refine a0a (ih f.kids[i] (by have:=a5P (List.getElem_mem hlt);omega) _ (a4Z hs23) _ (by omega) (by omega)) rfl rfl ?_;refine go 11 ?_;exact a0L (i+1) (_) ⟨by omega,by omega,b1c hlt hq (by omega)⟩ (by omega) rfl sb rfl
  ·refine go 12 ?_;refine a0u rfl rfl ?_;exact q_v (congrArg (Value.int .i64) (b1d hlt hq (by omega)))
 ·refine go 6 ?_;refine a0X rfl ?_;refine go 12 ?_;refine a0u rfl rfl ?_;exact q_v (congrArg (Value.int .i64) (b3G (by omega) hq))
theorem b9b (I:IMap) (f:Fm) (vs:List Value) (hr:FmRd I vs f) (m:Int) (h0:0≤m) (h1:m≤1000):FnV Tryz.prog 249 #[.agg vs.toArray,.int .i64 (m)] I (.int .i64 (nodesF f m)):=by
 have key:∀(N:Nat),∀(f:Fm),cntN f≤N→∀vs,FmRd I vs f→∀m:Int,0≤m→m≤1000→FnV Tryz.prog 249 #[.agg vs.toArray,.int .i64 (m)] I (.int .i64 (nodesF f m)):=by
  intro N
  induction N with
  |zero=>intro f hN;exact absurd hN (by cases f;simp[cntN])
  |succ N ih=>intro f hN vs hr m h0 h1;exact b0c I N ih f hN vs hr m h0 h1
 exact key (cntN f) f (Nat.le_refl _) vs hr m h0 h1
theorem c4P (I:IMap) (f:Fm) (vs:List Value) (hr:FmRd I vs f) :
    FnV Tryz.prog 201 #[.agg vs.toArray] I (.bool (decide (nodesF f 80≤80))):=by
 have hl:=Enc.len (α:=Fm) hr
 refine enter Tryz.func201 Tryz.call201 rfl Tryz.ntmps201 rfl (fun w0=>?_);refine go 3 ?_;refine a0y _ rfl rfl rfl (fun g1=>?_);refine go 5 ?_;refine o_v rfl (a4k m0 he rfl hl) ?_;refine go 1 ?_;refine a0a (b9b _ f _ hr 80 (by omega) (by omega)) rfl rfl ?_;refine go 5 ?_;refine a0u rfl rfl ?_;exact q_v rfl
theorem c4R (I:IMap) (vc:Value) (c:List Kind) (hvc:RdS I vc c) (f:Fm) (sf:Value) (hf:FmRd I [ci f.op,ci f.n,sf] f) (v:Value) (l:List Evt) (hv:RdS I v l) (n:Int) :
    FnV Tryz.prog 131 #[.agg #[vc,ci f.op,ci f.n,sf],v,.int .i64 (n)] I (.bool (b8u c f l n)):=by
 have hv0:=hv
 obtain⟨A,c0,rfl,hA,hc,hm⟩:=hv;refine enter Tryz.func131 Tryz.call131 rfl Tryz.ntmps131 rfl (fun w0=>?_);refine go 3 ?_;refine a0y _ rfl rfl rfl (fun g3=>?_);refine go 5 ?_;refine a2C (I':=I) (L':=[(1,.slice A l.length c0),(24,.bool (b8f c f l n))]) (H':=[]) ?_ ?_
 ·refine go 6 ?_;refine sxb 13 rfl (fun h13 p13=>?_) (fun h13 p13=>?_)
  ·refine go 13 ?_;refine a0b ?_;exact a0D ⟨rfl,(congrArg (fun b=>some (Value.bool b)) (by simp only[b8f,h13,bS])),trivial⟩ rfl rfl
  ·refine go 1 ?_;refine a0H (a0E rfl rfl h13 (a0s rfl (a1W ([vc]) m0 he rfl rfl rfl) ?_));refine go 1 ?_;refine a0E rfl rfl h13 (a0a (d1t _ vc c hvc) rfl rfl ?_);refine go 3 ?_;refine sxb 19 rfl (fun h19 p19=>?_) (fun h19 p19=>?_)
   ·refine go 7 ?_;refine a0b ?_;exact a0D ⟨rfl,(congrArg (fun b=>some (Value.bool b)) (by simp only[b8f,h13,h19,bS])),trivial⟩ rfl rfl
   ·refine go 1 ?_;refine a0H (a0E rfl rfl h19 (a0s rfl (a1W ([ci f.op,ci f.n,sf]) m0 he rfl rfl rfl) ?_));refine go 1 ?_;refine a0E rfl rfl h19 (a0a (c4P _ f _ hf) rfl rfl ?_);refine go 4 ?_;refine a0b ?_;exact a0D ⟨rfl,(congrArg (fun b=>some (Value.bool b)) (by simp only[b8f,h13,h19,bS])),trivial⟩ rfl rfl
 ·refine cb rfl (fun h24 p24=>?_) (fun h24 p24=>?_)
  ·refine go 7 ?_;refine a0u rfl rfl ?_;exact q_v (congrArg Value.bool (by simp only[b8u,h24];rfl))
  ·refine go 9 ?_
   refine a0N (α:=Nat) 0 (fun i=>I)
    (fun i=>[(1,.slice A l.length c0),(7,.int .i64 ((i:Nat):Int))])
    (fun i=>[])
    (fun i=>i≤l.length∧a3m (fun _ e=>a4I e) l i=true)
    (fun i=>l.length-i) ⟨Nat.zero_le _,rfl⟩ rfl sb rfl ?_
   intro i ⟨hi,hn⟩;refine go 9 ?_;refine cb rfl (fun h28 p28=>?_) (fun h28 p28=>?_)
   ·have hlt:i<l.length:=by omega
    refine go 8 ?_;obtain⟨b33,o33,w33,e33,c33,r33⟩:=RdA.at_ hA (i:=i) (by omega);obtain rfl:=r33;refine o_v rfl (a0m he rfl rfl e33 (i) (by omega) (by omega)) ?_;refine o_v rfl (a0G he rfl c33 rfl) ?_;refine go 1 ?_;refine a0h he rfl (fun g8=>?_);refine go 1 ?_;refine a0p _ he rfl rfl rfl rfl rfl rfl ?_;refine go 3 ?_;refine a2C (I':=I) (L':=[(1,.slice A l.length c0),(7,.int .i64 ((i:Nat):Int)),(68,.bool (!a4I l[i]))]) (H':=[]) ?_ ?_
    ·refine go 6 ?_;refine sxb 39 rfl (fun h39 p39=>?_) (fun h39 p39=>?_)
     ·refine go 31 ?_;refine a0b ?_;exact a0D ⟨rfl,rfl,(congrArg (fun b=>some (Value.bool b)) (by simp only[a4I,Bool.not_not,h28,h39,bS])),trivial⟩ rfl rfl
     ·refine go 6 ?_;refine sxb 45 rfl (fun h45 p45=>?_) (fun h45 p45=>?_)
      ·refine go 25 ?_;refine a0b ?_;exact a0D ⟨rfl,rfl,(congrArg (fun b=>some (Value.bool b)) (by simp only[a4I,Bool.not_not,h28,h39,h45,bS])),trivial⟩ rfl rfl
      ·refine go 6 ?_;refine sxb 51 rfl (fun h51 p51=>?_) (fun h51 p51=>?_)
       ·refine go 19 ?_;refine a0b ?_;exact a0D ⟨rfl,rfl,(congrArg (fun b=>some (Value.bool b)) (by simp only[a4I,Bool.not_not,h28,h39,h45,h51,bS])),trivial⟩ rfl rfl
       ·refine go 6 ?_;refine sxb 57 rfl (fun h57 p57=>?_) (fun h57 p57=>?_)
        ·refine go 13 ?_;refine a0b ?_;exact a0D ⟨rfl,rfl,(congrArg (fun b=>some (Value.bool b)) (by simp only[a4I,Bool.not_not,h28,h39,h45,h51,h57,bS])),trivial⟩ rfl rfl
        ·refine go 6 ?_;refine sxb 63 rfl (fun h63 p63=>?_) (fun h63 p63=>?_)
         ·refine go 7 ?_;refine a0b ?_;exact a0D ⟨rfl,rfl,(congrArg (fun b=>some (Value.bool b)) (by simp only[a4I,Bool.not_not,h28,h39,h45,h51,h57,h63,bS])),trivial⟩ rfl rfl
         ·refine go 7 ?_;refine a0b ?_;exact a0D ⟨rfl,rfl,(congrArg (fun b=>some (Value.bool b)) (by simp only[a4I,Bool.not_not,h28,h39,h45,h51,h57,h63,bS])),trivial⟩ rfl rfl
    ·refine cb rfl (fun h68 p68=>?_) (fun h68 p68=>?_)
     ·refine go 11 ?_;refine a0u rfl rfl ?_;exact q_v (congrArg Value.bool (by simp only[b8u,a1y (f:=fun _ e=>a4I e) hlt (by simpa using h68)];simp))
     ·refine go 9 ?_;exact a0J (i+1) ⟨by omega,a1M (f:=fun _ e=>a4I e) hn hlt (by simpa using h68)⟩ (by omega) rfl sb rfl
   ·refine go 11 ?_;refine a0u rfl rfl ?_
    have e:i=l.length:=(by omega)
    subst e;exact q_v (congrArg Value.bool (by simp only[b8u,h24,hn];rfl))
theorem c6a (I:IMap) (v:Value) (l:List Part) (hv:RdS I v l) (s:ByteArray) :
    FnE Tryz.prog 27 #[.agg #[v],.string s] I (PartIs I (a0T l s)):=by
 have hv0:=hv
 obtain⟨A,c0,rfl,hA,hc,hm⟩:=hv;refine enter Tryz.func27 Tryz.call27 rfl Tryz.ntmps27 rfl (fun w0=>?_);refine go 3 ?_;refine a0y _ rfl rfl rfl (fun g2=>?_);refine go 1 ?_;refine a0h he rfl (fun g4=>?_);refine go 13 ?_;refine a0f ?_;refine a0b ?_
 refine a0N (α:=Nat) 0 (fun i=>I)
  (fun i=>[(1,.string s),(4,.pointer (some ⟨g4,0,none⟩)),(9,.slice A l.length c0),(10,.int .i64 (l.length:Int)),(11,.int .i64 ((i:Nat):Int))])
  (fun i=>[.blk g4 48 [.string ⟨#[]⟩,.string ⟨#[]⟩,.string ⟨#[]⟩,.string ⟨#[]⟩,.int .i64 0,.int .i64 0,.bool false,.slice none 0 0,.int .i64 0,.int .i64 0,.int .i64 0,.int .i64 0,.int .i64 0,.int .i64 0]])
  (fun i=>i≤l.length∧a0T (l.drop i) s=a0T l s)
  (fun i=>l.length-i) ⟨Nat.zero_le _,rfl⟩ rfl sb rfl ?_
 intro i ⟨hi,hn⟩;refine go 6 ?_;refine cb rfl (fun h12 p12=>?_) (fun h12 p12=>?_)
 ·have hlt:i<l.length:=by omega
  refine go 6 ?_;obtain⟨b13,o13,w13,e13,c13,r13⟩:=RdA.at_ hA (i:=i) hlt;obtain⟨q13,rfl,B13,d13,rfl,hB13,hd13,hm13⟩:=r13;refine o_v rfl (a0m he rfl rfl e13 (i) (by omega) hlt) ?_;refine o_v rfl (a0G he rfl c13 rfl) ?_;refine go 1 ?_;refine a0h he rfl (fun g7=>?_);refine go 1 ?_;refine a0p _ he rfl rfl rfl rfl rfl rfl ?_;refine go 10 ?_;refine cb rfl (fun h18 p18=>?_) (fun h18 p18=>?_)
  ·refine go 4 ?_;refine a0f ?_;refine a0p _ he rfl rfl rfl rfl rfl rfl ?_;refine go 9 ?_;refine a2A rfl ⟨_,_,_,rfl,m0,.inr ⟨_,he,rfl,rfl⟩⟩ rfl ?_;exact q_e (PartIs.of (c3Q hlt hn p18) ⟨_,rfl,B13,d13,rfl,hB13,hd13,hm13⟩)
  ·refine go 8 ?_;refine a0b ?_;exact a0J (i+1) ⟨by omega,c0r hlt hn p18⟩ (by omega) rfl sb rfl
 ·refine go 8 ?_;refine a0s rfl (a0z (pl:=[(0,1),(1,1),(2,1),(3,1),(4,1),(5,1),(6,1),(7,1),(8,6)]) he he rfl rfl) ?_;refine go 1 ?_;refine a0p _ he rfl rfl rfl rfl rfl rfl ?_;refine go 4 ?_;refine a2A rfl ⟨_,_,_,rfl,m0,.inr ⟨_,he,rfl,rfl⟩⟩ rfl ?_;exact q_e (PartIs.none (c3P (by omega) hn))
end Go.Proofs.YtdapmfkbpnjkmaaGreat
namespace Go.Proofs.YtdapmfkbpnjkmaaGreat
open Go Go.Sx
set_option linter.all false
set_option maxRecDepth 20000
set_option maxHeartbeats 4000000
instance T.ty_72:Has (tyK Tryz.prog 72) (true,4):=⟨by kernel_rfl⟩
end Go.Proofs.YtdapmfkbpnjkmaaGreat
set_option linter.all false
namespace Go.Sx
open Go
structure Dut where
 name:ByteArray
 kind:ByteArray
 key:ByteArray
 after:Int
 within:Int
 deriving DecidableEq
structure Due where
 part:ByteArray
 rule:ByteArray
 day:Int
 deriving DecidableEq
def Dut.cells (d:Dut):List Value:=[.string d.name,.string d.kind,.string d.key,ci d.after,ci d.within]
def Due.cells (d:Due):List Value:=[.string d.part,.string d.rule,ci d.day]
instance:Enc Dut where
 k:=5
 rd _ vs x:=vs=x.cells
 len h:=by rw[h];rfl
 mono _ h:=h
 one h:=by rw[h];rfl
instance:Enc Due where
 k:=3
 rd _ vs x:=vs=x.cells
 len h:=by rw[h];rfl
 mono _ h:=h
 one h:=by rw[h];rfl
section
variable {α:Type} [DecidableEq α] {lt:α→α→Bool}
def SrtU (lt:α→α→Bool) (l:List α):Prop:=l.Pairwise fun a b=>lt a b=true
theorem SrtU.uniq (hi:∀a,lt a a=false) (htr:∀a b c,lt a b=true→lt b c=true→lt a c=true):∀{l m:List α},SrtU lt l→SrtU lt m→(∀z,z∈l↔z∈m)→l=m
 | [],[],_,_,_=>rfl
 | [],y::m,_,_,h=>by have:=(h y).2 (by simp);cases this
 |x::l,[],_,_,h=>by have:=(h x).1 (by simp);cases this
 |x::l,y::m,h1,h2,h=>by
  obtain⟨a1,b1⟩:=List.pairwise_cons.1 h1;obtain⟨a2,b2⟩:=List.pairwise_cons.1 h2
  have e:x=y:=by
   rcases List.mem_cons.1 ((h x).1 (by simp)) with e|hx
   ·exact e
   rcases List.mem_cons.1 ((h y).2 (by simp)) with e|hy
   ·exact e.symm
   ·have:=htr _ _ _ (a1 y hy) (a2 x hx)
    rw[hi]at this;cases this
  subst e
  have hn1:x∉l:=fun hm=>by have:=a1 x hm;rw[hi]at this;cases this
  have hn2:x∉m:=fun hm=>by have:=a2 x hm;rw[hi]at this;cases this
  rw[SrtU.uniq hi htr b1 b2 fun z=>?_]
  constructor
  ·intro hz
   rcases List.mem_cons.1 ((h z).1 (by simp[hz])) with rfl|hz2
   ·exact absurd hz hn1
   ·exact hz2
  ·intro hz
   rcases List.mem_cons.1 ((h z).2 (by simp[hz])) with rfl|hz2
   ·exact absurd hz hn2
   ·exact hz2
theorem SrtU.nodup (hi:∀a,lt a a=false) {l:List α} (h:SrtU lt l):l.Nodup:=by
 rw[List.nodup_iff_pairwise_ne];exact h.imp fun h1 e=>by subst e;rw[hi]at h1;cases h1
end
def b0T:List Int→Option Int
 | []=>none
 |x::l=>some (l.foldl min x)
section
variable {ds:List Dut} {c:List Kind} {l:List Evt} {p:ByteArray} {day:Int}
end
end Go.Sx
set_option linter.all false
namespace Go.Sx
open Go
theorem b7L (c:List Kind):∀(l:List Evt) (st s:List Part) (z:Int),a1E c st l=some s↔(b2D c st z l).2.2=0∧(b2D c st z l).1=s
 | [],st,s,z=>by simp[a1E,b2D]
 |e::l,st,s,z=>by
  simp only[a1E,b2D]
  by_cases h:(a0n c st e).2=0
  ·rw[if_pos h,if_pos h];exact b7L c l _ s _
  ·rw[if_neg h,if_neg h]
   constructor
   ·intro h2;cases h2
   ·intro h2;exact absurd h2.1 h
theorem c1W {c:List Kind}:∀{l:List Evt} {st s:List Part},VS c st→a1E c st l=some s→VS c s
 | [],st,s,h,hr=>by simp only[a1E]at hr;cases hr;exact h
 |e::l,st,s,h,hr=>by
  simp only[a1E]at hr
  by_cases h2:(a0n c st e).2=0
  ·rw[if_pos h2]at hr
   obtain⟨p',hp⟩:=a4t h2;rw[a2Y hp]at hr
   exact c1W hp.valid hr
  ·rw[if_neg h2]at hr;cases hr
theorem b4l {c:List Kind}:∀{l:List Evt} {st s:List Part},VS c st→a1E c st l=some s→s.length≤st.length+l.length
 | [],st,s,h,hr=>by simp only[a1E]at hr;cases hr;simp
 |e::l,st,s,h,hr=>by
  simp only[a1E]at hr
  by_cases h2:(a0n c st e).2=0
  ·rw[if_pos h2]at hr
   obtain⟨p',hp⟩:=a4t h2;rw[a2Y hp]at hr
   have h3:=b4l hp.valid hr
   have h4:=b1m (x:=p') h.inc
   rw[List.length_cons];omega
  ·rw[if_neg h2]at hr;cases hr
theorem b4k {c:List Kind} (K:List Evt):∀{l:List Evt} {st s:List Part},VS c st→(∀e∈l,e∈K)→(∀x∈st,(∃e∈K,e.part=x.name)∧(x.into≠a1j→∃e∈K,e.op=2∧e.part=x.name∧e.into=x.into))→a1E c st l=some s →
  ∀x∈s,(∃e∈K,e.part=x.name)∧(x.into≠a1j→∃e∈K,e.op=2∧e.part=x.name∧e.into=x.into)
 | [],st,s,h,hK,h0,hr=>by simp only[a1E]at hr;cases hr;exact h0
 |e::l,st,s,h,hK,h0,hr=>by
  simp only[a1E]at hr
  by_cases h2:(a0n c st e).2=0
  ·rw[if_pos h2]at hr
   obtain⟨p',hp⟩:=a4t h2;rw[a2Y hp]at hr
   refine b4k K hp.valid (fun f hf=>hK f (by simp[hf])) (fun x hx=>?_) hr
   have he:=hK e (by simp)
   rcases (a3d h.inc).1 hx with rfl|⟨hx,_⟩
   ·have hn:=hp.name
    refine⟨⟨e,he,hn.symm⟩,fun hi=>?_⟩
    rcases hp.how with ⟨_,_,_,_,rfl⟩|⟨p,h1,_,h3⟩
    ·exact absurd rfl hi
    ·obtain⟨hpm,hpn⟩:=(a1K h.inc).1 h1
     have hold:p.into≠a1j→∃e∈K,e.op=2∧e.part=p.name∧e.into=p.into:=(h0 p hpm).2
     rcases h3 with ⟨o1,q,_,_,_,_,_,_,rfl⟩|⟨_,_,rfl⟩|⟨_,_,rfl⟩|⟨_,rfl⟩|⟨_,_,rfl⟩|⟨_,_,_,rfl⟩
     ·exact⟨e,he,o1,hn.symm,rfl⟩
     ·exact absurd rfl hi
     ·exact hold hi
     ·exact hold hi
     ·exact hold hi
     ·exact hold hi
   ·exact h0 x hx
  ·rw[if_neg h2]at hr;cases hr
section
variable {c:List Kind} {l:List Rep} {t:List Int} {E:List Evt} {day:Int} {s:List Part}
theorem c9Q (hc:a0Y c=true):a1E c [] (a1n (upD E day))=some s↔(b2P c E day).2.2=0∧(b2P c E day).1=s:=by
 rw[d2m,c8Q hc];exact b7L c _ _ _ _
theorem c5g (h:(a1E c [] (a1n E)).isSome=true) (day:Int):∃s,a1E c [] (a1n (upD E day))=some s:=by
 rw[c5o E day,b7K]at h
 cases hs:a1E c [] (a1n (upD E day)) with
 |none=>rw[hs]at h;cases h
 |some s=>exact⟨s,rfl⟩
theorem a5j (ht:t∈a1F c l):a1R c l t 0=true∧a0Y c=true∧(∀r∈l,a0q r=true)∧t∈a1L l:=by
 have h:=b6P ((a6n t).1 ht)
 exact⟨h,a7g h,(a2D h).2,a4D ht⟩
theorem b6w (hv:∀r∈l,a0q r=true) (ht:t∈a1L l) (i:Nat):c5X l t i=gE 40001 l t i:=by
 obtain⟨htl,hb⟩:=a2x.1 ht
 rcases Nat.lt_or_ge i l.length with hi|hi
 ·have h2:i<t.length:=by omega
  rw[a9w hi h2,gE,a2I hi h2]
  have h0:=(hb i hi h2).1
  show _=a3c 40001 l[i] t[i]
  unfold a3c;rw[if_pos h0]
  cases ho:l[i].options[t[i].toNat]? with
  |none=>rfl
  |some e=>
   have:=a2X (a3x (hv _ (List.getElem_mem hi)) e (List.mem_of_getElem? ho))
   show some e=if e.day<40001 then some e else none
   rw[if_pos (by omega)]
 ·unfold c5X gE at2;rw[List.getElem?_eq_none hi]
theorem b6y (hv:∀r∈l,a0q r=true) (ht:t∈a1L l):a6w 40001 l t=a1X l t l.length:=by
 rw[a9X (a2x.1 ht).1];unfold a1X;exact a6m fun i _=>(b6w hv ht i).symm
theorem b2a (ht:t∈a1F c l):a1T l t=(a1X l t l.length,0)∧(a1E c [] (a1n (a1X l t l.length))).isSome=true:=by
 obtain⟨hg,hc,hv,ha⟩:=a5j ht
 have hi:=(a6n t).1 ht
 rw[c0R hg,b6y hv ha]at hi
 refine⟨?_,hi⟩;obtain⟨htl,hb⟩:=a2x.1 ha;unfold a1T;rw[if_pos]
 simp only[Bool.and_eq_true,decide_eq_true_eq]
 refine⟨by omega,b6d (fun i h1 h2=>?_) htl⟩
 have:=hb i h1 h2
 simp[okK];omega
theorem c7w {e:Evt} (h:e∈a1X l t l.length):∃i,∃hi:i<l.length,e∈l[i].options:=by
 unfold a1X at h
 obtain⟨i,hi,h⟩:=List.mem_filterMap.1 h
 have hi:=List.mem_range.1 hi
 unfold c5X at2 at h
 rw[List.getElem?_eq_getElem hi]at h
 cases ht:t[i]? with
 |none=>rw[ht]at h;cases h
 |some k=>
  rw[ht]at h
  simp only[Option.join]at h
  exact⟨i,hi,List.mem_of_getElem? h⟩
theorem b6x (l:List Rep) (t:List Int):(a1X l t l.length).length≤l.length:=b4Z l t l.length
structure Case (c:List Kind) (l:List Rep) (t:List Int) (day:Int) (s:List Part):Prop where
 vs:VS c s
 at0:(b2P c (a1X l t l.length) day).2.2=0
 at1:(b2P c (a1X l t l.length) day).1=s
 runs:a1E c [] (a1n (upD (a1X l t l.length) day))=some s
 own:∀x∈s,∃i,∃hi:i<l.length,nm l[i] x.name
 link:∀x∈s,x.into≠a1j→∃i,∃hi:i<l.length,nm l[i] x.name∧nm l[i] x.into
 len:s.length≤l.length
theorem c0I (ht:t∈a1F c l) (day:Int):Case c l t day (b2P c (a1X l t l.length) day).1:=by
 obtain⟨hg,hc,hv,ha⟩:=a5j ht;obtain⟨s,hs⟩:=c5g (b2a ht).2 day;obtain⟨h1,h2⟩:=(c9Q hc).1 hs;rw[h2]
 have hn:=c1W (b0p hc) hs
 have hf:=b4k (upD (a1X l t l.length) day) (b0p hc) (fun e he=>a5t.1 he) (fun x hx=>by cases hx) hs
 have hm:∀e∈upD (a1X l t l.length) day,∃i,∃hi:i<l.length,a0q l[i]=true∧e∈l[i].options:=fun e he=>by
  obtain⟨i,hi,h⟩:=c7w (List.mem_filter.1 he).1;exact⟨i,hi,hv _ (List.getElem_mem hi),h⟩
 refine⟨hn,h1,h2,hs,fun x hx=>?_,fun x hx hi=>?_,?_⟩
 ·obtain⟨e,he,hp⟩:=(hf x hx).1;obtain⟨i,hi,hvi,ho⟩:=hm e he;exact⟨i,hi,hvi,e,ho,by rw[←hp];unfold a1a;split<;>simp⟩
 ·obtain⟨e,he,h2,hp,hq⟩:=(hf x hx).2 hi;obtain⟨i,hi,hvi,ho⟩:=hm e he;exact⟨i,hi,⟨hvi,e,ho,by rw[←hp];simp[a1a,h2]⟩,⟨hvi,e,ho,by rw[←hq];simp[a1a,h2]⟩⟩
 ·have h3:=b4l (b0p hc) hs
  rw[a4b]at h3
  have h4:(upD (a1X l t l.length) day).length≤(a1X l t l.length).length:=List.length_filter_le _ _
  have h5:=b6x l t
  simp at h3;omega
end
def nmB (r:Rep) (z:ByteArray):Bool:=a0q r&&r.options.any fun e=>decide (z∈a1a e)
theorem a6O {r:Rep} {z:ByteArray}:nmB r z=true↔nm r z:=by
 simp[nmB,nm,List.any_eq_true]
def a9y (l:List Rep) (p:ByteArray):Option Nat:=(List.range l.length).find? fun i=>((l[i]?).map fun r=>nmB r p).getD false
def ofN (l:List Rep) (R:Nat→Nat) (p:ByteArray):List Nat:=match a9y l p with
 |some k=>a0Q R l.length (R k)
 |none=>[]
def a0I (l:List Rep) (R:Nat→Nat) (p:ByteArray):List Rep:=a1S l (ofN l R p)
section
variable {l:List Rep} {R:Nat→Nat} {p q:ByteArray} {k:Nat}
theorem a9z (h:a9y l p=some k):∃hk:k<l.length,nm l[k] p:=by
 unfold a9y at h
 have h1:=List.mem_range.1 (List.mem_of_find?_eq_some h)
 have h2:=List.find?_some h
 simp only[List.getElem?_eq_getElem h1,Option.map_some,Option.getD_some]at h2
 exact⟨h1,a6O.1 h2⟩
theorem a6K:a9y l p=none↔∀k (hk:k<l.length),¬nm l[k] p:=by
 unfold a9y;rw[List.find?_eq_none]
 constructor
 ·intro h k hk hn
  have:=h k (List.mem_range.2 hk)
  simp only[List.getElem?_eq_getElem hk,Option.map_some,Option.getD_some]at this
  exact this (a6O.2 hn)
 ·intro h k hk
  have hk:=List.mem_range.1 hk
  simp only[List.getElem?_eq_getElem hk,Option.map_some,Option.getD_some]
  intro hn;exact h k hk (a6O.1 hn)
theorem a7V (hR:Rts l R) (hk:k<l.length) (h:nm l[k] p):ofN l R p=a0Q R l.length (R k):=by
 unfold ofN
 cases hf:a9y l p with
 |none=>exact absurd h (a6K.1 hf k hk)
 |some j=>
  obtain⟨hj,hn⟩:=a9z hf
  show a0Q R l.length (R j)=_
  rw[hR.share hj hk hn h]
theorem b5w (h:∀k (hk:k<l.length),¬nm l[k] p):ofN l R p=[]:=by unfold ofN;rw[a6K.2 h]
theorem c4v (hR:Rts l R) (p:ByteArray):(ofN l R p=[]∧∀k (hk:k<l.length),¬nm l[k] p)∨∃k,∃hk:k<l.length,nm l[k] p∧ofN l R p=a0Q R l.length (R k):=by
 cases hf:a9y l p with
 |none=>exact .inl ⟨by unfold ofN;rw[hf],a6K.1 hf⟩
 |some j=>
  obtain⟨hj,hn⟩:=a9z hf;exact .inr ⟨j,hj,hn,a7V hR hj hn⟩
theorem b3H {i:Nat} (h:i∈ofN l R p):i<l.length:=by
 unfold ofN at h
 split at h
 ·exact a5X h
 ·cases h
theorem c1F (hR:Rts l R):a0I l R p=[]↔ofN l R p=[]:=by
 unfold a0I
 constructor
 ·intro h
  have h1:=a2i (l:=l) (C:=ofN l R p) fun i hi=>b3H hi
  rw[h]at h1
  exact List.eq_nil_of_length_eq_zero h1.symm
 ·intro h;rw[h];rfl
theorem a3M {r:Rep} (h:r∈a0I l R p):r∈l:=a9Y h
theorem a5c:(a0I l R p).length≤l.length:=by
 unfold a0I;rw[a2i fun i hi=>b3H hi]
 have h1:(ofN l R p).length≤(List.range l.length).length:=by
  unfold ofN
  split
  ·exact List.length_filter_le _ _
  ·simp
 simpa using h1
end
end Go.Sx
set_option linter.all false
namespace Go.Sx
open Go
section
variable {c:List Kind} {l:List Rep} {i k:Nat}
theorem c5W (hc:a0Y c=true) (hp:∀q∈l,chs q≠0) (h30:l.length≤30):a7N c l=0:=c3C h30 hc hp
end
end Go.Sx
set_option linter.all false
namespace Go.Sx
open Go
section
variable {c:List Kind} {l:List Rep} {i k:Nat} {t:List Int}
theorem c0s (h:(a5G c l).2=0):(a5G c l).1∈a1F c l:=by
 have h1:(a1Z c l 1).2=0:=by rw[←b8w];exact h
 obtain⟨_,hn,e⟩:=a9j (by decide) (by decide) h1;unfold a5G;rw[if_neg (by rw[h1];decide),e]
 cases hq:a1F c l with
 |nil=>exact absurd hq hn
 |cons a b=>simp
end
end Go.Sx
set_option linter.all false
namespace Go.Sx
open Go
structure Plc where
 into:ByteArray
 slot:ByteArray
 deriving DecidableEq
def Plc.cells (x:Plc):List Value:=[.string x.into,.string x.slot]
instance:Enc Plc where
 k:=2
 rd _ vs x:=vs=x.cells
 len h:=by rw[h];rfl
 mono _ h:=h
 one h:=by rw[h];rfl
def c8w (s:List Part) (p:ByteArray):Part:=(a0T s p).getD zPart
def c8A (p:ByteArray) (s:List Part):Plc:=⟨(c8w s p).into,(c8w s p).slot⟩
def a8G (c:List Kind) (l own:List Rep):Int:=
 if a0Y c=false then 1 else if l.any (fun r=>!a0q r)=true then 1 else if own=[] then 2 else if (a1Z c own 4096).2≠0 then (a1Z c own 4096).2 else if (a1Z c own 4096).1.length=4096 then 7 else 0
section
variable {c:List Kind} {s a b:List Part} {p:ByteArray} {q:Part} {D:ByteArray→Bool}
theorem Spl.place (h:Spl D s a b) (hp:D p=true):c8A p s=c8A p a:=by unfold c8A c8w;rw[h.find hp]
end
end Go.Sx
set_option linter.all false
namespace Go.Sx
open Go
section
variable {c:List Kind} {l own:List Rep} {R:Nat→Nat} {p q y z:ByteArray} {day:Int} {α β:Type} [DecidableEq α] [DecidableEq β] {lt:α→α→Bool} {lt':β→β→Bool} {f:List Part→α} {g:List Part→β} {s:List Part}
theorem a7H:l.any (fun r=>!a0q r)=false↔∀r∈l,a0q r=true:=by
 rw[List.any_eq_false];exact⟨fun h r hr=>by simpa using h r hr,fun h r hr=>by simp[h r hr]⟩
theorem a6V (h:a8G c l own=0):a0Y c=true∧(∀r∈l,a0q r=true)∧own≠[]∧(a1Z c own 4096).2=0∧(a1Z c own 4096).1=a1F c own∧a1F c own≠[]:=by
 unfold a8G at h
 split at h
 ·cases h
 split at h
 ·cases h
 split at h
 ·cases h
 split at h
 ·rename_i h1 h2 h3 h4;exact absurd h h4
 split at h
 ·cases h
 rename_i h1 h2 h3 h4 h5
 have h4:(a1Z c own 4096).2=0:=by simpa using h4
 obtain⟨h6,h7,h8⟩:=a9j (by omega) (by omega) h4;refine⟨by simpa using h1,a7H.1 (by simpa using h2),h3,h4,?_,h7⟩;rw[h8]at h5 ⊢
 rw[List.length_take]at h5
 exact List.take_of_length_le (by omega)
theorem b3S (h:∀r∈l,a0q r=true):∀r∈a0I l R p,a0q r=true:=fun r hr=>h r (a3M hr)
theorem c3s (h:∀r∈l,a0q r=true):a8G c (a0I l R p) (a0I l R p)=a8G c l (a0I l R p):=by
 unfold a8G;rw[a7H.2 h,a7H.2 (b3S h)]
end
end Go.Sx
set_option linter.all false
namespace Go.Sx
open Go
section
variable {c:List Kind} {l:List Rep} {s:List Part} {R:Nat→Nat} {t T:List Int} {r k:Nat} {p:ByteArray} {day:Int}
theorem c6i:∀i∈a0Q R l.length r,i<l.length:=fun i hi=>a5X hi
theorem c5Y (hv:∀q∈l,a0q q=true) (ht:t∈a1L l):a1X l t l.length=(List.range l.length).filterMap (gE 40001 l t):=by
 unfold a1X;exact a6m fun i _=>b6w hv ht i
theorem d0x {i:Nat} {e:Evt} (htl:t.length=l.length) (he:gE 40001 l t i=some e):∃h:i<l.length,e∈l[i].options:=by
 rcases Nat.lt_or_ge i l.length with hi|hi
 ·rw[gE,a2I hi (by omega)]at he
  exact⟨hi,a8V (by simpa using he)⟩
 ·rw[gE,at2,List.getElem?_eq_none hi]at he;simp at he
theorem a6H (hR:Rts l R) (hp:∀q∈l,chs q≠0) (htl:t.length=l.length) {i:Nat} {e:Evt} (he:gE 40001 l t i=some e) {z:ByteArray} (hz:z∈a1a e) (r:Nat):b8l l R r z=decide (R i=r):=by
 obtain⟨hi,hm⟩:=d0x htl he;rw[Bool.eq_iff_iff,b4M,decide_eq_true_eq]
 constructor
 ·rintro⟨k,hk,rfl,f,hf,h2⟩;exact hR.share hi hk ⟨a4N (hp _ (List.getElem_mem hi)),e,hm,hz⟩ ⟨a4N (hp _ (List.getElem_mem hk)),f,hf,h2⟩
 ·rintro rfl;exact⟨i,hi,rfl,e,hm,hz⟩
theorem b3T (e:Evt):e.part∈a1a e:=by unfold a1a;split<;>simp
theorem c7g (hR:Rts l R) (hp:∀q∈l,chs q≠0) (ht:t∈a1L l) {e:Evt} (he:e∈a1X l t l.length) (r:Nat):Dev (b8l l R r) e∨Dev (fun n=>!b8l l R r n) e:=by
 have hv:∀q∈l,a0q q=true:=fun q hq=>a4N (hp q hq)
 rw[c5Y hv ht,List.mem_filterMap]at he
 obtain⟨i,hi,he⟩:=he
 have htl:=(a2x.1 ht).1
 by_cases h:R i=r
 ·exact .inl fun z hz=>by rw[a6H hR hp htl he hz];exact decide_eq_true h
 ·exact .inr fun z hz=>by show (!b8l l R r z)=true;rw[a6H hR hp htl he hz];simpa using h
theorem b8m (hR:Rts l R) (hp:∀q∈l,chs q≠0) (hc:a0Y c=true) (ht:t∈a1L l) (r:Nat):(a1X l t l.length).filter (fun e=>b8l l R r e.part)=a1X (a1S l (a0Q R l.length r)) (a1S t (a0Q R l.length r)) (a1S l (a0Q R l.length r)).length:=by
 have hv:∀q∈l,a0q q=true:=fun q hq=>a4N (hp q hq)
 have htl:=(a2x.1 ht).1
 have ha:=b1k hc hp ht (C:=a0Q R l.length r) c6i
 rw[←b6y (fun q hq=>hv q (a9Y hq)) ha,a7W htl c6i,c5Y hv ht];unfold a0Q;rw[List.filter_filterMap,List.filterMap_filter];refine a6m fun i _=>?_
 cases hq:gE 40001 l t i with
 |none=>simp
 |some e=>
  have:=a6H hR hp htl hq (b3T e) r
  simp[Option.filter_some,this]
theorem c2s (E:List Evt) (q:Evt→Bool) (day:Int):(upD E day).filter q=upD (E.filter q) day:=by
 unfold upD;rw[List.filter_filter,List.filter_filter]
 congr 1
 funext e
 exact Bool.and_comm _ _
theorem c7h (hk:k<l.length) (h:nm l[k] p):b8l l R (R k) p=true:=b4M.2 ⟨k,hk,rfl,h.2⟩
theorem b9p (hR:Rts l R) (hl:l.length<20000) (hT:T∈a1F c l) (hk:k<l.length) (hn:nm l[k] p) (ht:t∈a1F c (a0I l R p)):∃T'∈a1F c l,t=a1S T' (ofN l R p):=by
 obtain⟨hg,hc,hv,ha⟩:=a5j hT
 have hp:∀q∈l,chs q≠0:=fun q hq=>by have:=a9u (hv q hq);omega
 have hr:R k∈a0O R l.length:=a5W.2 ⟨Nat.lt_of_le_of_lt (hR.le k) hk,hR.idem k⟩
 have e:ofN l R p=a0Q R l.length (R k):=a7V hR hk hn
 unfold a0I at ht
 rw[e]at ht ⊢
 obtain⟨h1,h2⟩:=c0C hR hc hp hl (H:=fun r=>if r=R k then t else a1S T (a0Q R l.length r)) (fun r' hr'=>by
  by_cases h:r'=R k
  ·subst h;simpa using ht
  ·simpa[h]using b3m hR hc hp hl hT hr')
 exact⟨_,h1,by rw[h2 _ hr];simp⟩
theorem c7x {n:Nat} (hk:k<l.length) (hn:n<l[k].options.length) (hT:T.length=l.length) (he:T.getD k 0=(n:Int)):a1X (l.set k (a1B l[k] n)) (b9t k (fun _=>0) T) (l.set k (a1B l[k] n)).length=a1X l T l.length:=by
 rw[List.length_set];unfold a1X;refine a6m fun i hi=>?_
 have hi:=List.mem_range.1 hi
 rw[a9w (by rw[List.length_set];exact hi) (by simp[b9t];omega),a9w hi (by omega)]
 simp only[b9t,List.getElem_set]
 by_cases h:k=i
 ·subst h;rw[if_pos rfl]
  simp only[if_true]
  have h2:T[k]'(by omega)=(n:Int):=by rw[←he];simp[List.getD,hT,hk]
  rw[h2]
  simp[a1B,hn]
 ·rw[if_neg h,if_neg h]
end
end Go.Sx
set_option linter.all false
namespace Go.Sx
open Go
section
variable {l:List Rep} {R:Nat→Nat} {p:ByteArray} {k:Nat}
theorem c6D (hR:Rts l R) (h:∀i,i<l.length→R i=R 0) (hk:k<l.length) (hn:nm l[k] p):a0I l R p=l:=by
 have e:a0Q R l.length (R k)=List.range l.length:=List.filter_eq_self.2 fun i hi=>decide_eq_true (by rw[h i (List.mem_range.1 hi),h k hk])
 unfold a0I;rw[a7V hR hk hn,e,a5C]
end
section
variable {α:Type} [DecidableEq α] {lt:α→α→Bool}
end
end Go.Sx
set_option linter.all false
namespace Go.Sx
open Go
def Due.eqB (a b:Due):Bool:=decide (a.part=b.part)&&(decide (a.rule=b.rule)&&(decide (a.day=b.day)&&true))
theorem Due.eqB_eq (a b:Due):Due.eqB a b=decide (a=b):=by
 cases a;cases b;simp[Due.eqB]
structure Fn1 where
 k:FuncId
 cs:List Value
def Fn1.val (f:Fn1):Value:=.func (.func f.k) #[] f.cs.toArray
instance:Enc Fn1 where
 k:=1
 rd _ vs x:=vs=[x.val]
 len h:=by rw[h];rfl
 mono _ h:=h
 one h:=by rw[h];rfl
def LeastIs (l:List Int) (m:Int) (fd:Bool):Prop:=b0T l=(if fd=true then some m else none)∧(fd=false→m=0)
theorem LeastIs.nil:LeastIs [] 0 false:=⟨rfl,fun _=>rfl⟩
theorem b5n (l:List Int) (x:Int):b0T (l++[x])=some (match b0T l with|none=>x|some m=>min m x):=by
 cases l with
 |nil=>rfl
 |cons y l=>simp[b0T,List.foldl_append]
section
variable {l:List Int} {m x:Int} {fd:Bool}
theorem LeastIs.more (h:LeastIs l m true) (hc:¬x<m):LeastIs (l++[x]) m true:=by
 refine⟨?_,fun h=>by cases h⟩;rw[b5n,h.1]
 show some (min m x)=some m
 rw[Int.min_eq_left (by omega)]
theorem LeastIs.val (h:LeastIs l m fd):m=(b0T l).getD 0∧fd=(b0T l).isSome:=by
 cases fd with
 |false=>rw[h.1];exact⟨h.2 rfl,rfl⟩
 |true=>rw[h.1];exact⟨rfl,rfl⟩
end
theorem a8T {κ:Type} [DecidableEq κ] {k x:κ} {v:Value}:∀{kvs:List (κ×Value)},x∈(a5J kvs k v).map Prod.fst↔x=k∨x∈kvs.map Prod.fst
 | []=>by simp[a5J]
 |(k',u)::r=>by
  simp only[a5J]
  split
  ·rename_i h;subst h;simp
  ·simp only[List.map_cons,List.mem_cons,a8T (kvs:=r)]
   constructor
   ·rintro (h|h|h)
    ·exact .inr (.inl h)
    ·exact .inl h
    ·exact .inr (.inr h)
   ·rintro (h|h|h)
    ·exact .inr (.inl h)
    ·exact .inl h
    ·exact .inr (.inr h)
theorem b5t {κ:Type} [DecidableEq κ] {k:κ} {v:Value}:∀{kvs:List (κ×Value)},(kvs.map Prod.fst).Nodup→((a5J kvs k v).map Prod.fst).Nodup
 | [],_=>by simp[a5J]
 |(k',u)::r,h=>by
  obtain⟨h1,h2⟩:=List.nodup_cons.1 h
  simp only[a5J]
  split
  ·exact h
  ·rename_i hne
   refine List.nodup_cons.2 ⟨fun hm=>?_,b5t h2⟩
   rcases a8T.1 hm with e|hm
   ·exact hne e
   ·exact h1 hm
def KeysD (kvs:List (Due×Value)) (L:List Due):Prop:=(kvs.map Prod.fst).Nodup∧∀x,x∈kvs.map Prod.fst↔x∈L
theorem KeysD.nil:KeysD [] []:=⟨List.nodup_nil,fun x=>Iff.rfl⟩
section
variable {kvs:List (Due×Value)} {F:Dut→Option Due} {ds:List Dut} {i:Nat}
theorem KeysD.none (h:KeysD kvs ((ds.take i).filterMap F)) (hi:i<ds.length) (h0:F ds[i] = .none):KeysD kvs ((ds.take (i+1)).filterMap F):=by
 rw[←a0o hi,List.filterMap_append]
 simpa[h0]using h
theorem KeysD.some {x:Due} {v:Value} (h:KeysD kvs ((ds.take i).filterMap F)) (hi:i<ds.length) (h0:F ds[i] = .some x):KeysD (a5J kvs x v) ((ds.take (i+1)).filterMap F):=by
 rw[←a0o hi,List.filterMap_append];refine⟨b5t h.1,fun z=>?_⟩;rw[a8T,h.2,List.mem_append]
 simp[h0,or_comm]
end
section
variable {c:List Kind} {l:List Evt} {p:ByteArray} {day:Int} {ds:List Dut} {d:Dut} {k:ByteArray}
end
section
variable {d:Dut} {l:List Evt} {p:ByteArray} {day:Int}
end
end Go.Sx
set_option linter.all false
namespace Go.Sx
open Go
section
variable {α:Type} [Inhabited α] {w:World} {g t:Nat} {cur:Array Value}
end
def SrtP (l m:List ByteArray):Prop:=m.Perm l∧m.Pairwise fun a b=>sLt b a=false
section
variable {P:Program} {f:FuncId} {I:IMap}
end
end Go.Sx
set_option linter.all false
namespace Go.Sx
open Go
instance:Inhabited Due:=⟨⟨a1j,a1j,0⟩⟩
theorem KeysD.len {kvs:List (Due×Value)} {L:List Due} (h:KeysD kvs L):kvs.length≤L.length:=by
 have:=h.1.length_le_of_subset (l₂:=L) fun x hx=>(h.2 x).1 hx
 rwa[List.length_map]at this
section
variable {ds:List Dut} {c:List Kind} {l:List Evt} {p:ByteArray} {day:Int} {kvs done:List (Due×Value)}
end
def KeysN (kvs:List (ByteArray×Value)) (L:List ByteArray):Prop:=(kvs.map Prod.fst).Nodup∧∀x,x∈kvs.map Prod.fst↔x∈L
theorem KeysN.nil:KeysN [] []:=⟨List.nodup_nil,fun x=>Iff.rfl⟩
def c8b (day:Int) (done:List (Due×Value)):List ByteArray:=((done.map Prod.fst).filter fun x=>decide (x.day<day)).map Due.rule
theorem KeysN.len {day:Int} {done:List (Due×Value)} {ns:List (ByteArray×Value)} (h:KeysN ns (c8b day done)):ns.length≤done.length:=by
 have h1:=h.1.length_le_of_subset (l₂:=c8b day done) fun x hx=>(h.2 x).1 hx
 rw[List.length_map]at h1
 refine Nat.le_trans h1 ?_;unfold c8b;rw[List.length_map];exact Nat.le_trans (List.length_filter_le _ _) (by rw[List.length_map];exact Nat.le_refl _)
section
variable {ds:List Dut} {c:List Kind} {l:List Evt} {p:ByteArray} {day:Int} {kvs done:List (Due×Value)} {ns:List (ByteArray×Value)}
end
theorem SrtP.perm {l l' m:List ByteArray} (h:SrtP l m) (hp:l.Perm l'):SrtP l' m:=⟨h.1.trans hp,h.2⟩
section
variable {P:Program} {f:FuncId} {args:Array Value} {v:Value}
end
end Go.Sx
set_option linter.all false
namespace Go.Sx
open Go
section
variable {κ:Type} [DecidableEq κ]
def KeysG (kvs:List (κ×Value)) (L:List κ):Prop:=(kvs.map Prod.fst).Nodup∧∀x,x∈kvs.map Prod.fst↔x∈L
theorem KeysG.nil:KeysG ([]:List (κ×Value)) []:=⟨List.nodup_nil,fun x=>Iff.rfl⟩
theorem KeysG.put {kvs:List (κ×Value)} {L:List κ} {x:κ} {v:Value} (h:KeysG kvs L):KeysG (a5J kvs x v) (L++[x]):=
 ⟨b5t h.1,fun z=>by rw[a8T,h.2,List.mem_append,List.mem_singleton,or_comm]⟩
theorem KeysG.one {kvs:List (κ×Value)} {L m:List κ} {v:Value} (h:KeysG kvs L) (h1:m.length=1):KeysG (a5J kvs (m[0]'(by omega)) v) (L++m):=by
 match m,h1 with
 | [x],_=>exact h.put
theorem KeysG.zero {kvs:List (κ×Value)} {L m:List κ} (h:KeysG kvs L) (h0:¬((m.length:Nat):Int)=1) (hle:m.length≤1):KeysG kvs (L++m):=by
 match m with
 | []=>rw[List.append_nil];exact h
 | [x]=>exact absurd rfl h0
end
section
variable {ds:List Dut} {c:List Kind} {l:List Evt} {p:ByteArray} {day:Int} {i:Nat}
end
end Go.Sx
set_option linter.all false
namespace Go.Sx
open Go
def Plc.eqB (a b:Plc):Bool:=decide (a.into=b.into)&&(decide (a.slot=b.slot)&&true)
theorem Plc.eqB_eq (a b:Plc):Plc.eqB a b=decide (a=b):=by
 cases a;cases b;simp[Plc.eqB]
instance:Inhabited Plc:=⟨⟨a1j,a1j⟩⟩
theorem d0S (a b:List Nat):nI (a++b)=nI a++nI b:=by simp[nI]
theorem c1J {l:List Rep} {C:List Nat} {i:Nat} (hi:i<C.length) (h:C[i]<l.length):a1S l (C.take (i+1))=a1S l (C.take i)++[l[C[i]]]:=by
 rw[←a0o hi,a5Y,a3N h];rfl
theorem KeysG.len {κ:Type} [DecidableEq κ] {kvs:List (κ×Value)} {L:List κ} (h:KeysG kvs L):kvs.length≤L.length:=by
 have h1:(kvs.map Prod.fst).length≤L.length:=List.Nodup.length_le_of_subset h.1 fun x hx=>(h.2 x).1 hx
 simpa using h1
section
variable {κ:Type} {pre:List κ} {todo a b kvs:List (κ×Value)} {e:κ×Value}
end
section
variable {c:List Kind} {own:List Rep} {p:ByteArray} {day:Int} {all:List (List Int)} {i:Nat}
end
theorem d0h {c:List Kind} {l own:List Rep} (h:a0Y c=true) (h2:l.any (fun r=>!a0q r)=true):a8G c l own=1:=by unfold a8G;rw[if_neg (by simp[h]),if_pos h2]
theorem d0i {c:List Kind} {l own:List Rep} (h:a0Y c=true) (h2:l.any (fun r=>!a0q r)=false) (h3:own=[]):a8G c l own=2:=by unfold a8G;rw[if_neg (by simp[h]),if_neg (by simp[h2]),if_pos h3]
theorem d0j {c:List Kind} {l own:List Rep} (h:a0Y c=true) (h2:l.any (fun r=>!a0q r)=false) (h3:own≠[]):a8G c l own=if (a1Z c own 4096).2≠0 then (a1Z c own 4096).2 else if (a1Z c own 4096).1.length=4096 then 7 else 0:=by unfold a8G;rw[if_neg (by simp[h]),if_neg (by simp[h2]),if_neg h3]
section
variable {s:List Part} {q:ByteArray} {i:Nat} {y z:ByteArray}
end
end Go.Sx
set_option linter.all false
namespace Go.Sx
open Go
section
variable {c:List Kind} {f:Fm} {st:List Part} {l:List Evt} {p:Part} {e:Evt} {d:Ivl}
theorem c2w (hi:Inc Part.name st):Inc Part.name (useL st e d):=by
 unfold useL Inc;rw[List.pairwise_map];refine List.Pairwise.imp (fun {a b} h=>?_) hi
 split<;>split<;>exact h
theorem c5f {day:Int}:LfInv (runL f c l day).1:=by
 unfold runL
 split
 ·exact LfInv.nil
 ·exact b4h _ _ _ LfInv.nil
end
section
variable {p:Part} {s:ByteArray} {d:Int}
theorem c5D (h:a7i s=true) (hd:0≤d∧d≤40000):a7C p s d=(c2S p s d,0):=b4A h (by simp;omega)
end
end Go.Sx
set_option linter.all false
namespace Go.Sx
open Go
noncomputable def runsL (f:Fm) (c:List Kind):List Part→List Evt→Option (List Part)
 |st,[]=>some st
 |st,e::l=>if (a0n c st e).2=0 then runsL f c (applyL f c st e).1 l else none
section
variable {f:Fm} {c:List Kind} {D:ByteArray→Bool} {s a b:List Part} {d:Ivl} {v n:ByteArray}
theorem b7J:∀(l:List Evt) (st s:List Part) (z:Int),runsL f c st l=some s↔(runLGo f c st z l).2.2=0∧(runLGo f c st z l).1=s
 | [],st,s,z=>by simp[runsL,runLGo]
 |e::l,st,s,z=>by
  simp only[runsL,runLGo,a3H]
  by_cases h:(a0n c st e).2=0
  ·rw[if_pos h,if_pos h];exact b7J l _ s _
  ·rw[if_neg h,if_neg h]
   constructor
   ·intro h2;cases h2
   ·intro h2;exact absurd h2.1 h
theorem c6t (h:Spl D s a b) (hn:D n=true):upP s n=upP a n∧(upP a n=a1j∨D (upP a n)=true):=by
 refine⟨by unfold upP;rw[h.find hn],?_⟩;unfold upP
 cases hq:a0T a n with
 |none=>exact .inl rfl
 |some q=>exact (h.na q ((a1K h.ia).1 hq).1).2
theorem b7E (h:Spl D s a b):∀(k:Nat) (n:ByteArray),D n=true→a5q s v k n=a5q a v k n
 |0,_,_=>rfl
 |k+1,n,hn=>by
  obtain⟨h1,h2⟩:=c6t h hn
  simp only[a5q,h1]
  rcases h2 with h2|h2
  ·simp[h2]
  ·rw[b7E h k _ h2]
theorem b4b (h:Spl D s a b) (hv:D v=true):∀(k:Nat) (n:ByteArray),D n=false→a5q s v k n=false
 |0,_,_=>rfl
 |k+1,n,hn=>by
  obtain⟨h1,h2⟩:=c6t h.turn (n:=n) (by simpa using hn)
  simp only[a5q]
  rcases h2 with h2|h2
  ·rw[h1,h2];simp
  ·have h3:D (upP s n)=false:=by rw[h1];simpa using h2
   rw[b4b h hv k _ h3]
   have:¬upP s n=v:=fun e=>by rw[e,hv]at h3;cases h3
   simp[this]
theorem d0E (h:Spl D s a b) (hv:D v=true) (hn:D n=true):b1H s v n↔b1H a v n:=by
 unfold b1H;rw[h.find hv,h.find hn];refine and_congr_right fun _=>exists_congr fun k=>?_
 rw[b7E h k n hn]
theorem c7U (h:Spl D s a b) (hv:D v=true) (hn:D n=false):¬b1H s v n:=fun ⟨_,k,hk⟩=>by rw[b4b h hv k n hn]at hk;cases hk
theorem Spl.use (h:Spl D s a b) {e:Evt} (hv:D e.part=true):Spl D (useL s e d) (useL a e d) b:=by
 have hA:∀y∈a,(y.name=e.part∨b1H s e.part y.name)↔(y.name=e.part∨b1H a e.part y.name):=fun y hy=>by rw[d0E h hv (h.na y hy).1]
 have hB:∀y∈b,¬(y.name=e.part∨b1H s e.part y.name):=fun y hy=>by
  have hd:=(h.nb y hy).1
  rintro (h1|h1)
  ·rw[h1,hv]at hd;cases hd
  ·exact c7U h hv hd h1
 refine⟨c2w h.is,c2w h.ia,h.ib,fun x=>?_,fun x hx=>?_,h.nb⟩
 ·unfold useL;rw[List.mem_map,List.mem_map]
  constructor
  ·rintro⟨y,hy,rfl⟩
   rcases (h.mem y).1 hy with hy|hy
   ·refine .inl ⟨y,hy,?_⟩
    by_cases h1:y.name=e.part∨b1H s e.part y.name
    ·rw[if_pos h1,if_pos ((hA y hy).1 h1)]
    ·rw[if_neg h1,if_neg (fun h2=>h1 ((hA y hy).2 h2))]
   ·rw[if_neg (hB y hy)];exact .inr hy
  ·rintro (⟨y,hy,rfl⟩|hx)
   ·refine⟨y,(h.mem y).2 (.inl hy),?_⟩
    by_cases h1:y.name=e.part∨b1H s e.part y.name
    ·rw[if_pos h1,if_pos ((hA y hy).1 h1)]
    ·rw[if_neg h1,if_neg (fun h2=>h1 ((hA y hy).2 h2))]
   ·exact⟨x,(h.mem x).2 (.inr hx),if_neg (hB x hx)⟩
 ·unfold useL at hx
  obtain⟨y,hy,rfl⟩:=List.mem_map.1 hx
  split
  ·exact h.na y hy
  ·exact h.na y hy
theorem d1J {e:Evt} (h:VS c s) (hL:LfInv s) (he:a1v e=true) (h4:e.op=4):VS c (useL s e (b0r f e.use))∧LfInv (useL s e (b0r f e.use)):=by
 have hu:=c1V he h4
 have h1:=hL.use (d:=b0r f e.use) hu.1 hu.2.1 c0d
 refine⟨a2G.1 ?_,h1⟩;rw[←a7J h1,b6j,a7J hL];exact a2G.2 h
theorem b5T {e:Evt} (h:VS c s) (hL:LfInv s) (h0:(a0n c s e).2=0):VS c (applyL f c s e).1∧LfInv (applyL f c s e).1:=by
 refine⟨?_,hL.step⟩;obtain⟨p',hp⟩:=a4t h0;unfold applyL
 by_cases h4:e.op=4
 ·rw[if_pos ⟨h0,h4⟩,a6T h0 h4];exact (d1J h hL hp.ve h4).1
 ·rw[if_neg (fun h=>h4 h.2),a2Y hp];exact hp.valid
theorem b2F {e:Evt} (h:VS c s) (h0:(a0n c s e).2=0):(applyL f c s e).1.length≤s.length+1:=by
 obtain⟨p',hp⟩:=a4t h0
 have:=b1m (x:=p') h.inc
 unfold applyL
 split
 ·rename_i h4
  show (useL _ e _).length≤_
  rw[use_len,a2Y hp];exact this
 ·rw[a2Y hp];exact this
theorem Spl.stepL {e:Evt} (h:Spl D s a b) (he:Dev D e) (vs:VS c s) (va:VS c a) (ls:s.length<20000) (la:a.length<20000) (h0:(a0n c s e).2=0) :
  (a0n c a e).2=0∧Spl D (applyL f c s e).1 (applyL f c a e).1 b:=by
 obtain⟨p',hs⟩:=a4t h0
 have ha:=(h.step he vs va ls la p').1 hs
 have h1:(a0n c a e).2=0:=by rw[a2Y ha];rfl
 refine⟨h1,?_⟩;unfold applyL
 by_cases h4:e.op=4
 ·rw[if_pos ⟨h0,h4⟩,if_pos ⟨h1,h4⟩,a6T h0 h4,a6T h1 h4];exact h.use he.part
 ·rw[if_neg (fun h=>h4 h.2),if_neg (fun h=>h4 h.2),a2Y hs,a2Y ha];exact h.put he ha
theorem b0e:∀(Z:List Evt) (s a b t:List Part),Spl D s a b→VS c s→VS c a→VS c b→LfInv s→LfInv a→LfInv b→s.length+Z.length<20000→a.length+Z.length<20000→b.length+Z.length<20000 →
  (∀e∈Z,Dev D e∨Dev (fun n=>!D n) e)→runsL f c s Z=some t→∃a' b',runsL f c a (Z.filter fun e=>D e.part)=some a'∧runsL f c b (Z.filter fun e=>!D e.part)=some b'∧Spl D t a' b'
 | [],s,a,b,t,h,_,_,_,_,_,_,_,_,_,_,hr=>by simp only[runsL]at hr;cases hr;exact⟨a,b,rfl,rfl,h⟩
 |e::r,s,a,b,t,h,vs,va,vb,is,ia,ib,ls,la,lb,hd,hr=>by
  simp only[List.length_cons]at ls la lb
  simp only[runsL]at hr
  have h0:(a0n c s e).2=0:=by
   refine Decidable.by_contra fun h0=>?_
   rw[if_neg h0]at hr;cases hr
  rw[if_pos h0]at hr
  obtain⟨vs1,is1⟩:=b5T (f:=f) vs is h0
  have l1:=b2F (f:=f) vs h0
  rcases hd e (by simp) with he|he
  ·have hp:=he.part
   obtain⟨ha,hS⟩:=h.stepL (f:=f) he vs va (by omega) (by omega) h0;obtain⟨va1,ia1⟩:=b5T (f:=f) va ia ha
   have l2:=b2F (f:=f) va ha
   simp only[List.filter_cons,hp,Bool.not_true,if_true,Bool.false_eq_true,if_false]
   obtain⟨a',b',h1,h2,h3⟩:=b0e r _ _ _ t hS vs1 va1 vb is1 ia1 ib (by omega) (by omega) (by omega) (fun x hx=>hd x (by simp[hx])) hr;refine⟨a',b',?_,h2,h3⟩
   simp only[runsL]
   rw[if_pos ha];exact h1
  ·have hp:D e.part=false:=by simpa using he.part
   obtain⟨hb,hS⟩:=h.turn.stepL (f:=f) he vs vb (by omega) (by omega) h0;obtain⟨vb1,ib1⟩:=b5T (f:=f) vb ib hb
   have l2:=b2F (f:=f) vb hb
   have ht:=hS.turn
   have ht:Spl D (applyL f c s e).1 a (applyL f c b e).1:=⟨ht.is,ht.ia,ht.ib,ht.mem,fun x hx=>by simpa using ht.na x hx,fun x hx=>by simpa using ht.nb x hx⟩
   simp only[List.filter_cons,hp,Bool.not_false,if_true,Bool.false_eq_true,if_false]
   obtain⟨a',b',h1,h2,h3⟩:=b0e r _ _ _ t ht vs1 va vb1 is1 ia ib1 (by omega) (by omega) (by omega) (fun x hx=>hd x (by simp[hx])) hr;refine⟨a',b',h1,?_,h3⟩
   simp only[runsL]
   rw[if_pos hb];exact h2
end
section
variable {f:Fm} {c:List Kind} {l:List Rep} {s:List Part} {R:Nat→Nat} {t T:List Int} {E:List Evt} {r k:Nat} {p:ByteArray} {day:Int}
theorem c6G (hc:a0Y c=true) (hf:a1H f=true):runsL f c [] (a1n (upD E day))=some s↔(runL f c E day).2.2=0∧(runL f c E day).1=s:=by
 unfold runL;rw[if_neg (by simp[hc,hf])];exact b7J _ _ _ _
theorem d2O (hf:a1H f=true) (ht:t∈a1F c l) (day:Int):(runL f c (a1X l t l.length) day).2.2=0:=by
 have h:=b5p (f:=f) (c:=c) hf (a1X l t l.length) day
 have h2:=(c0I ht day).at0
 rw[←h]at h2;exact h2
theorem d0L (hf:a1H f=true) (ht:t∈a1F c l) (day:Int):runsL f c [] (a1n (upD (a1X l t l.length) day))=some (runL f c (a1X l t l.length) day).1:=
 (c6G (a5j ht).2.1 hf).2 ⟨d2O hf ht day,rfl⟩
theorem b1E (hf:a1H f=true) (hR:Rts l R) (hT:T∈a1F c l) (hl:l.length<20000) (hk:k<l.length) (hn:nm l[k] p) (day:Int) :
  a1S T (ofN l R p)∈a1F c (a0I l R p)∧a0T (runL f c (a1X l T l.length) day).1 p=a0T (runL f c (a1X (a0I l R p) (a1S T (ofN l R p)) (a0I l R p).length) day).1 p:=by
 obtain⟨hg,hc,hv,ha⟩:=a5j hT
 have hp:∀q∈l,chs q≠0:=fun q hq=>by have:=a9u (hv q hq);omega
 have hr:R k∈a0O R l.length:=a5W.2 ⟨Nat.lt_of_le_of_lt (hR.le k) hk,hR.idem k⟩
 have e:ofN l R p=a0Q R l.length (R k):=a7V hR hk hn
 have ht:=b3m hR hc hp hl hT hr
 unfold a0I;rw[e];refine⟨ht,?_⟩
 have h1:=d0L hf hT day
 have h2:=d0L hf ht day
 have hel:(a1n (upD (a1X l T l.length) day)).length<20000:=by
  rw[a4b];exact Nat.lt_of_le_of_lt (List.length_filter_le _ _) (Nat.lt_of_le_of_lt (b6x l T) hl)
 obtain⟨a',b',h3,_,h5⟩:=b0e (D:=b8l l R (R k)) (a1n (upD (a1X l T l.length) day)) [] [] [] _ (Spl.nil _) (b0p hc) (b0p hc) (b0p hc) LfInv.nil LfInv.nil LfInv.nil (by simpa using hel) (by simpa using hel) (by simpa using hel) (fun e he=>c7g hR hp ha (List.mem_filter.1 (a5t.1 he)).1 (R k)) h1;rw[a5s (fun e:Evt=>b8l l R (R k) e.part),c2s,b8m hR hp hc ha (R k),h2]at h3
 cases h3
 exact h5.find (c7h hk hn)
end
end Go.Sx
set_option linter.all false
namespace Go.Sx
open Go
def a8z:List Ivl→Ivl
 | []=>a4l
 |x::r=>r.foldl a2Q x
noncomputable def lifeA (f:Fm) (c:List Kind) (own:List Rep) (p:ByteArray) (day:Int):List (Option Part):=(a1Z c own 4096).1.map fun t=>a0T (runL f c (a1T own t).1 day).1 p
def a5h (f:Fm) (c:List Kind) (l own:List Rep) (day:Int):Int:=if (!a0Y c || !a1H f)=true then 1 else if (decide (day<0)||decide (day>40000))=true then 1 else a8G c l own
noncomputable def bndF (g:Option Part→Ivl) (f:Fm) (c:List Kind) (l own:List Rep) (p:ByteArray) (day:Int):Ivl×Int:=
 if a5h f c l own day≠0 then (a4l,a5h f c l own day) else if (lifeA f c own p day).any Option.isSome=false then (a4l,2) else (a8z ((lifeA f c own p day).map g),0)
def kmO (o:Option Part):Ivl:=(o.getD zPart).life.km
def cyO (o:Option Part):Ivl:=(o.getD zPart).life.cycles
def daO (o:Option Part):Ivl:=(o.getD zPart).life.damage
def b9o (s:ByteArray) (day:Int) (o:Option Part):Ivl:=match o with
 |some p=>(a7C p s day).1
 |none=>a4l
noncomputable def bndLife (f:Fm) (c:List Kind) (l own:List Rep) (p:ByteArray) (day:Int):Life×Int:=(⟨(bndF kmO f c l own p day).1,(bndF cyO f c l own p day).1,(bndF daO f c l own p day).1⟩,(bndF kmO f c l own p day).2)
noncomputable def bndVal (s:ByteArray) (f:Fm) (c:List Kind) (l own:List Rep) (p:ByteArray) (day:Int):Ivl×Int:=if a7i s=false then (a4l,15) else bndF (b9o s day) f c l own p day
theorem b3l:∀(L:List Ivl) (x:Ivl),a2p x=true→(∀y∈L,a2p y=true)→a2p (L.foldl a2Q x)=true∧(∀y,y=x∨y∈L→(L.foldl a2Q x).low≤y.low∧y.high≤(L.foldl a2Q x).high)∧(∃y,(y=x∨y∈L)∧y.low=(L.foldl a2Q x).low)∧(∃y,(y=x∨y∈L)∧y.high=(L.foldl a2Q x).high)
 | [],x,hx,_=>by
  refine⟨hx,fun y h=>?_,⟨x,.inl rfl,rfl⟩,⟨x,.inl rfl,rfl⟩⟩
  rcases h with rfl|h
  ·exact⟨Int.le_refl _,Int.le_refl _⟩
  ·cases h
 |z::L,x,hx,hL=>by
  have hz:=hL z (by simp)
  have e:=b6R hx hz
  obtain⟨h1,h2,⟨y1,h3,h4⟩,⟨y2,h5,h6⟩⟩:=b3l L (a2Q x z) a8M fun y hy=>hL y (by simp[hy])
  rw[List.foldl_cons]
  have hj:=h2 (a2Q x z) (.inl rfl)
  refine⟨h1,fun y hy=>?_,?_,?_⟩
  ·have e1:(a2Q x z).low=min x.low z.low:=by rw[e]
   have e2:(a2Q x z).high=max x.high z.high:=by rw[e]
   rcases hy with rfl|hy
   ·omega
   ·rcases List.mem_cons.1 hy with rfl|hy
    ·omega
    ·exact h2 y (.inr hy)
  ·rcases h3 with rfl|h3
   ·have e1:(a2Q x z).low=min x.low z.low:=by rw[e]
    by_cases hc:x.low≤z.low
    ·exact⟨x,.inl rfl,by omega⟩
    ·exact⟨z,.inr (by simp),by omega⟩
   ·exact⟨y1,.inr (by simp[h3]),h4⟩
  ·rcases h5 with rfl|h5
   ·have e2:(a2Q x z).high=max x.high z.high:=by rw[e]
    by_cases hc:z.high≤x.high
    ·exact⟨x,.inl rfl,by omega⟩
    ·exact⟨z,.inr (by simp),by omega⟩
   ·exact⟨y2,.inr (by simp[h5]),h6⟩
section
variable {L M:List Ivl} {x:Ivl}
theorem b2b (hL:∀y∈L,a2p y=true) (hn:L≠[]):a2p (a8z L)=true∧(∀y∈L,(a8z L).low≤y.low∧y.high≤(a8z L).high)∧(∃y∈L,y.low=(a8z L).low)∧(∃y∈L,y.high=(a8z L).high):=by
 cases L with
 |nil=>exact absurd rfl hn
 |cons x L=>
  obtain⟨h1,h2,⟨y1,h3,h4⟩,⟨y2,h5,h6⟩⟩:=b3l L x (hL x (by simp)) fun y hy=>hL y (by simp[hy])
  exact⟨h1,fun y hy=>h2 y (List.mem_cons.1 hy),⟨y1,List.mem_cons.2 h3,h4⟩,⟨y2,List.mem_cons.2 h5,h6⟩⟩
theorem c4b (hL:∀y∈L,a2p y=true) (hs:∀y∈M,y∈L) (hn:M≠[]):(a8z L).low≤(a8z M).low∧(a8z M).high≤(a8z L).high:=by
 have hLn:L≠[]:=by
  intro e;obtain⟨y,hy⟩:=List.exists_mem_of_ne_nil _ hn
  have:=hs y hy;rw[e]at this;cases this
 obtain⟨_,h2,_,_⟩:=b2b hL hLn;obtain⟨_,_,⟨y1,h3,h4⟩,⟨y2,h5,h6⟩⟩:=b2b (fun y hy=>hL y (hs y hy)) hn
 have a1:=h2 y1 (hs y1 h3)
 have a2:=h2 y2 (hs y2 h5)
 omega
end
section
variable {f:Fm} {c:List Kind} {l own:List Rep} {R:Nat→Nat} {p s:ByteArray} {day:Int} {g g':Option Part→Ivl} {k:Nat}
theorem a5x (h:(bndF g f c l own p day).2=0):a5h f c l own day=0∧(lifeA f c own p day).any Option.isSome=true∧(bndF g f c l own p day).1=a8z ((lifeA f c own p day).map g):=by
 unfold bndF at h ⊢
 by_cases h1:a5h f c l own day≠0
 ·rw[if_pos h1]at h;exact absurd h h1
 ·rw[if_neg h1]at h ⊢
  by_cases h2:(lifeA f c own p day).any Option.isSome=false
  ·rw[if_pos h2]at h;cases h
  ·rw[if_neg h2];exact⟨by simpa using h1,by cases hb:(lifeA f c own p day).any Option.isSome<;>simp_all,rfl⟩
theorem b1O (h:(bndF g f c l own p day).2≠0):(bndF g f c l own p day).1=a4l:=by
 unfold bndF at h ⊢
 split
 ·rfl
 ·rename_i h1
  rw[if_neg h1]at h
  split
  ·rfl
  ·rename_i h2;rw[if_neg h2]at h;exact absurd rfl h
theorem a4R:(bndF g f c l own p day).2=(bndF g' f c l own p day).2:=by
 unfold bndF
 split
 ·rfl
 ·split<;>rfl
theorem a5i (h:a5h f c l own day=0):a1H f=true∧(0≤day∧day≤40000)∧a8G c l own=0:=by
 unfold a5h at h
 split at h
 ·cases h
 split at h
 ·cases h
 rename_i h1 h2
 simp at h1 h2
 exact⟨h1.2,by omega,h⟩
theorem c6L (h:a5h f c l own day=0):(bndF g f c l own p day).2=0∨(bndF g f c l own p day).2=2:=by
 unfold bndF;rw[if_neg (by simp[h])]
 split
 ·exact .inr rfl
 ·exact .inl rfl
theorem b2j (hf:a1H f=true) (h:a8G c l own=0) {o:Option Part}:o∈lifeA f c own p day↔∃t∈a1F c own,o=a0T (runL f c (a1X own t own.length) day).1 p:=by
 obtain⟨_,_,_,_,h1,_⟩:=a6V h;unfold lifeA;rw[h1,List.mem_map]
 constructor
 ·rintro⟨t,ht,rfl⟩;rw[(b2a ht).1];exact⟨t,ht,rfl⟩
 ·rintro⟨t,ht,rfl⟩;exact⟨t,ht,by rw[(b2a ht).1]⟩
theorem a9L {i:Ivl} (h:a3k i=true):a2p i=true:=by
 rw[a7S]at h
 rw[a1k];omega
theorem b2k (hf:a1H f=true) (h:a8G c l own=0) {o:Option Part} (ho:o∈lifeA f c own p day):c5I (o.getD zPart):=by
 obtain⟨t,ht,rfl⟩:=(b2j hf h).1 ho
 cases hq:a0T (runL f c (a1X own t own.length) day).1 p with
 |none=>exact a9g
 |some q=>exact c5f q (List.mem_of_find?_eq_some hq)
theorem d0I (hf:a1H f=true) (h:a8G c l own=0):(∀o∈lifeA f c own p day,a2p (kmO o)=true)∧(∀o∈lifeA f c own p day,a2p (cyO o)=true)∧(∀o∈lifeA f c own p day,a2p (daO o)=true):=
 ⟨fun o ho=>a9L (b2k hf h ho).1.1,fun o ho=>a9L (b2k hf h ho).1.2,fun o ho=>a9L (b2k hf h ho).2⟩
theorem a9o (hok:∀o∈lifeA f c own p day,a2p (g o)=true) (h:(bndF g f c l own p day).2=0):(∀o∈lifeA f c own p day,(bndF g f c l own p day).1.low≤(g o).low∧(g o).high≤(bndF g f c l own p day).1.high) ∧
  (∃o∈lifeA f c own p day,(g o).low=(bndF g f c l own p day).1.low)∧(∃o∈lifeA f c own p day,(g o).high=(bndF g f c l own p day).1.high):=by
 obtain⟨hE,hs,e⟩:=a5x h;rw[e]
 have hn:lifeA f c own p day≠[]:=by intro e;rw[e]at hs;cases hs
 obtain⟨_,h1,⟨y1,h2,h3⟩,⟨y2,h4,h5⟩⟩:=b2b (L:=(lifeA f c own p day).map g) (fun y hy=>by obtain⟨z,hz,rfl⟩:=List.mem_map.1 hy;exact hok z hz) (by simpa using hn);obtain⟨z1,hz1,rfl⟩:=List.mem_map.1 h2;obtain⟨z2,hz2,rfl⟩:=List.mem_map.1 h4;exact⟨fun o ho=>h1 _ (List.mem_map.2 ⟨o,ho,rfl⟩),⟨z1,hz1,h3⟩,⟨z2,hz2,h5⟩⟩
theorem c3m (hv:∀r∈l,a0q r=true):a5h f c (a0I l R p) (a0I l R p) day=a5h f c l (a0I l R p) day:=by unfold a5h;rw[c3s hv]
theorem b0l (hd:0≤day∧day≤40000) (o:Option Part):b9o sKm day o=kmO o∧b9o a2T day o=cyO o∧b9o a3e day o=daO o:=by
 cases o with
 |none=>exact⟨rfl,rfl,rfl⟩
 |some q=>
  refine⟨?_,?_,?_⟩<;>(unfold b9o;dsimp only;rw[c5D (by decide +kernel) hd])<;>unfold c2S
  ·rw[if_pos rfl];rfl
  ·rw[if_neg (by decide +kernel),if_pos rfl];rfl
  ·rw[if_neg (by decide +kernel),if_neg (by decide +kernel),if_pos rfl];rfl
theorem a9n (h:a5h f c l own day=0→∀o,g o=g' o):bndF g f c l own p day=bndF g' f c l own p day:=by
 unfold bndF
 by_cases h1:a5h f c l own day≠0
 ·rw[if_pos h1,if_pos h1]
 ·rw[if_neg h1,if_neg h1]
  have e:g=g':=funext (h (by simpa using h1))
  rw[e]
theorem b2U:bndVal sKm f c l own p day=bndF kmO f c l own p day∧bndVal a2T f c l own p day=bndF cyO f c l own p day∧bndVal a3e f c l own p day=bndF daO f c l own p day:=by
 unfold bndVal;refine⟨?_,?_,?_⟩
 ·rw[if_neg (by decide +kernel)];exact a9n fun h o=>(b0l (a5i h).2.1 o).1
 ·rw[if_neg (by decide +kernel)];exact a9n fun h o=>(b0l (a5i h).2.1 o).2.1
 ·rw[if_neg (by decide +kernel)];exact a9n fun h o=>(b0l (a5i h).2.1 o).2.2
end
end Go.Sx
set_option linter.all false
namespace Go.Sx
open Go
section
variable {f:Fm} {c:List Kind} {l own:List Rep} {R:Nat→Nat} {p:ByteArray} {day:Int} {g:Option Part→Ivl} {k:Nat}
theorem b8b:∀{l:List Rep} {k:Nat} {r:Rep},chs r=1→(∀q∈l,chs q≠0)→a4O (l.set k r)≤a4O l
 | [],_,_,_,_=>Nat.le_refl _
 |a::l,0,r,h,hp=>by
  have h2:=hp a (by simp)
  have h3:=b0K a
  show (chs r).toNat * a4O l≤(chs a).toNat * a4O l
  exact Nat.mul_le_mul_right _ (by omega)
 |a::l,k+1,r,h,hp=>Nat.mul_le_mul_left _ (b8b h fun q hq=>hp q (by simp[hq]))
theorem c1G:(a0I l R p).Sublist l:=by
 have h1:(ofN l R p).Sublist (List.range l.length):=by
  unfold ofN
  split
  ·exact List.filter_sublist
  ·exact List.nil_sublist _
 have h2:=h1.filterMap fun i=>l[i]?
 have h3:a1S l (List.range l.length)=l:=a5C l
 unfold a1S at h3
 rw[h3]at h2
 exact h2
theorem b4K {R':Nat→Nat} {n:Nat} (h30:own.length≤30) (hw:a4O own≤4095) (hk:k<own.length) (hn:n<own[k].options.length) (hR':Rts (own.set k (a1B own[k] n)) R') (h0:a5h f c l own day=0) (hv:∀r∈own,a0q r=true) (hH:a1F c (own.set k (a1B own[k] n))≠[]) :
  (a5h f c (own.set k (a1B own[k] n)) (a0I (own.set k (a1B own[k] n)) R' p) day=0∧∀o∈lifeA f c (a0I (own.set k (a1B own[k] n)) R' p) p day,o∈lifeA f c own p day)∨a5h f c (own.set k (a1B own[k] n)) (a0I (own.set k (a1B own[k] n)) R' p) day=2:=by
 obtain⟨hf,hd,hC⟩:=a5i h0;obtain⟨hc,_,_,_,_,_⟩:=a6V hC
 have hp:∀q∈own,chs q≠0:=fun q hq=>by have:=a9u (hv q hq);omega
 have hlen:(own.set k (a1B own[k] n)).length=own.length:=List.length_set
 have hv1:a0q own[k]=true:=hv _ (List.getElem_mem hk)
 have hv':∀r∈own.set k (a1B own[k] n),a0q r=true:=fun r hr=>by
  rcases List.mem_or_eq_of_mem_set hr with h|rfl
  ·exact hv r h
  ·exact b3I hv1 hn
 have hp':∀q∈own.set k (a1B own[k] n),chs q≠0:=fun q hq=>by have:=a9u (hv' q hq);omega
 obtain⟨H,hHm⟩:=List.exists_mem_of_ne_nil _ hH
 have hE0:a5h f c (own.set k (a1B own[k] n)) (a0I (own.set k (a1B own[k] n)) R' p) day=a8G c (own.set k (a1B own[k] n)) (a0I (own.set k (a1B own[k] n)) R' p):=by
  unfold a5h;rw[if_neg (by simp[hc,hf]),if_neg (by simp;omega)]
 rw[hE0]
 by_cases ho:a0I (own.set k (a1B own[k] n)) R' p=[]
 ·right
  unfold a8G;rw[if_neg (by simp[hc]),if_neg (by rw[a7H.2 hv'];decide),if_pos ho]
 left
 rcases c4v hR' p with ⟨he,_⟩|⟨i,hi,hni,he⟩
 ·exact absurd ((c1F hR').2 he) ho
 have hio:∀t∈a1F c (own.set k (a1B own[k] n)),a1S t (ofN (own.set k (a1B own[k] n)) R' p)∈a1F c (a0I (own.set k (a1B own[k] n)) R' p):=fun t ht=>(b1E hf hR' ht (by omega) hi hni day).1
 have hpo:∀q∈a0I (own.set k (a1B own[k] n)) R' p,chs q≠0:=fun q hq=>hp' q (a3M hq)
 have hlo:(a0I (own.set k (a1B own[k] n)) R' p).length≤30:=Nat.le_trans a5c (by omega)
 have herr:=c5W hc hpo hlo
 have hne:a1F c (a0I (own.set k (a1B own[k] n)) R' p)≠[]:=fun e=>by have:=hio H hHm;rw[e]at this;cases this
 have hways:(a1F c (a0I (own.set k (a1B own[k] n)) R' p)).length≤4095:=
  Nat.le_trans (c3Y c _) (Nat.le_trans (b8c c1G hp') (Nat.le_trans (b8b (c1A hv1 hn) hp) hw))
 have hal:a1Z c (a0I (own.set k (a1B own[k] n)) R' p) 4096=(a1F c (a0I (own.set k (a1B own[k] n)) R' p),0):=by
  have ht:(a1F c (a0I (own.set k (a1B own[k] n)) R' p)).take (4096:Int).toNat=a1F c (a0I (own.set k (a1B own[k] n)) R' p):=List.take_of_length_le (by show _≤4096;omega)
  rw[b6e (by omega) (by omega) herr,ht,if_neg hne]
 have hcas:a8G c (own.set k (a1B own[k] n)) (a0I (own.set k (a1B own[k] n)) R' p)=0:=by
  unfold a8G;rw[if_neg (by simp[hc]),if_neg (by rw[a7H.2 hv'];decide),if_neg ho,hal];rw[if_neg (by simp),if_neg (by show ¬(a1F c _).length=4096;omega)]
 refine⟨hcas,fun o hom=>?_⟩;obtain⟨t,ht,rfl⟩:=(b2j hf hcas).1 hom;obtain⟨T',hT',e'⟩:=b9p hR' (by omega) hHm hi hni ht;obtain⟨_,w⟩:=b1E hf hR' hT' (by omega) hi hni day;rw[←e']at w
 rw[c3Z (c5W hc hp h30) hk hn,d2W]at hT'
 obtain⟨T,hT,rfl⟩:=List.mem_map.1 hT';obtain⟨hTm,hTk⟩:=List.mem_filter.1 hT
 have hTk:T.getD k 0=(n:Int):=of_decide_eq_true hTk
 have hTl:=(a2x.1 (a4D hTm)).1
 rw[c7x hk hn hTl hTk]at w
 exact (b2j hf hC).2 ⟨T,hTm,w.symm⟩
theorem b1P {own2 l2:List Rep} (hok:∀o∈lifeA f c own p day,a2p (g o)=true) (hs:∀o∈lifeA f c own2 p day,o∈lifeA f c own p day) (h:(bndF g f c l own p day).2=0) (h2:(bndF g f c l2 own2 p day).2=0) :
  (bndF g f c l own p day).1.low≤(bndF g f c l2 own2 p day).1.low∧(bndF g f c l2 own2 p day).1.high≤(bndF g f c l own p day).1.high:=by
 rw[(a5x h).2.2,(a5x h2).2.2];refine c4b (fun y hy=>by obtain⟨z,hz,rfl⟩:=List.mem_map.1 hy;exact hok z hz) (fun y hy=>?_) ?_
 ·obtain⟨z,hz,rfl⟩:=List.mem_map.1 hy;exact List.mem_map.2 ⟨z,hs z hz,rfl⟩
 ·have:=(a5x h2).2.1
  intro e
  have e2:lifeA f c own2 p day=[]:=by simpa using e
  rw[e2]at this;cases this
end
end Go.Sx
set_option linter.all false
namespace Go.Sx
open Go
def bxF:Fm:=.mk 2 0 []
def bxC:List Kind:=[⟨c1n,true,[]⟩]
def a8l:Evt:=⟨1,0,nV1,c1n,a1j,a1j,a1j,a1j,d2h⟩
def a4X (d k:Int):Evt:=⟨4,d,nV1,a1j,a1j,a1j,a1j,a1j,⟨⟨k,k⟩,⟨0,0⟩,⟨0,0⟩⟩⟩
def bxL:List Rep:=[⟨[a8l],false⟩,⟨[a4X 1 10,a4X 2 20],false⟩]
def nV2:ByteArray:=⟨#[118,50]⟩
def c6o:ByteArray:=⟨#[121,101,97,114,115]⟩
def bxP (k:Int):Part:=⟨nV1,c1n,a1j,a1j,0,0,false,[],⟨⟨k,k⟩,⟨0,0⟩,⟨k,k⟩⟩⟩
theorem b2Y:SmC bxC:=c0o (by decide +kernel)
theorem b9O:∀r∈bxL,∀e∈r.options,SmE e:=by
 intro r hr e he
 simp only[bxL,List.mem_cons,List.not_mem_nil,or_false]at hr
 rcases hr with rfl|rfl<;>simp only[List.mem_cons,List.not_mem_nil,or_false]at he
 ·subst he;exact⟨by decide,by decide,by decide,by decide,by decide,by decide⟩
 ·rcases he with rfl|rfl<;>exact⟨by decide,by decide,by decide,by decide,by decide,by decide⟩
theorem b9N:a1Z bxC bxL 4096=([[0,0],[0,1]],0):=by decide +kernel
theorem c9Y:runL bxF bxC (a1T bxL [0,0]).1 0=([bxP 0],-1,0):=a7Z (by decide +kernel)
theorem c9Z:runL bxF bxC (a1T bxL [0,1]).1 0=([bxP 0],-1,0):=a7Z (by decide +kernel)
theorem d0a:runL bxF bxC (a1T bxL [0,0]).1 1=([bxP 10],-1,0):=a7Z (by decide +kernel)
theorem d0b:runL bxF bxC (a1T bxL [0,1]).1 1=([bxP 0],-1,0):=a7Z (by decide +kernel)
theorem d0c:runL bxF bxC (a1T bxL [0,0]).1 2=([bxP 10],-1,0):=a7Z (by decide +kernel)
theorem d0d:runL bxF bxC (a1T bxL [0,1]).1 2=([bxP 20],-1,0):=a7Z (by decide +kernel)
theorem d2s:lifeA bxF bxC bxL nV1 0=[some (bxP 0),some (bxP 0)]:=by
 unfold lifeA;rw[b9N];simp only[List.map_cons,List.map_nil];rw[c9Y,c9Z];rfl
theorem d2t:lifeA bxF bxC bxL nV1 1=[some (bxP 10),some (bxP 0)]:=by
 unfold lifeA;rw[b9N];simp only[List.map_cons,List.map_nil];rw[d0a,d0b];rfl
theorem c6Q:lifeA bxF bxC bxL nV1 2=[some (bxP 10),some (bxP 20)]:=by
 unfold lifeA;rw[b9N];simp only[List.map_cons,List.map_nil];rw[d0c,d0d];rfl
theorem d2p:a5h bxF bxC bxL bxL 0=0:=by decide +kernel
theorem d2q:a5h bxF bxC bxL bxL 1=0:=by decide +kernel
theorem c6P:a5h bxF bxC bxL bxL 2=0:=by decide +kernel
theorem d2u:bndVal sKm bxF bxC bxL bxL nV1 0=(⟨0,0⟩,0):=by
 rw[b2U.1];unfold bndF;rw[if_neg (by rw[d2p];decide),d2s];decide +kernel
theorem d2v:bndVal sKm bxF bxC bxL bxL nV1 1=(⟨0,10⟩,0):=by
 rw[b2U.1];unfold bndF;rw[if_neg (by rw[d2q];decide),d2t];decide +kernel
theorem d2r:bndF kmO bxF bxC bxL bxL nV1 2=(⟨10,20⟩,0):=by
 unfold bndF;rw[if_neg (by rw[c6P];decide),c6Q];decide +kernel
theorem d2o:bndF daO bxF bxC bxL bxL nV1 2=(⟨10,20⟩,0):=by
 unfold bndF;rw[if_neg (by rw[c6P];decide),c6Q];decide +kernel
theorem d2n:bndF cyO bxF bxC bxL bxL nV1 2=(⟨0,0⟩,0):=by
 unfold bndF;rw[if_neg (by rw[c6P];decide),c6Q];decide +kernel
theorem c6R:bndLife bxF bxC bxL bxL nV1 2=(⟨⟨10,20⟩,⟨0,0⟩,⟨10,20⟩⟩,0):=by unfold bndLife;rw[d2r,d2n,d2o]
theorem c6S:(bndLife bxF bxC bxL [] nV2 2).2=2:=by
 have h:a5h bxF bxC bxL [] 2=2:=by decide +kernel
 show (bndF kmO bxF bxC bxL [] nV2 2).2=2
 unfold bndF;rw[if_pos (by rw[h];decide),h]
theorem c3q:∀own p d,bndVal c6o bxF bxC bxL own p d=(a4l,15):=fun own p d=>if_pos (by decide +kernel)
theorem c6O {R:Nat→Nat} (hR:Rts bxL R):a0I bxL R nV1=bxL∧a0I bxL R nV2=[]:=by
 have h1:R 1=R 0:=hR.share (l:=bxL) (i:=1) (k:=0) (z:=nV1) (by decide) (by decide) (a6O.1 (by decide +kernel)) (a6O.1 (by decide +kernel))
 refine⟨c6D hR (fun i hi=>?_) (k:=0) (by decide) (a6O.1 (by decide +kernel)),(c1F hR).2 (b5w fun k hk hn=>?_)⟩
 ·match i,hi with
  |0,_=>rfl
  |1,_=>exact h1
  |n+2,hi=>exact absurd hi (by show ¬n+2<2;omega)
 ·have hk2:k<2:=hk
  have hn:=a6O.2 hn
  match k,hk with
  |0,_=>exact (show ¬nmB (bxL[0]'(by decide)) nV2=true by decide +kernel) hn
  |1,_=>exact (show ¬nmB (bxL[1]'(by decide)) nV2=true by decide +kernel) hn
  |n+2,hi=>omega
end Go.Sx
namespace Go.Proofs.YtdapmfkbpnjkmaaGreat
open Go Go.Sx
set_option linter.all false
set_option maxRecDepth 20000
set_option maxHeartbeats 4000000
instance T.by_55:Has (a2B Tryz.prog 55) ([.string ⟨#[]⟩,.string ⟨#[]⟩],2,32):=⟨by kernel_rfl⟩
instance T.by_64:Has (a2B Tryz.prog 64) ([.slice none 0 0,.bool false],2,32):=⟨by kernel_rfl⟩
instance T.elt_29:Has (a8v Tryz.prog 29) (55,2):=⟨by kernel_rfl⟩
instance T.fld_55_0:Has (a3G Tryz.prog 55 0) (0,false,1):=⟨by kernel_rfl⟩
instance T.fld_55_1:Has (a3G Tryz.prog 55 1) (1,false,1):=⟨by kernel_rfl⟩
instance T.pl_55:Has (plK Tryz.prog 55) [(0,1),(1,1)]:=⟨by kernel_rfl⟩
instance T.ty_103:Has (tyK Tryz.prog 103) (false,1):=⟨by kernel_rfl⟩
instance T.ty_111:Has (tyK Tryz.prog 111) (false,1):=⟨by kernel_rfl⟩
instance T.ty_178:Has (tyK Tryz.prog 178) (false,1):=⟨by kernel_rfl⟩
instance T.ty_184:Has (tyK Tryz.prog 184) (false,1):=⟨by kernel_rfl⟩
instance T.ty_29:Has (tyK Tryz.prog 29) (false,1):=⟨by kernel_rfl⟩
instance T.ty_55:Has (tyK Tryz.prog 55) (true,2):=⟨by kernel_rfl⟩
instance T.und_178:Has (Tryz.prog.underlying 178) (.map 55 4):=⟨by kernel_rfl⟩
instance T.und_29:Has (Tryz.prog.underlying 29) (.slice 55):=⟨by kernel_rfl⟩
instance T.zero_178:Has (a2e Tryz.prog 178) [.map none]:=⟨by kernel_rfl⟩
instance T.zero_184:Has (a2e Tryz.prog 184) [.map none]:=⟨by kernel_rfl⟩
instance T.zero_25:Has (a2e Tryz.prog 25) [.slice none 0 0]:=⟨by kernel_rfl⟩
instance T.zero_55:Has (a2e Tryz.prog 55) [.string ⟨#[]⟩,.string ⟨#[]⟩]:=⟨by kernel_rfl⟩
theorem d0M (I:IMap) (v:Value) (l:List Rep) (hv:RdS I v l) (hl:l.length≤1000000) (hsl:∀r∈l,∀e∈r.options,SmE e) (p:ByteArray) (R:Nat→Nat) (hRt:Rts l R) :
    FnI Tryz.prog 33 #[v,.string p] I (fun u J=>RdS J u (nI (ofN l R p))):=by
 refine enter Tryz.func33 Tryz.call33 rfl Tryz.ntmps33 rfl (fun w0=>?_);refine go 9 ?_;refine c1t (b8K _ _ l hv hl hsl) rfl rfl (fun v13 I13 H13 j13 q13=>?_);obtain⟨w,m,F,kvs,fm,rfl,rfl,hK,hM⟩:=q13
 have hR:rt F=R:=(hK.done (fun k z hk h=>⟨hk,h⟩)).uniq hRt
 have hFl:=hK.len
 refine go 11 ?_;refine o_v rfl (a8s m1 (a0S he) he he (p) rfl rfl rfl rfl) ?_;refine go 14 ?_;refine cb rfl (fun h23 p23=>?_) (fun h23 p23=>?_)
 ·have hq0:fm p=none:=by
    cases hq:fm p with
    |none=>rfl
    |some q=>rw[hM,hq]at h23;cases h23
  refine go 7 ?_;refine a0u rfl rfl ?_
  have hno:ofN l R p=[]:=b5w fun k hk h=>by obtain⟨q,hq,_⟩:=hK.seen k p ⟨hk,h⟩;rw[hq0]at hq;cases hq
  exact q_i (by rw[hno];exact RdS.nil')
 ·obtain⟨q,hq⟩:∃q,fm p=some q:=by
    cases hq:fm p with
    |none=>rw[hM,hq]at h23;cases h23
    |some q=>exact⟨q,rfl⟩
  have hmg:(a4U kvs p).getD (.int .i64 0) = .int .i64 (q:Int):=by rw[hM,hq];rfl
  rw[hmg];obtain⟨hql,hqh,hqn⟩:=hK.own _ q hq;refine go 4 ?_;refine a1i 3 1 ?_;refine go 6 ?_;refine a0f ?_;refine a3R (fun Aw cw hw=>?_);subst hw;refine go 6 ?_;refine a0r ?_;refine a0b ?_
  refine b1R ((0:Nat)) (F) (_) ([]) (I13) (fun i F1 v9 xs J=>J)
   (fun i F1 v9 xs J=>[(5,.slice Aw F.length cw),(7,.int .i64 ((q:Nat):Int)),(9,v9),(25,.int .i64 ((F.length:Nat):Int)),(26,.int .i64 ((i:Nat):Int))])
   (fun i F1 v9 xs J=>.row (.slice Aw F.length cw) 3 1 F.length (a5f F1).flatten :: .row v9 3 1 (a0Q R i (R q)).length xs::([]:List Res))
   (fun i F1 v9 xs J=>i≤F.length∧F1.length=F.length∧Fst F1∧(∀k,rt F1 k=R k)∧ILe I13 J∧Flat J xs (nI (a0Q R i (R q))))
   (fun i F1 v9 xs J=>F.length-i) ⟨Nat.zero_le _,rfl,hK.fst,fun k=>by rw[hR],ILe.refl _,.nil⟩ rfl sb rfl ?_
  intro i F1 v9 xs J ⟨hi,hF1l,hF1,hr1,hJ,hF⟩
  have hml:(a0Q R i (R q)).length≤i:=by unfold a0Q;exact Nat.le_trans (List.length_filter_le _ _) (by rw[List.length_range];exact Nat.le_refl _)
  refine go 6 ?_;refine cb rfl (fun h27 p27=>?_) (fun h27 p27=>?_)
  ·have hlt:i<F.length:=by omega
   refine go 12 ?_;refine a7A (a2j F1) (by rw[a3S];exact hF1l) (fun h0 _=>by omega) (fun g9 cap9 rest9 hv9 hR9 hc9 hl9=>?_)
   cases hv9
   refine go 3 ?_;refine a7U (hF1l▸a8Q _ g9 cw F1 rest9 hR9 hF1 i (by omega)) rfl rfl (fun v31 I31 s31 j31 q31=>?_)
   have hF:=hF.le j31
   obtain⟨G,rfl,rfl,hG,hFG,hr⟩:=q31;rw[hr1 i];refine go 3 ?_;refine a7U (hG▸a8Q _ g9 cw G rest9 hR9 hFG q (by omega)) rfl rfl (fun v34 I34 s34 j34 q34=>?_)
   have hF:=hF.le j34
   obtain⟨G2,rfl,rfl,hG2,hFG2,hr2⟩:=q34;rw[hr q,hr1 q];refine a2z (a2j G2) hR9 (by rw[a3S];omega) hc9 hl9 ?_;refine go 3 ?_;refine cb rfl (fun h35 p35=>?_) (fun h35 p35=>?_)
   ·refine go 4 ?_;refine a0d he he rfl rfl rfl rfl rfl rfl rfl (fun v38=>?_);refine go 1 ?_;refine a0r ?_;refine a1h he he rfl rfl rfl rfl rfl (by omega) (by omega) rfl (fun v39=>?_);refine go 9 ?_;refine a0f ?_;refine a0b ?_;refine a0f ?_;exact a6P (i+1) (G2) (_) (_) (_) ⟨by omega,by omega,hFG2,fun k=>by rw[hr2,hr,hr1],hJ.trans (j31.trans j34),by rw[a5n,if_pos (by omega),d0S];exact hF.append (.one rfl)⟩ (by omega) rfl sb (by rw[a5n,if_pos (by omega),List.length_append];rfl)
   ·refine go 8 ?_;exact a6P (i+1) (G2) (_) (_) (_) ⟨by omega,by omega,hFG2,fun k=>by rw[hr2,hr,hr1],hJ.trans (j31.trans j34),by rw[a5n,if_neg (by omega)];exact hF⟩ (by omega) rfl sb (by rw[a5n,if_neg (by omega)])
  ·obtain rfl:i=F.length:=by omega
   refine go 12 ?_;refine a0u rfl rfl ?_;refine a0b ?_;refine a0l (l:=nI (a0Q R F.length (R q))) rfl (by rw[a3E]) hF (fun I9 j9 R9=>?_);exact q_i (by rw[a7V hRt hqh hqn,←hFl];exact R9)
end Go.Proofs.YtdapmfkbpnjkmaaGreat
namespace Go.Proofs.YtdapmfkbpnjkmaaGreat
open Go Go.Sx
set_option linter.all false
set_option maxRecDepth 20000
set_option maxHeartbeats 4000000
instance T.by_53:Has (a2B Tryz.prog 53) ([.slice none 0 0],1,24):=⟨by kernel_rfl⟩
instance T.elt_40:Has (a8v Tryz.prog 40) (53,1):=⟨by kernel_rfl⟩
instance T.pl_64:Has (plK Tryz.prog 64) [(0,1),(1,1)]:=⟨by kernel_rfl⟩
instance T.und_40:Has (Tryz.prog.underlying 40) (.slice 53):=⟨by kernel_rfl⟩
end Go.Proofs.YtdapmfkbpnjkmaaGreat
set_option linter.all false
namespace Go.Sx
open Go
section
variable {c:List Kind} {l:List Rep} {R:Nat→Nat} {p:ByteArray} {day:Int} {i k:Nat}
section
variable {S:List Plc×Int}
end
theorem c2J {i:Nat} (hi:i<l.length) (h:∀r∈l.take i,a0q r=true) (h2:a0q l[i]=true):∀r∈l.take (i+1),a0q r=true:=fun r hr=>by
 rw[←a0o hi]at hr
 rcases List.mem_append.1 hr with hr|hr
 ·exact h r hr
 ·rw[List.mem_singleton.1 hr];exact h2
end
end Go.Sx
set_option linter.all false
namespace Go.Sx
open Go
section
variable {c:List Kind} {l own:List Rep} {p y z:ByteArray} {day:Int} {s:List Part}
end
section
variable {l:List Rep} {R:Nat→Nat} {p:ByteArray}
def c9K (l:List Rep) (R:Nat→Nat) (p:ByteArray) (i:Nat):Prop:=∀r∈(a0O R l.length).take i,∀k∈a0Q R l.length r,∀h:k<l.length,¬nm l[k] p
theorem c8k {i:Nat} (hi:i<(a0O R l.length).length) (h:c9K l R p i) (h2:∀k∈a0Q R l.length (a0O R l.length)[i],∀h:k<l.length,¬nm l[k] p):c9K l R p (i+1):=fun r hr=>by
 rw[←a0o hi]at hr
 rcases List.mem_append.1 hr with hr|hr
 ·exact h r hr
 ·rw[List.mem_singleton.1 hr];exact h2
theorem d2Q {k:Nat} {M:List Nat} (hk:k<M.length) (hl:M[k]<l.length) (h:∀x∈M.take k,∀h:x<l.length,¬nm l[x] p) (h2:¬nm l[M[k]] p):∀x∈M.take (k+1),∀h:x<l.length,¬nm l[x] p:=fun x hx=>by
 rw[←a0o hk]at hx
 rcases List.mem_append.1 hx with hx|hx
 ·exact h x hx
 ·rw[List.mem_singleton.1 hx];exact fun _=>h2
theorem d0U (hR:Rts l R) {i k:Nat} (hi:i<(a0O R l.length).length) (hk:k<(a0Q R l.length (a0O R l.length)[i]).length) (hl:(a0Q R l.length (a0O R l.length)[i])[k]<l.length) (hn:nm l[(a0Q R l.length (a0O R l.length)[i])[k]] p):ofN l R p=a0Q R l.length (a0O R l.length)[i]:=by
 rw[a7V hR hl hn,(a8R.1 (List.getElem_mem hk)).2]
theorem c8r (hR:Rts l R) (h:c9K l R p (a0O R l.length).length):ofN l R p=[]:=by
 refine b5w fun k hk=>?_
 rw[c9K,List.take_length]at h
 exact h (R k) (a5W.2 ⟨Nat.lt_of_le_of_lt (hR.le k) hk,hR.idem k⟩) k (a8R.2 ⟨hk,rfl⟩) hk
theorem b9A {ns:List ByteArray} {r:Rep} (hn:a5w r ns):(ns.any fun x=>decide (x∈[p]))=true↔nm r p:=by
 rw[List.any_eq_true,←c1r hn]
 constructor
 ·rintro⟨x,hx,h⟩
  have:x=p:=by simpa using h
  rwa[←this]
 ·intro h;exact⟨p,h,by simp⟩
end
theorem b9D {l:List Rep} {i:Nat} (hi:i<l.length) (h:a0q l[i]=false):l.any (fun r=>!a0q r)=true:=List.any_eq_true.2 ⟨_,List.getElem_mem hi,by simp[h]⟩
end Go.Sx
namespace Go.Proofs.YtdapmfkbpnjkmaaGreat
open Go Go.Sx
set_option linter.all false
set_option maxRecDepth 20000
set_option maxHeartbeats 4000000
theorem c1P (I:IMap) (v:Value) (l:List Rep) (hv:RdS I v l) (hl:l.length≤1000000) (hsl:∀r∈l,∀e∈r.options,SmE e) (R:Nat→Nat) (hRt:Rts l R) (p:ByteArray) :
    FnI Tryz.prog 48 #[v,.string p] I (fun u J=>RdS J u (nI (ofN l R p))):=by
 have hv0:=hv
 obtain⟨A,c0,rfl,hA,hc,hm⟩:=hv;refine enter Tryz.func48 Tryz.call48 rfl Tryz.ntmps48 rfl (fun w0=>?_);refine go 9 ?_;refine a1e (b9d _ _ l hv0 hl hsl R hRt) rfl rfl (fun v9 I9 j9 q9=>?_)
 try have hv0:=hv0.le j9
 try have hA:=hA.le j9
 try have hCA:=hCA.le j9
 try have q35:=q35.le j9
 have q9s:=q9
 obtain⟨CA,cc,rfl,hCA,_,_⟩:=q9s
 have hcl0:((a5Q R l.length).map nI).length=(a0O R l.length).length:=by simp[a5Q]
 refine go 10 ?_
 refine a1u ((0:Nat)) (_) (fun i J=>J)
  (fun i J=>[(0,.slice A l.length c0),(1,.string p),(5,.slice CA ((a5Q R l.length).map nI).length cc),(6,.int .i64 ((i:Nat):Int))])
  (fun i J=>[])
  (fun i J=>i≤(a0O R l.length).length∧ILe I9 J∧c9K l R p i)
  (fun i J=>(a0O R l.length).length-i) ⟨Nat.zero_le _,ILe.refl _,fun r hr=>by simp at hr⟩ rfl sb rfl ?_
 intro i J ⟨hi,hJ,hN⟩
 have hv0:=hv0.le hJ
 have hA:=hA.le hJ
 have hCA:=hCA.le hJ
 refine go 5 ?_;refine o_v rfl (OV.cast (u:=.int .i64 (((a0O R l.length).length:Nat):Int)) (a4M he rfl) (congrArg (Value.int .i64) (by rw[hcl0]))) ?_;refine go 3 ?_;refine cb rfl (fun h13 p13=>?_) (fun h13 p13=>?_)
 ·have hlt:i<(a0O R l.length).length:=by omega
  have hrl:=b7G (R:=R) (n:=l.length)
  refine go 10 ?_
  refine a1u ((0:Nat)) (_) (fun k M=>M)
   (fun k M=>[(0,.slice A l.length c0),(1,.string p),(5,.slice CA ((a5Q R l.length).map nI).length cc),(6,.int .i64 ((i:Nat):Int)),(7,.int .i64 ((k:Nat):Int))])
   (fun k M=>[])
   (fun k M=>k≤(a0Q R l.length (a0O R l.length)[i]).length∧ILe J M∧∀x∈(a0Q R l.length (a0O R l.length)[i]).take k,∀h:x<l.length,¬nm l[x] p)
   (fun k M=>(a0Q R l.length (a0O R l.length)[i]).length-k) ⟨Nat.zero_le _,ILe.refl _,fun x hx=>by simp at hx⟩ rfl sb rfl ?_
  intro k M ⟨hk,hM,hnk⟩
  have hv0:=hv0.le hM
  have hA:=hA.le hM
  have hCA:=hCA.le hM
  refine go 6 ?_;obtain⟨b19,o19,w19,e19,c19,r19⟩:=RdA.at_ hCA (i:=i) (by omega);rw[b4P hlt]at r19
  obtain⟨q19,rfl,S19,d19,rfl,hS19,hd19,hm19⟩:=r19;refine o_v rfl (a0m he rfl rfl e19 (i) (by omega) (by omega)) ?_;refine o_v rfl (OV.cast (u:=.slice S19 (a0Q R l.length (a0O R l.length)[i]).length d19) (a0V he rfl (c19 0 _ rfl)) (by rw[a3E])) ?_;refine go 4 ?_;refine cb rfl (fun h22 p22=>?_) (fun h22 p22=>?_)
  ·have hlk:k<(a0Q R l.length (a0O R l.length)[i]).length:=by omega
   have hcl:(a0Q R l.length (a0O R l.length)[i])[k]<l.length:=a5X (List.getElem_mem hlk)
   have hmb:=c1j (R:=R) (n:=l.length) (r:=(a0O R l.length)[i])
   refine go 9 ?_;obtain⟨b28,o28,w28,e28,c28,r28⟩:=RdA.at_ hCA (i:=i) (by omega);rw[b4P hlt]at r28
   obtain⟨q28,rfl,S28,d28,rfl,hS28,hd28,hm28⟩:=r28;refine o_v rfl (a0m he rfl rfl e28 (i) (by omega) (by omega)) ?_;refine o_v rfl (OV.cast (u:=.slice S28 (a0Q R l.length (a0O R l.length)[i]).length d28) (a0V he rfl (c28 0 _ rfl)) (by rw[a3E])) ?_;refine go 1 ?_;obtain⟨b31,o31,w31,e31,c31,r31⟩:=RdA.at_ hS28 (i:=k) (by first|exact hlk|(rw[a3E];exact hlk));rw[c4p hlk]at r31
   obtain rfl:=r31;refine o_v rfl (a0m he rfl rfl e31 (k) (by omega) (by first|exact hlk|(rw[a3E];exact hlk))) ?_;refine o_v rfl (a0V he rfl (c31 0 _ rfl)) ?_;obtain⟨b33,o33,w33,e33,c33,r33⟩:=RdA.at_ hA (i:=(a0Q R l.length (a0O R l.length)[i])[k]) hcl;obtain⟨q33,rfl,S33,d33,rfl,hS33,hd33,hm33⟩:=r33;refine o_v rfl (a0m he rfl rfl e33 ((a0Q R l.length (a0O R l.length)[i])[k]) (by omega) hcl) ?_;refine o_v rfl (a0G he rfl c33 rfl) ?_;refine go 1 ?_;refine a1e (b1p _ l[(a0Q R l.length (a0O R l.length)[i])[k]] S33 d33 ⟨_,_,rfl,hS33,hd33,hm33⟩ (hsl _ (List.getElem_mem hcl))) rfl rfl (fun v35 I35 j35 q35=>?_)
   try have hv0:=hv0.le j35
   try have hA:=hA.le j35
   try have hCA:=hCA.le j35
   try have q35:=q35.le j35
   obtain⟨ns,q35,hno⟩:=q35;refine go 2 ?_;refine a0d he he rfl rfl rfl rfl rfl rfl rfl (fun v37=>?_);refine a0l (l:=[p]) rfl rfl ((.one rfl)) (fun I37 j37 R37=>?_)
   try have hv0:=hv0.le j37
   try have hA:=hA.le j37
   try have hCA:=hCA.le j37
   try have q35:=q35.le j37
   refine go 1 ?_;refine a0a (b0d _ _ ns q35 _ [p] R37) rfl rfl ?_;refine go 2 ?_;refine cb rfl (fun h38 p38=>?_) (fun h38 p38=>?_)
   ·refine go 4 ?_;obtain⟨b41,o41,w41,e41,c41,r41⟩:=RdA.at_ hCA (i:=i) (by omega);rw[b4P hlt]at r41
    obtain⟨q41,rfl,S41,d41,rfl,hS41,hd41,hm41⟩:=r41;refine o_v rfl (a0m he rfl rfl e41 (i) (by omega) (by omega)) ?_;refine o_v rfl (OV.cast (u:=.slice S41 (a0Q R l.length (a0O R l.length)[i]).length d41) (a0V he rfl (c41 0 _ rfl)) (by rw[a3E])) ?_;refine go 13 ?_;refine a0u rfl rfl ?_;exact q_i (by rw[d0U hRt hlt hlk hcl ((b9A hno).1 h38)];exact⟨_,_,by rw[a3E],hS41,hd41,hm41⟩)
   ·refine go 9 ?_;exact a0L (k+1) (_) ⟨by omega,hM.trans (j35.trans j37),d2Q hlk hcl hnk fun hn=>by rw[(b9A hno).2 hn]at h38;cases h38⟩ (by omega) rfl sb rfl
  ·obtain rfl:k=(a0Q R l.length (a0O R l.length)[i]).length:=by omega
   rw[List.take_length]at hnk
   refine go 12 ?_;exact a0L (i+1) (_) ⟨by omega,hJ.trans hM,c8k hlt hN hnk⟩ (by omega) rfl sb rfl
 ·obtain rfl:i=(a0O R l.length).length:=by omega
  refine go 11 ?_;refine a0u rfl rfl ?_;exact q_i (by rw[c8r hRt hN];exact RdS.nil')
theorem b5H (I:IMap) (v:Value) (l:List Rep) (hv:RdS I v l) (w:Value) (D:List Nat) (hw:RdS I w (nI D)) (hC:∀i∈D,i<l.length) (hC6:D.length≤1000000) :
    FnI Tryz.prog 47 #[v,w] I (fun u J=>RdS J u (a1S l D)):=by
 have hv0:=hv
 obtain⟨A,c0,rfl,hA,hc,hm⟩:=hv;obtain⟨B,c1,rfl,hB,hcb,hmb⟩:=hw;rw[a3E]at hcb ⊢
 refine enter Tryz.func47 Tryz.call47 rfl Tryz.ntmps47 rfl (fun w0=>?_);refine go 7 ?_;refine a1i 64 2 ?_;refine go 10 ?_
 refine a3A ((0:Nat)) (_) ([]) (fun i v5 xs=>I)
  (fun i v5 xs=>[(0,.slice A l.length c0),(1,.slice B D.length c1),(5,v5),(6,.int .i64 ((i:Nat):Int))])
  (fun i v5 xs=>[.row v5 64 2 i xs])
  (fun i v5 xs=>i≤D.length∧Flat I xs (a1S l (D.take i)))
  (fun i v5 xs=>D.length-i) ⟨Nat.zero_le _,.nil⟩ rfl sb rfl ?_
 intro i v5 xs ⟨hi,hF⟩;refine go 9 ?_;refine cb rfl (fun h10 p10=>?_) (fun h10 p10=>?_)
 ·have hlt:i<D.length:=by omega
  have hcl:=hC _ (List.getElem_mem hlt)
  refine go 9 ?_;obtain⟨b17,o17,w17,e17,c17,r17⟩:=RdA.at_ hB (i:=i) (by first|exact hlt|(rw[a3E];exact hlt));rw[c4p hlt]at r17
  obtain rfl:=r17;refine o_v rfl (a0m he rfl rfl e17 (i) (by omega) (by first|exact hlt|(rw[a3E];exact hlt))) ?_;refine o_v rfl (a0V he rfl (c17 0 _ rfl)) ?_;obtain⟨b19,o19,w19,e19,c19,r19⟩:=RdA.at_ hA (i:=D[i]) hcl;obtain⟨q19,rfl,S19,d19,rfl,hS19,hd19,hm19⟩:=r19;refine o_v rfl (a0m he rfl rfl e19 (D[i]) (by omega) hcl) ?_;refine o_v rfl (a0G he rfl c19 rfl) ?_;refine go 1 ?_;refine a0d he he rfl rfl rfl rfl rfl rfl rfl (fun v21=>?_);refine go 1 ?_;refine a0f ?_;refine a1h he he rfl rfl rfl rfl rfl (by omega) (by omega) rfl (fun v22=>?_);refine go 10 ?_;refine a0f ?_;refine a0b ?_;exact a2b (i+1) (_) (_) ⟨by omega,by rw[←a0o hlt,a5Y,a3N hcl];exact hF.append (.one ⟨_,rfl,⟨_,_,rfl,hS19,hd19,hm19⟩⟩)⟩ (by omega) rfl sb rfl
 ·obtain rfl:i=D.length:=by omega
  rw[List.take_length]at hF
  refine go 7 ?_;refine a0l (l:=a1S l D) rfl (by rw[a2i hC]) (hF) (fun Ip jp Rp=>?_);refine go 5 ?_;refine a0u rfl rfl ?_;exact q_i Rp
end Go.Proofs.YtdapmfkbpnjkmaaGreat
set_option linter.all false
namespace Go.Sx
open Go
abbrev Hu:=Bool×Ivl
def hcl (x:Hu):List Value:=[.bool x.1,ci x.2.low,ci x.2.high]
def b3Z (x:Hu) (d:Ivl):Hu:=(true,if x.1=true then a2Q x.2 d else d)
theorem c6b (xs:List Hu):Uk 3 (xs.map hcl):=fun c hc=>by
 obtain⟨x,_,rfl⟩:=List.mem_map.1 hc
 rfl
def lf3 (f:Life):List Ivl:=[f.km,f.cycles,f.damage]
def hst (xs:List Hu) (f:Life):Nat→List Hu
 |0=>xs
 |i+1=>(hst xs f i).set i (b3Z ((hst xs f i).getD i (false,a4l)) ((lf3 f).getD i a4l))
theorem b5h {xs:List Hu} {f:Life}:∀i,(hst xs f i).length=xs.length
 |0=>rfl
 |i+1=>by rw[hst,List.length_set,b5h i]
theorem c7Q {xs:List Hu} {f:Life} {i:Nat} (hi:i<3) (h:xs.length=3):((hst xs f i).map hcl)[i]? = some (hcl ((hst xs f i).getD i (false,a4l))):=by
 have h1:i<(hst xs f i).length:=by rw[b5h,h];exact hi
 rw[List.getElem?_map,List.getElem?_eq_getElem h1,List.getD_eq_getElem?_getD,List.getElem?_eq_getElem h1];rfl
theorem c7R {xs:List Hu} {f:Life} {i:Nat}:((hst xs f i).map hcl).set i (hcl (b3Z ((hst xs f i).getD i (false,a4l)) ((lf3 f).getD i a4l)))=(hst xs f (i+1)).map hcl:=by rw[hst,List.map_set]
def PtrO (I:IMap) (u:Value):Option Part→Prop
 |none=>u = .pointer none
 |some q=>∃g w,u = .pointer (some ⟨g,0,none⟩)∧ICells I g 0 (q.cells w)∧w.oneCell'=true
theorem PtrO.val {I:IMap} {u:Value} {o:Option Part} (h:PtrO I u o):∃pp,u = .pointer pp∧((pp=none∧o=none)∨∃q g w,pp=some ⟨g,0,none⟩∧o=some q∧ICells I g 0 (q.cells w)∧w.oneCell'=true):=by
 cases o with
 |none=>exact⟨none,h,.inl ⟨rfl,rfl⟩⟩
 |some q=>obtain⟨g,w,h1,h2,h3⟩:=h;exact⟨_,h1,.inr ⟨q,g,w,rfl,rfl,h2,h3⟩⟩
theorem PtrO.le {I I':IMap} (hI:ILe I I') {u:Value}:∀{o:Option Part},PtrO I u o→PtrO I' u o
 |none,h=>h
 |some _,⟨g,w,h1,h2,h3⟩=>⟨g,w,h1,h2.le hI,h3⟩
def daL (o:Option Part):Life:=(o.getD zPart).life
theorem d2N {f:Life} {i:Nat} (hi:i<3):(f.cells.drop (i * 2)).take 2=((lf3 f).getD i a4l).cells:=by
 match i,hi with
 |0,_=>rfl
 |1,_=>rfl
 |2,_=>rfl
section
variable {f:Fm} {c:List Kind} {l own:List Rep} {p:ByteArray} {day:Int}
theorem b7z {I:IMap} {s:List Part} {g:Nat} {w:Value} (h:(a0T s p).isSome=true) (hc:ICells I g 0 (((a0T s p).getD zPart).cells w)) (hw:w.oneCell'=true):PtrO I (.pointer (some ⟨g,0,none⟩)) (a0T s p):=by
 obtain⟨q,hq⟩:=Option.isSome_iff_exists.1 h;rw[hq]at hc ⊢
 exact⟨g,w,rfl,hc,hw⟩
theorem b7y {I:IMap} {s:List Part} (h:(a0T s p).isSome=false):PtrO I (.pointer none) (a0T s p):=by
 rw[Option.isSome_eq_false_iff,Option.isNone_iff_eq_none]at h
 rw[h];rfl
theorem b4i:(runL f c [] 0).2.2=0↔a0Y c=true∧a1H f=true:=by
 unfold runL
 split
 ·rename_i h
  simp only[Bool.or_eq_true,Bool.not_eq_true']at h
  constructor
  ·intro h2;cases h2
  ·rintro⟨h1,h2⟩;rw[h1,h2]at h;rcases h with h|h<;>cases h
 ·rename_i h
  simp at h
  exact⟨fun _=>h,fun _=>rfl⟩
theorem c3k (h:¬(runL f c [] 0).2.2=0):a5h f c l own day=1:=by
 unfold a5h;rw[if_pos];rw[b4i]at h
 cases hc:a0Y c<;>cases hf:a1H f<;>simp_all
theorem b6k (h:day<0∨40000<day):a5h f c l own day=1:=by
 unfold a5h
 split
 ·rfl
 ·rw[if_pos (by simp;omega)]
theorem c3l (h:a0Y c=true∧a1H f=true) (h1:¬day<0) (h2:¬40000<day):a5h f c l own day=a8G c l own:=by
 unfold a5h;rw[if_neg (by simp[h.1,h.2]),if_neg (by simp;omega)]
noncomputable def bndA (f:Fm) (c:List Kind) (l own:List Rep) (p:ByteArray) (day:Int):Int:=if a5h f c l own day≠0 then a5h f c l own day else if (lifeA f c own p day).any Option.isSome=false then 2 else 0
noncomputable def bndS {σ:Type} (s0:σ) (g:σ→Option Part→σ) (f:Fm) (c:List Kind) (l own:List Rep) (p:ByteArray) (day:Int):σ:=if bndA f c l own p day=0 then (lifeA f c own p day).foldl g s0 else s0
noncomputable def lifeG (f:Fm) (c:List Kind) (own:List Rep) (p:ByteArray) (day:Int) (t:List Int):Option Part:=a0T (runL f c (a1T own t).1 day).1 p
theorem b3w:(a1Z c own 4096).1.map (lifeG f c own p day)=lifeA f c own p day:=rfl
theorem a5A {I:IMap} {o:Option Part} {pp:Option Addr} (h:PtrO I (.pointer pp) o):(!pp.isNone)=o.isSome:=by
 cases o with
 |none=>cases h;rfl
 |some q=>obtain⟨g,w,h1,_⟩:=h;cases h1;rfl
end
abbrev H3s:={xs:List Hu // xs.length=3}
def z3:H3s:=⟨[(false,a4l),(false,a4l),(false,a4l)],rfl⟩
def g3F (xs:H3s) (o:Option Part):H3s:=⟨hst xs.1 (daL o) 3,by rw[b5h];exact xs.2⟩
theorem c0G (s:H3s):∃x y z,s.1=[x,y,z]:=by
 obtain⟨xs,h⟩:=s
 match xs,h with
 | [x,y,z],_=>exact⟨x,y,z,rfl⟩
theorem d0y (s:H3s):((s.1.map hcl).flatten).length=9:=by
 obtain⟨x,y,z,h⟩:=c0G s;rw[h];rfl
theorem d0z (s:H3s):((s.1.map hcl).flatten).all Value.oneCell'=true:=by
 obtain⟨x,y,z,h⟩:=c0G s;rw[h];rfl
theorem d3k {x y z:Hu} {f:Life}:hst [x,y,z] f 3=[b3Z x f.km,b3Z y f.cycles,b3Z z f.damage]:=rfl
theorem c0B:∀(L:List (Option Part)) (s:H3s) (x y z:Hu),s.1=[x,y,z]→(L.foldl g3F s).1=[L.foldl (fun h o=>b3Z h (kmO o)) x,L.foldl (fun h o=>b3Z h (cyO o)) y,L.foldl (fun h o=>b3Z h (daO o)) z]
 | [],s,x,y,z,h=>h
 |o::L,s,x,y,z,h=>by
  simp only[List.foldl_cons]
  refine c0B L (g3F s o) _ _ _ ?_
  show hst s.1 (daL o) 3=_
  rw[h,d3k];rfl
theorem b7B {g:Option Part→Ivl}:∀(L:List (Option Part)) (d:Ivl),(L.foldl (fun h o=>b3Z h (g o)) (true,d))=(true,(L.map g).foldl a2Q d)
 | [],d=>rfl
 |o::L,d=>by
  rw[List.foldl_cons,List.map_cons,List.foldl_cons];exact b7B L _
theorem c4L {g:Option Part→Ivl} {L:List (Option Part)} (h:L≠[]):L.foldl (fun h o=>b3Z h (g o)) (false,a4l)=(true,a8z (L.map g)):=by
 cases L with
 |nil=>exact absurd rfl h
 |cons o L=>
  rw[List.foldl_cons];exact b7B L (g o)
section
variable {f:Fm} {c:List Kind} {l own:List Rep} {p:ByteArray} {day:Int}
theorem bndA_is {g:Option Part→Ivl}:(bndF g f c l own p day).2=bndA f c l own p day:=by
 unfold bndF bndA
 split
 ·rfl
 ·split<;>rfl
theorem c6I (h:bndA f c l own p day=0):lifeA f c own p day≠[]:=by
 intro e;unfold bndA at h
 split at h
 ·rename_i h1;exact absurd h h1
 ·rw[e]at h;cases h
theorem d2a {g:Option Part→Ivl}:(bndS ((false,a4l):Hu) (fun h o=>b3Z h (g o)) f c l own p day).2=(bndF g f c l own p day).1:=by
 unfold bndS
 by_cases h:bndA f c l own p day=0
 ·rw[if_pos h,c4L (c6I h)];exact (a5x (bndA_is.trans h)).2.2.symm
 ·rw[if_neg h];exact (b1O (fun e=>h (bndA_is.symm.trans e))).symm
theorem d3i {x y z:Hu} (hS:(bndS z3 g3F f c l own p day).1=[x,y,z]):(bndLife f c l own p day).1=⟨x.2,y.2,z.2⟩∧(bndLife f c l own p day).2=bndA f c l own p day:=by
 refine⟨?_,bndA_is⟩
 have h1:=d2a (f:=f) (c:=c) (l:=l) (own:=own) (p:=p) (day:=day) (g:=kmO)
 have h2:=d2a (f:=f) (c:=c) (l:=l) (own:=own) (p:=p) (day:=day) (g:=cyO)
 have h3:=d2a (f:=f) (c:=c) (l:=l) (own:=own) (p:=p) (day:=day) (g:=daO)
 unfold bndLife;rw[←h1,←h2,←h3];unfold bndS at hS ⊢
 by_cases h:bndA f c l own p day=0
 ·rw[if_pos h]at hS ⊢
  rw[if_pos h,if_pos h];rw[c0B _ z3 _ _ _ rfl]at hS
  injection hS with e1 hS
  injection hS with e2 hS
  injection hS with e3 _
  rw[←e1,←e2,←e3]
 ·rw[if_neg h]at hS ⊢
  rw[if_neg h,if_neg h]
  injection hS with e1 hS
  injection hS with e2 hS
  injection hS with e3 _
  rw[←e1,←e2,←e3]
end
end Go.Sx
set_option linter.all false
namespace Go.Sx
open Go
variable {P:Program} {n:Sz} {E:Ent} {I:IMap} {L:LL} {H:List Res}
variable {d ty:Nat} {pos:String} {af:Array Edge} {x y:Operand} {i:Int}
theorem c9A {cs:List Value} {tt e kk m:Nat} (ys:List Value) (he:b6f P tt=some (m,e,kk)) (hb:tyK P e=some (true,kk)) (hx:ev L x=some (.agg cs.toArray)) (hy:ev L y=some (.int .i64 i)) (q:Nat) (hq:i=(q:Int)) (hlt:q<m) (hv:(cs.drop (q * kk)).take kk=ys)
  : OV P n E I L H ⟨some d,.index tt x y,ty,pos,af,none⟩ (.agg ys.toArray):=fun a w st _=>by
 obtain⟨h1,bb,h2⟩:=a5N he;subst hq hv
 have hlt':(q:Int)<(m:Int):=by omega
 have e1:cs.toArray.extract (q * kk) (q * kk+kk)=((cs.drop (q * kk)).take kk).toArray:=by
  rw[List.extract_toArray]
  simp[List.extract]
 simp[execOp,st.ev hx,st.ev hy,Instr.index,asIntOf,run_underlying h1,(a1l hb w).1,(a1l hb w).2,hlt,hlt',part,asAgg,e1]
theorem b8a {tx te tyy:TypeId} {p:Option Addr} (ht:P.underlying tx=some (.pointer te)) (hx:ev L x=some (.pointer p)) (hy:ev L y=some (.pointer none)):OV P n E I L H ⟨some d,.binOp .neq tx x y tyy,ty,pos,af,none⟩ (.bool (!p.isNone)):=fun a w st _=>by
 have h2:P.underlying tx=some (.pointer (P.pointee tx)):=by rw[ht];simp[Program.pointee,ht]
 simp[execOp,st.ev hx,st.ev hy,eqGuard_at_pointer,run_neq_pointer_nil w tx p h2]
end Go.Sx
namespace Go.Proofs.YtdapmfkbpnjkmaaGreat
open Go Go.Sx
set_option linter.all false
set_option maxRecDepth 20000
set_option maxHeartbeats 4000000
instance T.arr_132:Has (b6f Tryz.prog 132) (3,131,3):=⟨by kernel_rfl⟩
instance T.arr_137:Has (b6f Tryz.prog 137) (3,44,2):=⟨by kernel_rfl⟩
instance T.fld_131_0:Has (a3G Tryz.prog 131 0) (0,false,1):=⟨by kernel_rfl⟩
instance T.fld_131_1:Has (a3G Tryz.prog 131 1) (1,true,2):=⟨by kernel_rfl⟩
instance T.ty_131:Has (tyK Tryz.prog 131) (true,3):=⟨by kernel_rfl⟩
instance T.ty_132:Has (tyK Tryz.prog 132) (true,9):=⟨by kernel_rfl⟩
instance T.ty_139:Has (tyK Tryz.prog 139) (false,1):=⟨by kernel_rfl⟩
instance T.ty_148:Has (tyK Tryz.prog 148) (false,1):=⟨by kernel_rfl⟩
instance T.und_136:Has (Tryz.prog.underlying 136) (.pointer 48):=⟨by kernel_rfl⟩
instance T.zero_131:Has (a2e Tryz.prog 131) [.bool false,.int .i64 0,.int .i64 0]:=⟨by kernel_rfl⟩
instance T.zero_132:Has (a2e Tryz.prog 132) [.bool false,.int .i64 0,.int .i64 0,.bool false,.int .i64 0,.int .i64 0,.bool false,.int .i64 0,.int .i64 0]:=⟨by kernel_rfl⟩
instance T.zero_137:Has (a2e Tryz.prog 137) [.int .i64 0,.int .i64 0,.int .i64 0,.int .i64 0,.int .i64 0,.int .i64 0]:=⟨by kernel_rfl⟩
instance T.zero_4:Has (a2e Tryz.prog 4) [.bool false]:=⟨by kernel_rfl⟩
theorem c0N (I:IMap) {xss:List (List Value)} (g t i:Nat) (hU:Uk 3 xss) (x:Hu) (hi:xss[i]? = some (hcl x)) (d:Ivl) (off:Nat) (ho:off=i * 3) :
    FnM Tryz.prog 76 #[.pointer (some ⟨g,off,none⟩),.agg d.cells.toArray] I (.blk g t xss.flatten) (.blk g t (xss.set i (hcl (b3Z x d))).flatten):=by
 refine enter Tryz.func76 Tryz.call76 rfl Tryz.ntmps76 rfl (fun w0=>?_);refine go 3 ?_;refine a0y _ rfl rfl rfl (fun g3=>?_);refine go 8 ?_;refine o_v rfl (b7Y m1 hU he rfl (i) 0 (by omega) hi rfl) ?_;refine go 2 ?_;refine cb rfl (fun h7 p7=>?_) (fun h7 p7=>?_)
 ·refine a1r T.mixed ?_;refine a0g 0 rfl rfl (by kernel_rfl) rfl (.cons _ (.refl _)) rfl (a0c rfl) ?_;refine a0g 1 rfl rfl (by kernel_rfl) rfl (.cons _ (.refl _)) rfl (a0j rfl) ?_;refine a0g 2 rfl rfl (by kernel_rfl) rfl (.cons _ (.refl _)) rfl (a0e he rfl) ?_;refine a0g 3 rfl rfl (by kernel_rfl) rfl (.cons _ (.refl _)) rfl (a2s (x.2.cells) m0 hU he rfl (i) 1 (by omega) hi rfl rfl rfl) ?_;refine a0i 4 (by kernel_rfl) rfl ?_;refine a0s rfl (a4k m0 he rfl rfl) ?_;refine a0v (fun _ m=>m.keeps (.cons _ (.refl _))) ?_;refine a0i 5 (by kernel_rfl) rfl ?_;refine a0a (c0T _ x.2 d) rfl rfl ?_;refine a0v (fun _ m=>m.keeps (.cons _ (.refl _))) ?_;refine a0i 6 (by kernel_rfl) rfl ?_;refine a0p _ he rfl rfl rfl rfl rfl rfl ?_;refine a0v (fun _ m=>m.keeps (.cons _ (.refl _))) ?_;refine a0w (by kernel_rfl) ?_;refine go 1 ?_;refine a0f ?_;refine a1r T.mixed ?_;refine a0g 0 rfl rfl (by kernel_rfl) rfl (.cons _ (.refl _)) rfl (a0c rfl) ?_;refine a0g 1 rfl rfl (by kernel_rfl) rfl (.cons _ (.refl _)) rfl (a0c rfl) ?_;refine a0g 2 rfl rfl (by kernel_rfl) rfl (.cons _ (.refl _)) rfl (a4k m0 he rfl rfl) ?_;refine a0g 3 rfl rfl (by kernel_rfl) rfl (.cons _ (.refl _)) rfl (a0j rfl) ?_;refine a0g 4 rfl rfl (by kernel_rfl) rfl (.cons _ (.refl _)) rfl (a0e he rfl) ?_;refine a0i 5 (by kernel_rfl) rfl ?_;refine a1f _ _ (by first|exact hU|exact hU.set rfl _|exact (hU.set rfl _).set rfl _) he rfl rfl rfl rfl rfl (i) 0 (by omega) (by first|exact hi|exact a0k hi|exact a0k (a0k hi)) (by decide) rfl ?_;refine a0v (fun _ m=>m.keeps (.cons _ (.refl _))) ?_;refine a0g 6 rfl rfl (by kernel_rfl) rfl (.cons _ (.refl _)) rfl (a0j rfl) ?_;refine a0g 7 rfl rfl (by kernel_rfl) rfl (.cons _ (.refl _)) rfl (a0e he rfl) ?_;refine a0i 8 (by kernel_rfl) rfl ?_;refine a1f _ _ (by first|exact hU|exact hU.set rfl _|exact (hU.set rfl _).set rfl _) he rfl rfl rfl rfl rfl (i) 1 (by omega) (by first|exact hi|exact a0k hi|exact a0k (a0k hi)) (by decide) rfl ?_;refine a0v (fun _ m=>m.keeps (.cons _ (.refl _))) ?_;refine a0w (by kernel_rfl) ?_;refine a4w rfl ?_;refine a0f ?_;refine a0b ?_;exact b4a (by rw[List.set_set];simp only[b3Z,if_pos h7];rfl)
 ·refine go 2 ?_;refine a0f ?_;refine a1r T.mixed ?_;refine a0g 0 rfl rfl (by kernel_rfl) rfl (.cons _ (.refl _)) rfl (a0c rfl) ?_;refine a0g 1 rfl rfl (by kernel_rfl) rfl (.cons _ (.refl _)) rfl (a0c rfl) ?_;refine a0g 2 rfl rfl (by kernel_rfl) rfl (.cons _ (.refl _)) rfl (a4k m0 he rfl rfl) ?_;refine a0g 3 rfl rfl (by kernel_rfl) rfl (.cons _ (.refl _)) rfl (a0j rfl) ?_;refine a0g 4 rfl rfl (by kernel_rfl) rfl (.cons _ (.refl _)) rfl (a0e he rfl) ?_;refine a0i 5 (by kernel_rfl) rfl ?_;refine a1f _ _ (by first|exact hU|exact hU.set rfl _|exact (hU.set rfl _).set rfl _) he rfl rfl rfl rfl rfl (i) 0 (by omega) (by first|exact hi|exact a0k hi|exact a0k (a0k hi)) (by decide) rfl ?_;refine a0v (fun _ m=>m.keeps (.cons _ (.refl _))) ?_;refine a0g 6 rfl rfl (by kernel_rfl) rfl (.cons _ (.refl _)) rfl (a0j rfl) ?_;refine a0g 7 rfl rfl (by kernel_rfl) rfl (.cons _ (.refl _)) rfl (a0e he rfl) ?_;refine a0i 8 (by kernel_rfl) rfl ?_;refine a1f _ _ (by first|exact hU|exact hU.set rfl _|exact (hU.set rfl _).set rfl _) he rfl rfl rfl rfl rfl (i) 1 (by omega) (by first|exact hi|exact a0k hi|exact a0k (a0k hi)) (by decide) rfl ?_;refine a0v (fun _ m=>m.keeps (.cons _ (.refl _))) ?_;refine a0w (by kernel_rfl) ?_;refine a4w rfl ?_;refine a0f ?_;refine a0b ?_;exact b4a (by rw[List.set_set];simp only[b3Z,h7];rfl)
theorem c6K (I:IMap) (g:Nat) (xs:List Hu) (hx:xs.length=3) (u:Value) (o:Option Part) (hu:PtrO I u o) :
    FnM Tryz.prog 75 #[.pointer (some ⟨g,0,none⟩),u] I (.blk g 132 ((hst xs (daL o) 0).map hcl).flatten) (.blk g 132 ((hst xs (daL o) 3).map hcl).flatten):=by
 obtain⟨pp,rfl,hpp⟩:=hu.val;refine enter Tryz.func75 Tryz.call75 rfl Tryz.ntmps75 rfl (fun w0=>?_);refine go 3 ?_;refine a0h he rfl (fun g4=>?_);refine go 3 ?_;refine a2C (I':=I) (L':=[(0,.pointer (some ⟨g,0,none⟩)),(4,.pointer (some ⟨g4,0,none⟩))]) (H':=[.blk g4 46 (daL o).cells,.blk g 132 ((hst xs (daL o) 0).map hcl).flatten]) ?_ ?_
 ·refine go 3 ?_;refine o_v rfl (b8a he rfl rfl) ?_;refine go 2 ?_;refine cb rfl (fun h8 p8=>?_) (fun h8 p8=>?_)
  ·obtain⟨q,gq,w,rfl,rfl,cu,hw⟩:=hpp.resolve_left (by rintro⟨rfl,_⟩;simp at h8);refine go 4 ?_;refine o_v rfl (a0G he rfl (cu.sub 8 6) rfl) ?_;refine go 1 ?_;refine a0p _ he rfl rfl rfl rfl rfl rfl ?_;refine go 2 ?_;exact a0D sb rfl rfl
  ·obtain⟨rfl,rfl⟩:pp=none∧o=none:=hpp.resolve_right (by rintro⟨q,g,w,rfl,_⟩;simp at h8);refine go 2 ?_;exact a0D sb rfl rfl
 ·refine go 3 ?_;refine o_v rfl (a1W ((daL o).km.cells) m0 he rfl rfl rfl) ?_;refine go 1 ?_;refine o_v rfl (a1W ((daL o).cycles.cells) m0 he rfl rfl rfl) ?_;refine go 1 ?_;refine o_v rfl (a1W ((daL o).damage.cells) m0 he rfl rfl rfl) ?_;refine go 1 ?_;refine a0s rfl (a9e he he rfl rfl) ?_;refine go 4 ?_;refine a0b ?_
  refine a0N (α:=Nat) (0:Nat) (fun i=>I)
   (fun i=>[(0,.pointer (some ⟨g,0,none⟩)),(19,.agg (daL o).cells.toArray),(20,.int .i64 ((i:Nat):Int))])
   (fun i=>[.blk g 132 ((hst xs (daL o) i).map hcl).flatten])
   (fun i=>i≤3)
   (fun i=>3-i) (Nat.zero_le _) rfl sb rfl ?_
  intro i hi;refine go 6 ?_;refine cb rfl (fun h21 p21=>?_) (fun h21 p21=>?_)
  ·have hlt:i<3:=by omega
   refine go 7 ?_;refine o_v rfl (c9A (((lf3 (daL o)).getD i a4l).cells) he he rfl rfl i rfl hlt (d2N hlt)) ?_;refine go 1 ?_;refine a0h he rfl (fun g6=>?_);refine go 2 ?_;refine a0p _ he rfl rfl rfl rfl rfl rfl ?_;refine go 2 ?_;refine a0f ?_;refine a1r T.mixed ?_;refine a0g 0 rfl rfl (by kernel_rfl) rfl (.cons _ (.refl _)) rfl (a0c rfl) ?_;refine a0g 1 rfl rfl (by kernel_rfl) rfl (.cons _ (.refl _)) rfl (a0c rfl) ?_;refine a0g 2 rfl rfl (by kernel_rfl) rfl (.cons _ (.refl _)) rfl (a0j rfl) ?_;refine a0g 3 rfl rfl (by kernel_rfl) rfl (.cons _ (.refl _)) rfl (a2c he rfl rfl i (by omega) hlt) ?_;refine a0g 4 rfl rfl (by kernel_rfl) rfl (.cons _ (.refl _)) rfl (a4k m0 he rfl rfl) ?_;refine a0i 5 (by kernel_rfl) rfl ?_;refine a4F (c0N _ g 132 i (c6b _) _ (c7Q hlt hx) ((lf3 (daL o)).getD i a4l) _ (Nat.zero_add _)) rfl rfl ?_;rw[c7R];refine a0v (fun _ m=>m.keeps (.cons _ (.refl _))) ?_;refine a0w (by kernel_rfl) ?_;refine go 7 ?_;refine a0f ?_;refine a0b ?_;exact a0J (i+1) (by omega) (by omega) rfl sb rfl
  ·refine go 4 ?_;refine a4w rfl ?_;obtain rfl:i=3:=by omega
   exact q_m
theorem b9K (I:IMap) (vc:Value) (c:List Kind) (hvc:RdS I vc c) (hsc:SmC c) (f:Fm) (sf:Value) (hf:FmRd I [ci f.op,ci f.n,sf] f) (v:Value) (l:List Rep) (hv:RdS I v l) (hl:l.length≤25) (hsl:∀r∈l,∀e∈r.options,SmE e) (R:Nat→Nat) (hRt:Rts l R) (p:ByteArray) (day:Int)  :
    FnI Tryz.prog 132 #[.agg #[vc,ci f.op,ci f.n,sf],v,.string p,.int .i64 (day)] I (fun u J=>∃w a,u = .tuple #[w,a,.int .i64 (a5h f c l (a0I l R p) day)]∧((a5h f c l (a0I l R p) day)=0→RdS J w (a0I l R p)∧RdS J a (a1Z c (a0I l R p) 4096).1)):=by
 have hv0:=hv
 obtain⟨A,c0,rfl,hA,hc,hm⟩:=hv;refine enter Tryz.func132 Tryz.call132 rfl Tryz.ntmps132 rfl (fun w0=>?_);refine go 3 ?_;refine a0y _ rfl rfl rfl (fun g4=>?_);refine go 10 ?_;refine a1e (b5o _ vc c hvc hsc f sf hf _ [] RdS.nil' (by simp) (fun e he=>by cases he) 0) rfl rfl (fun v23 I23 j23 q23=>?_)
 try have hvc:=hvc.le j23
 try have hf:=hf.le j23
 try have hv0:=hv0.le j23
 try have hA:=hA.le j23
 try have Ro:=Ro.le j23
 try have hw70:=hw70.le j23
 obtain⟨w23,rfl,hw23⟩:=q23;refine go 5 ?_;refine a0h he rfl (fun g11=>?_);refine go 1 ?_;refine a0p _ he rfl rfl rfl rfl rfl (by simp[RdS.one hw23]) ?_;refine go 9 ?_;refine sxb 29 rfl (fun h29 p29=>?_) (fun h29 p29=>?_)
 ·refine go 9 ?_;refine a3B rfl ?_;refine go 9 ?_;refine c3O rfl rfl rfl rfl ?_
  have e:(a5h f c l (a0I l R p) day)=1:=c3k (by simpa using h29)
  exact q_i ⟨_,_,by rw[e]<;>rfl,fun h=>by rw[e]at h;cases h⟩
 ·refine go 4 ?_;refine sxb 33 rfl (fun h33 p33=>?_) (fun h33 p33=>?_)
  ·refine go 5 ?_;refine a3B rfl ?_;refine go 9 ?_;refine c3O rfl rfl rfl rfl ?_
   have e:(a5h f c l (a0I l R p) day)=1:=b6k (.inl (by simpa using h33))
   exact q_i ⟨_,_,by rw[e]<;>rfl,fun h=>by rw[e]at h;cases h⟩
  ·refine go 5 ?_;refine cb rfl (fun h36 p36=>?_) (fun h36 p36=>?_)
   ·refine go 9 ?_;refine c3O rfl rfl rfl rfl ?_
    have e:(a5h f c l (a0I l R p) day)=1:=b6k (.inr (by simpa using h36))
    exact q_i ⟨_,_,by rw[e]<;>rfl,fun h=>by rw[e]at h;cases h⟩
   ·have hcf:=b4i.1 (show (runL f c [] 0).2.2=0 by simpa using h29)
    have hd1:¬day<0:=by simpa using h33
    have hd2:¬40000<day:=by simpa using h36
    have hBE:=c3l (l:=l) (own:=(a0I l R p)) hcf hd1 hd2
    refine go 11 ?_;refine a0b ?_
    refine a0N (α:=Nat) 0 (fun i=>I23)
     (fun i=>[(1,.slice A l.length c0),(2,.string p),(3,.int .i64 (day)),(4,.pointer (some ⟨g4,0,none⟩)),(37,.slice A l.length c0),(38,.int .i64 ((l.length:Nat):Int)),(39,.int .i64 ((i:Nat):Int))])
     (fun i=>[.blk g4 72 [vc,ci f.op,ci f.n,sf]])
     (fun i=>i≤l.length∧∀r∈l.take i,a0q r=true)
     (fun i=>l.length-i) ⟨Nat.zero_le _,fun r hr=>by simp at hr⟩ rfl sb rfl ?_
    intro i ⟨hi,hn⟩;refine go 6 ?_;refine cb rfl (fun h40 p40=>?_) (fun h40 p40=>?_)
    ·have hlt:i<l.length:=by omega
     refine go 6 ?_;obtain⟨b41,o41,w41,e41,c41,r41⟩:=RdA.at_ hA (i:=i) (by omega);obtain⟨q41,rfl,S41,d41,rfl,hS41,hd41,hm41⟩:=r41;refine o_v rfl (a0m he rfl rfl e41 (i) (by omega) (by omega)) ?_;refine o_v rfl (a0G he rfl c41 rfl) ?_;refine go 1 ?_;refine a0h he rfl (fun g15=>?_);refine go 1 ?_;refine a0p _ he rfl rfl rfl rfl rfl rfl ?_;refine go 6 ?_;refine a0a (b2A _ l[i] S41 d41 ⟨_,_,rfl,hS41,hd41,hm41⟩ (hsl _ (List.getElem_mem hlt))) rfl rfl ?_;refine go 3 ?_;refine cb rfl (fun h45 p45=>?_) (fun h45 p45=>?_)
     ·refine go 13 ?_;refine c3O rfl rfl rfl rfl ?_
      have e:(a5h f c l (a0I l R p) day)=1:=hBE.trans (d0h (own:=(a0I l R p)) hcf.1 (b9D hlt (by simpa using h45)))
      exact q_i ⟨_,_,by rw[e]<;>rfl,fun h=>by rw[e]at h;cases h⟩
     ·refine go 8 ?_;refine a0b ?_;exact a0J (i+1) ⟨by omega,c2J hlt hn (by simpa using h45)⟩ (by omega) rfl sb rfl
    ·obtain rfl:i=l.length:=by omega
     rw[List.take_length]at hn
     have hV:=a7H.2 hn
     have hcl2:=a5c (l:=l) (R:=R) (p:=p)
     refine go 7 ?_;refine a1i 64 2 ?_;refine go 9 ?_;refine a1e (d0M _ _ l hv0 (by omega) hsl p R hRt) rfl rfl (fun v49 I49 j49 q49=>?_)
     try have hvc:=hvc.le j49
     try have hf:=hf.le j49
     try have hv0:=hv0.le j49
     try have hA:=hA.le j49
     try have Ro:=Ro.le j49
     try have hw70:=hw70.le j49
     obtain⟨CA,cc,rfl,hCA,hcc,hcm⟩:=q49;rw[a3E]at hcc ⊢
     refine go 5 ?_
     refine a4c ((0:Nat)) (none) (0) ([]) (fun i A16 c16 xs=>I49)
      (fun i A16 c16 xs=>[(1,.slice A l.length c0),(2,.string p),(3,.int .i64 (day)),(4,.pointer (some ⟨g4,0,none⟩)),(16,.slice A16 i c16),(49,.slice CA (ofN l R p).length cc),(50,.int .i64 (((ofN l R p).length:Nat):Int)),(51,.int .i64 ((i:Nat):Int))])
      (fun i A16 c16 xs=>[.row (.slice A16 i c16) 64 2 i xs,.blk g4 72 [vc,ci f.op,ci f.n,sf]])
      (fun i A16 c16 xs=>i≤(ofN l R p).length∧Flat I49 xs (a1S l ((ofN l R p).take i)))
      (fun i A16 c16 xs=>(ofN l R p).length-i) ⟨Nat.zero_le _,.nil⟩ rfl sb rfl ?_
     intro i A16 c16 xs ⟨hi,hF⟩
     have hcl3:(a0I l R p).length=(ofN l R p).length:=a2i fun i hi=>b3H hi
     refine go 6 ?_;refine cb rfl (fun h52 p52=>?_) (fun h52 p52=>?_)
     ·have hlt:i<(ofN l R p).length:=by omega
      have hcl:(ofN l R p)[i]<l.length:=b3H (List.getElem_mem hlt)
      refine go 6 ?_;obtain⟨b53,o53,w53,e53,c53,r53⟩:=RdA.at_ hCA (i:=i) (by first|exact hlt|(rw[a3E];exact hlt));rw[c4p hlt]at r53
      obtain rfl:=r53;refine o_v rfl (a0m he rfl rfl e53 (i) (by omega) (by first|exact hlt|(rw[a3E];exact hlt))) ?_;refine o_v rfl (a0V he rfl (c53 0 _ rfl)) ?_;refine go 7 ?_;obtain⟨b58,o58,w58,e58,c58,r58⟩:=RdA.at_ hA (i:=(ofN l R p)[i]) hcl;obtain⟨q58,rfl,S58,d58,rfl,hS58,hd58,hm58⟩:=r58;refine o_v rfl (a0m he rfl rfl e58 ((ofN l R p)[i]) (by omega) hcl) ?_;refine o_v rfl (a0G he rfl c58 rfl) ?_;refine go 1 ?_;refine a0d he he rfl rfl rfl rfl rfl rfl rfl (fun v60=>?_);refine go 1 ?_;refine a0f ?_;refine a1h he he rfl rfl rfl rfl rfl (by omega) (by omega) rfl (fun v61=>?_);refine a3R (fun A61 c61 hv61=>?_);subst hv61;refine go 9 ?_;refine a0f ?_;refine a0b ?_;exact a2y (i+1) (_) (_) (_) ⟨by omega,by rw[c1J hlt hcl];exact hF.append (.one ⟨_,rfl,⟨_,_,rfl,hS58,hd58,hm58⟩⟩)⟩ (by omega) rfl sb rfl
     ·obtain rfl:i=(ofN l R p).length:=by omega
      rw[List.take_length]at hF
      refine a0l (l:=(a0I l R p)) rfl hcl3.symm hF (fun I9 j9 Ro=>?_)
      have hvc:=hvc.le j9
      have hf:=hf.le j9
      rw[←hcl3]at Ro ⊢
      refine go 13 ?_;refine cb rfl (fun h65 p65=>?_) (fun h65 p65=>?_)
      ·refine go 9 ?_;refine c3O rfl rfl rfl rfl ?_
       have e:(a5h f c l (a0I l R p) day)=2:=hBE.trans (d0i (own:=(a0I l R p)) hcf.1 hV (List.eq_nil_of_length_eq_zero (by omega)))
       exact q_i ⟨_,_,by rw[e]<;>rfl,fun h=>by rw[e]at h;cases h⟩
      ·have hne:(a0I l R p)≠[]:=fun e=>by rw[e]at h65;simp at h65
       have hce:=d0j (own:=(a0I l R p)) hcf.1 hV hne
       have hal:(a1Z c (a0I l R p) 4096).1.length≤4096:=by have h:=(b0J (c:=c) (l:=(a0I l R p)) (a:=4096) (b:=4096) (by omega) (by omega) (Int.le_refl _)).2.2.1;omega
       refine go 5 ?_;refine o_v rfl (a1W ([vc]) m0 he rfl rfl rfl) ?_;refine go 2 ?_;refine a1e (c8W _ vc c hvc hsc _ (a0I l R p) Ro (by omega) (fun r hr=>hsl r (a3M hr)) 4096) rfl rfl (fun v70 I70 j70 q70=>?_)
       try have hvc:=hvc.le j70
       try have hf:=hf.le j70
       try have hv0:=hv0.le j70
       try have hA:=hA.le j70
       try have Ro:=Ro.le j70
       try have hw70:=hw70.le j70
       obtain⟨w70,rfl,hw70⟩:=q70
       have hw70s:=hw70
       obtain⟨A70,c70,rfl,_,_,_⟩:=hw70s;refine go 8 ?_;refine a2C (I':=I70) (L':=[(16,.slice A16 (a0I l R p).length c16),(19,.slice A70 (a1Z c (a0I l R p) 4096).1.length c70),(20,.int .i64 ((a8G c l (a0I l R p))))]) (H':=[]) ?_ ?_
       ·refine go 5 ?_;refine sxb 75 rfl (fun h75 p75=>?_) (fun h75 p75=>?_)
        ·refine go 6 ?_;refine cb rfl (fun h79 p79=>?_) (fun h79 p79=>?_)
         ·refine go 4 ?_;refine a0b ?_;exact a0D ⟨rfl,rfl,(congrArg (fun n:Int=>some (Value.int .i64 n)) (by rw[hce];first|rw[if_pos (by simpa using h75)] | (rw[if_neg (by simpa using h75)];first|rw[if_pos (by omega)] | (rw[if_neg (by omega)];simpa using h75)))),trivial⟩ rfl rfl
         ·refine go 2 ?_;refine a0b ?_;exact a0D ⟨rfl,rfl,(congrArg (fun n:Int=>some (Value.int .i64 n)) (by rw[hce];first|rw[if_pos (by simpa using h75)] | (rw[if_neg (by simpa using h75)];first|rw[if_pos (by omega)] | (rw[if_neg (by omega)];simpa using h75)))),trivial⟩ rfl rfl
        ·refine go 6 ?_;refine a0X rfl ?_;refine go 2 ?_;refine a0b ?_;exact a0D ⟨rfl,rfl,(congrArg (fun n:Int=>some (Value.int .i64 n)) (by rw[hce];first|rw[if_pos (by simpa using h75)] | (rw[if_neg (by simpa using h75)];first|rw[if_pos (by omega)] | (rw[if_neg (by omega)];simpa using h75)))),trivial⟩ rfl rfl
       ·refine go 11 ?_;refine c3O rfl rfl rfl rfl ?_;exact q_i ⟨_,_,by rw[hBE]<;>rfl,fun _=>⟨Ro,hw70⟩⟩
theorem c9U (I:IMap) (vc:Value) (c:List Kind) (hvc:RdS I vc c) (hsc:SmC c) (f:Fm) (sf:Value) (hf:FmRd I [ci f.op,ci f.n,sf] f) (w:Value) (own:List Rep) (hw:RdS I w own) (how:own.length≤25) (hso:∀r∈own,∀e∈r.options,SmE e) (a:Value) (all:List (List Int)) (ha:RdS I a all) (p:ByteArray) (day:Int) (ga gw gs gd gp:Nat) (ka:ICells I ga 0 [a]) (kw:ICells I gw 0 [w]) (ks:ICells I gs 0 [vc,ci f.op,ci f.n,sf]) (kd:ICells I gd 0 [.int .i64 (day)]) (kp:ICells I gp 0 [.string p]) :
    d1Z Tryz.prog 202 [.pointer (some ⟨ga,0,none⟩),.pointer (some ⟨gw,0,none⟩),.pointer (some ⟨gs,0,none⟩),.pointer (some ⟨gd,0,none⟩),.pointer (some ⟨gp,0,none⟩)] I (fun I vs (o:Option Part)=>∃u,vs=[u]∧PtrO I u o) (fun _ _=>True) (fun pre=>pre=all.map (lifeG f c own p day)) (fun _=>True):=by
 obtain⟨AA,ca,rfl,hAA,hca,hma⟩:=ha;intro ly J I1 Hc hI1 hJm hY hJ0
 have hvc:=hvc.le hI1
 have hf:=hf.le hI1
 have hw:=hw.le hI1
 have hAA:=hAA.le hI1
 have ka:=ka.le hI1
 have kw:=kw.le hI1
 have ks:=ks.le hI1
 have kd:=kd.le hI1
 have kp:=kp.le hI1
 refine enter Tryz.func202 Tryz.call202 rfl Tryz.ntmps202 rfl (fun w0=>?_);refine go 2 ?_;refine o_v rfl (a0V he rfl (ka 0 _ rfl)) ?_;refine go 5 ?_
 refine a4c ((0:Nat)) ([]) (I1) (Hc) (fun i pre I2 Hc=>I2)
  (fun i pre I2 Hc=>[(0,.func (.yield ly) #[] #[]),(1,.pointer (some ⟨ga,0,none⟩)),(2,.pointer (some ⟨gw,0,none⟩)),(3,.pointer (some ⟨gs,0,none⟩)),(4,.pointer (some ⟨gd,0,none⟩)),(5,.pointer (some ⟨gp,0,none⟩)),(17,.slice AA all.length ca),(18,.int .i64 ((all.length:Nat):Int)),(19,.int .i64 ((i:Nat):Int))])
  (fun i pre I2 Hc=>Hc)
  (fun i pre I2 Hc=>i≤all.length∧ILe I1 I2∧pre=((all.take i).map (lifeG f c own p day))∧J true pre I2 Hc)
  (fun i pre I2 Hc=>all.length-i) ⟨Nat.zero_le _,ILe.refl _,rfl,hJ0⟩ rfl sb rfl ?_
 intro i pre I2 Hc ⟨hi,hI2,hpre,hJ⟩
 have hvc:=hvc.le hI2
 have hf:=hf.le hI2
 have hw:=hw.le hI2
 have hAA:=hAA.le hI2
 have ka:=ka.le hI2
 have kw:=kw.le hI2
 have ks:=ks.le hI2
 have kd:=kd.le hI2
 have kp:=kp.le hI2
 refine go 6 ?_;refine cb rfl (fun h20 p20=>?_) (fun h20 p20=>?_)
 ·have hlt:i<all.length:=by omega
  have hpl:=b3U own all[i]
  refine go 6 ?_;obtain⟨b21,o21,w21,e21,c21,r21⟩:=RdA.at_ hAA (i:=i) (by omega);obtain⟨q21,rfl,S21,d21,rfl,hS21,hd21,hm21⟩:=r21;refine o_v rfl (a0m he rfl rfl e21 (i) (by omega) (by omega)) ?_;refine o_v rfl (a0V he rfl (c21 0 _ rfl)) ?_;refine go 5 ?_;refine o_v rfl (a0V he rfl (kw 0 _ rfl)) ?_;refine go 2 ?_;refine a1e (b4e _ _ own hw (by omega) hso _ all[i] ⟨_,_,rfl,hS21,hd21,hm21⟩) rfl rfl (fun v26 I26 j26 q26=>?_)
  try have hvc:=hvc.le j26
  try have hf:=hf.le j26
  try have hw:=hw.le j26
  try have hAA:=hAA.le j26
  try have ka:=ka.le j26
  try have kw:=kw.le j26
  try have ks:=ks.le j26
  try have kd:=kd.le j26
  try have kp:=kp.le j26
  try have hz26:=hz26.le j26
  try have hwb:=hwb.le j26
  have hJ:=hJm _ _ _ _ _ j26 hJ
  obtain⟨z26,rfl,hz26⟩:=q26;refine go 9 ?_;refine o_v rfl (a0G he rfl ks rfl) ?_;refine go 1 ?_;refine o_v rfl (a0V he rfl (kd 0 _ rfl)) ?_;refine go 1 ?_;refine a1e (b5o _ vc c hvc hsc f sf hf _ (a1T own all[i]).1 hz26 (by omega) (b3X hso) day) rfl rfl (fun v33 I33 j33 q33=>?_)
  try have hvc:=hvc.le j33
  try have hf:=hf.le j33
  try have hw:=hw.le j33
  try have hAA:=hAA.le j33
  try have ka:=ka.le j33
  try have kw:=kw.le j33
  try have ks:=ks.le j33
  try have kd:=kd.le j33
  try have kp:=kp.le j33
  try have hz26:=hz26.le j33
  try have hwb:=hwb.le j33
  have hJ:=hJm _ _ _ _ _ j33 hJ
  obtain⟨wb,rfl,hwb⟩:=q33;refine go 5 ?_;refine a0h he rfl (fun g11=>?_);refine go 1 ?_;refine a0p _ he rfl rfl rfl rfl rfl (by simp[RdS.one hwb]) ?_;refine go 13 ?_;refine o_v rfl (a0V he rfl (kp 0 _ rfl)) ?_;refine go 1 ?_;refine a5b (c6a _ _ _ hwb p) rfl rfl (fun v40 q40=>?_);obtain⟨vs40,rfl,s40,rfl,hs40⟩:=q40;refine go 4 ?_;refine a0h he rfl (fun g15=>?_);refine go 1 ?_;refine a0p _ he rfl rfl rfl rfl rfl (Enc.one (α:=Part) (x:=(a0T (runL f c (a1T own all[i]).1 day).1 p).getD zPart) ⟨s40,rfl,hs40⟩) ?_;refine go 8 ?_;refine cb rfl (fun h43 p43=>?_) (fun h43 p43=>?_)
  ·refine go 9 ?_;refine a2m (fun Ig15 jg15 cg15=>?_)
   try have hvc:=hvc.le jg15
   try have hf:=hf.le jg15
   try have hw:=hw.le jg15
   try have hAA:=hAA.le jg15
   try have ka:=ka.le jg15
   try have kw:=kw.le jg15
   try have ks:=ks.le jg15
   try have kd:=kd.le jg15
   try have kp:=kp.le jg15
   try have hz26:=hz26.le jg15
   try have hwb:=hwb.le jg15
   have hJ:=hJm _ _ _ _ _ jg15 hJ
   refine b7n ((lifeG f c own p day all[i])) hY (hJm _ _ _ _ _ (ILe.refl _) hJ) (⟨_,rfl,(by first|exact b7z h43 cg15 hs40.one|exact b7y h43)⟩) (trivial) rfl rfl rfl (fun b46 I46 Hc46 j46 hJ46=>?_)
   try have hvc:=hvc.le j46
   try have hf:=hf.le j46
   try have hw:=hw.le j46
   try have hAA:=hAA.le j46
   try have ka:=ka.le j46
   try have kw:=kw.le j46
   try have ks:=ks.le j46
   try have kd:=kd.le j46
   try have kp:=kp.le j46
   try have hz26:=hz26.le j46
   try have hwb:=hwb.le j46
   have hJ:=hJm _ _ _ _ _ j46 hJ
   refine go 3 ?_;refine cb rfl (fun h47 p47=>?_) (fun h47 p47=>?_)
   ·have hb46:b46=false:=by simpa using h47
    refine go 5 ?_;refine c3N rfl ?_;refine a0b ?_;subst hb46;exact c9F false _ hJ46 trivial
   ·have hb46:b46=true:=by simpa using h47
    refine go 8 ?_;refine a0b ?_;exact a2y (i+1) (pre++[(lifeG f c own p day all[i])]) (I46) (Hc46) ⟨by omega,hI2.trans (j26.trans (j33.trans (jg15.trans j46))),by rw[←a0o hlt,List.map_append,hpre];rfl,hb46▸hJ46⟩ (by omega) rfl sb rfl
  ·refine go 7 ?_;refine a2m (fun Ig15 jg15 cg15=>?_)
   try have hvc:=hvc.le jg15
   try have hf:=hf.le jg15
   try have hw:=hw.le jg15
   try have hAA:=hAA.le jg15
   try have ka:=ka.le jg15
   try have kw:=kw.le jg15
   try have ks:=ks.le jg15
   try have kd:=kd.le jg15
   try have kp:=kp.le jg15
   try have hz26:=hz26.le jg15
   try have hwb:=hwb.le jg15
   have hJ:=hJm _ _ _ _ _ jg15 hJ
   refine b7n ((lifeG f c own p day all[i])) hY (hJm _ _ _ _ _ (ILe.refl _) hJ) (⟨_,rfl,(by first|exact b7z h43 cg15 hs40.one|exact b7y h43)⟩) (trivial) rfl rfl rfl (fun b46 I46 Hc46 j46 hJ46=>?_)
   try have hvc:=hvc.le j46
   try have hf:=hf.le j46
   try have hw:=hw.le j46
   try have hAA:=hAA.le j46
   try have ka:=ka.le j46
   try have kw:=kw.le j46
   try have ks:=ks.le j46
   try have kd:=kd.le j46
   try have kp:=kp.le j46
   try have hz26:=hz26.le j46
   try have hwb:=hwb.le j46
   have hJ:=hJm _ _ _ _ _ j46 hJ
   refine go 3 ?_;refine cb rfl (fun h47 p47=>?_) (fun h47 p47=>?_)
   ·have hb46:b46=false:=by simpa using h47
    refine go 5 ?_;refine c3N rfl ?_;refine a0b ?_;subst hb46;exact c9F false _ hJ46 trivial
   ·have hb46:b46=true:=by simpa using h47
    refine go 8 ?_;refine a0b ?_;exact a2y (i+1) (pre++[(lifeG f c own p day all[i])]) (I46) (Hc46) ⟨by omega,hI2.trans (j26.trans (j33.trans (jg15.trans j46))),by rw[←a0o hlt,List.map_append,hpre];rfl,hb46▸hJ46⟩ (by omega) rfl sb rfl
 ·have e:i=all.length:=by omega
  subst e;rw[List.take_length]at hpre
  refine go 4 ?_;refine a4w rfl ?_;exact c9F true _ hJ hpre
theorem b6l (I:IMap) (vc:Value) (c:List Kind) (hvc:RdS I vc c) (hsc:SmC c) (f:Fm) (sf:Value) (hf:FmRd I [ci f.op,ci f.n,sf] f) (w:Value) (own:List Rep) (hw:RdS I w own) (how:own.length≤25) (hso:∀r∈own,∀e∈r.options,SmE e) (a:Value) (all:List (List Int)) (ha:RdS I a all) (p:ByteArray) (day:Int)  :
    FnI Tryz.prog 133 #[.agg #[vc,ci f.op,ci f.n,sf],w,a,.string p,.int .i64 (day)] I (fun u J=>∃ga gw gs gd gp,u = .func (.func 202) #[] #[.pointer (some ⟨ga,0,none⟩),.pointer (some ⟨gw,0,none⟩),.pointer (some ⟨gs,0,none⟩),.pointer (some ⟨gd,0,none⟩),.pointer (some ⟨gp,0,none⟩)]∧RdS J w own∧RdS J a all∧ICells J ga 0 [a]∧ICells J gw 0 [w]∧ICells J gs 0 [vc,ci f.op,ci f.n,sf]∧ICells J gd 0 [.int .i64 (day)]∧ICells J gp 0 [.string p]):=by
 have ha0:=ha
 obtain⟨AA,ca,rfl,_,_,_⟩:=ha0
 have hw0:=hw
 obtain⟨AW,cw,rfl,_,_,_⟩:=hw0;refine enter Tryz.func133 Tryz.call133 rfl Tryz.ntmps133 rfl (fun w0=>?_);refine go 3 ?_;refine a0y _ rfl rfl rfl (fun g5=>?_);refine go 1 ?_;refine a0y _ rfl rfl rfl (fun g6=>?_);refine go 1 ?_;refine a0y _ rfl rfl rfl (fun g7=>?_);refine go 1 ?_;refine a0y _ rfl rfl rfl (fun g8=>?_);refine go 1 ?_;refine a0y _ rfl rfl rfl (fun g9=>?_);refine go 5 ?_;refine a0r ?_;refine a2m (fun Ig7 jg7 cg7=>?_)
 have hw:=hw.le jg7
 have ha:=ha.le jg7
 refine a0r ?_;refine a2m (fun Ig6 jg6 cg6=>?_)
 have hw:=hw.le jg6
 have ha:=ha.le jg6
 have cg7:=cg7.le jg6
 refine a0r ?_;refine a2m (fun Ig5 jg5 cg5=>?_)
 have hw:=hw.le jg5
 have ha:=ha.le jg5
 have cg7:=cg7.le jg5
 have cg6:=cg6.le jg5
 refine a2m (fun Ig9 jg9 cg9=>?_)
 have hw:=hw.le jg9
 have ha:=ha.le jg9
 have cg7:=cg7.le jg9
 have cg6:=cg6.le jg9
 have cg5:=cg5.le jg9
 refine a2m (fun Ig8 jg8 cg8=>?_)
 have hw:=hw.le jg8
 have ha:=ha.le jg8
 have cg7:=cg7.le jg8
 have cg6:=cg6.le jg8
 have cg5:=cg5.le jg8
 have cg9:=cg9.le jg8
 refine o_v rfl (a1b rfl rfl) ?_;refine go 4 ?_;refine a0u rfl rfl ?_;exact q_i ⟨g7,g6,g5,g9,g8,rfl,hw,ha,cg7,cg6,cg5,cg9,cg8⟩
theorem c3o (I:IMap) (vc:Value) (c:List Kind) (hvc:RdS I vc c) (hsc:SmC c) (f:Fm) (sf:Value) (hf:FmRd I [ci f.op,ci f.n,sf] f) (v:Value) (l:List Rep) (hv:RdS I v l) (hl:l.length≤25) (hsl:∀r∈l,∀e∈r.options,SmE e) (R:Nat→Nat) (hRt:Rts l R) (p:ByteArray) (day:Int) {σ:Type} (enc:σ→List Value) (s0:σ) (he0:enc s0=[.bool false,.int .i64 0,.int .i64 0,.bool false,.int .i64 0,.int .i64 0,.bool false,.int .i64 0,.int .i64 0]) (hen:∀s,(enc s).length=9) (hoc:∀s,(enc s).all Value.oneCell'=true) (g:σ→Option Part→σ) (F:FuncId) (cs:List Value) (hsh:∀J,ILe I J→∀(b:Nat) (s:σ) (u:Value) (o:Option Part),PtrO J u o→FnM Tryz.prog F (.pointer (some ⟨b,0,none⟩)::u::cs).toArray J (.blk b 132 (enc s)) (.blk b 132 (enc (g s o)))) :
    FnI Tryz.prog 74 #[.agg #[vc,ci f.op,ci f.n,sf],v,.string p,.int .i64 (day),.func (.func F) #[] cs.toArray] I (fun u J=>u = .tuple #[.agg (enc (bndS s0 g f c l (a0I l R p) p day)).toArray,.int .i64 (bndA f c l (a0I l R p) p day)]):=by
 refine enter Tryz.func74 Tryz.call74 rfl Tryz.ntmps74 rfl (fun w0=>?_);refine go 3 ?_;refine a0y _ rfl rfl rfl (fun g5=>?_);refine go 1 ?_;refine a0y _ rfl rfl rfl (fun g9=>?_);refine go 1 ?_;refine a0h he rfl (fun g10=>?_);refine go 6 ?_;refine a0h he rfl (fun g12=>?_);refine a2L (enc s0) he0.symm ?_;refine go 1 ?_;refine a0h he rfl (fun g13=>?_);refine go 9 ?_;refine a1e (b9K _ vc c hvc hsc f sf hf v l hv hl hsl R hRt p day) rfl rfl (fun v24 I24 j24 q24=>?_)
 try have hvc:=hvc.le j24
 try have hf:=hf.le j24
 try have hv:=hv.le j24
 obtain⟨w,a,rfl,hwa⟩:=q24;refine go 16 ?_;refine cb rfl (fun h29 p29=>?_) (fun h29 p29=>?_)
 ·refine go 5 ?_;refine a0r ?_;refine a0p _ he rfl rfl rfl rfl rfl rfl ?_;refine go 5 ?_;refine a2A rfl ⟨_,_,_,rfl,m0,.inr ⟨_,he,(by first|rfl|exact hen _),rfl⟩⟩ rfl ?_
  have e:(bndA f c l (a0I l R p) p day)=(a5h f c l (a0I l R p) day):=if_pos p29
  exact q_i (by unfold bndS;rw[e,if_neg p29,he0]<;>rfl)
 ·have h0:(a5h f c l (a0I l R p) day)=0:=by simpa using h29
  obtain⟨rw,ra⟩:=hwa h0
  have hBA:(bndA f c l (a0I l R p) p day)=if (lifeA f c (a0I l R p) p day).any Option.isSome=false then 2 else 0:=if_neg (by simp[h0])
  refine go 5 ?_;refine a0h he rfl (fun g17=>?_);refine go 1 ?_;refine a0p _ he rfl rfl rfl rfl rfl rfl ?_;refine go 11 ?_;refine a1e (b6l _ vc c hvc hsc f sf hf w (a0I l R p) rw (Nat.le_trans a5c hl) (fun r hr=>hsl r (a3M hr)) a (a1Z c (a0I l R p) 4096).1 ra p day) rfl rfl (fun v37 I37 j37 q37=>?_)
  try have hvc:=hvc.le j37
  try have hf:=hf.le j37
  try have hv:=hv.le j37
  obtain⟨ga,gw,gs,gd,gp,rfl,rw2,ra2,ka,kw,ks,kd,kp⟩:=q37;refine go 3 ?_;refine a0A ?_;refine a0A ?_;refine a0A ?_;refine a0A ?_;refine a0A ?_;refine b1S (σ:=σ×Bool) (ps:=[38]) (s0,false) (fun ⟨s,b⟩=>[.blk g17 4 [.bool b],.blk g13 132 [.bool false,.int .i64 0,.int .i64 0,.bool false,.int .i64 0,.int .i64 0,.bool false,.int .i64 0,.int .i64 0],.blk g12 132 (enc s),.blk g10 132 [.bool false,.int .i64 0,.int .i64 0,.bool false,.int .i64 0,.int .i64 0,.bool false,.int .i64 0,.int .i64 0],.blk g9 139 [.func (.func F) #[] cs.toArray]]) (fun pre I ⟨s,b⟩=>s=pre.foldl g s0∧b=pre.any Option.isSome) (fun _ _ _ _=>False) rfl Tryz.call202 (c9U _ vc c hvc hsc f sf hf w (a0I l R p) rw2 (Nat.le_trans a5c hl) (fun r hr=>hsl r (a3M hr)) a (a1Z c (a0I l R p) 4096).1 ra2 p day ga gw gs gd gp ka kw ks kd kp) (fun I vs x h=>by obtain⟨u,rfl,_⟩:=h;rfl) rfl (fun pre I I' s hI h=>by obtain⟨s,b⟩:=s;exact h) (fun _ _ _ _ _ _ h=>h) (⟨rfl,rfl⟩) rfl ?_ ?_ ?_
  ·rintro r E1 pre o vs I1 ⟨s,b⟩ hI1 ⟨hs,hb⟩ ⟨u,rfl,hu⟩ _;obtain⟨pp,rfl,_⟩:=hu.val;refine c2k ?_;refine go 3 ?_;refine b2y ?_;refine go 6 ?_;refine a0A ?_;refine a4F (hsh _ ((j24.trans j37).trans hI1) g12 s _ o hu) rfl rfl ?_;refine go 5 ?_;refine sxb 43 rfl (fun h43 p43=>?_) (fun h43 p43=>?_)
   ·refine go 4 ?_;refine a1c ?_;refine a0p _ he rfl rfl rfl rfl rfl rfl ?_;refine go 2 ?_;refine a1d ?_;refine a1d ?_;refine a1c ?_;refine a1d ?_;refine a0A ?_;refine a1d ?_;refine a1d ?_;exact b1n ((g s o,b||o.isSome)) (hI1) (⟨by rw[hs,List.foldl_append];rfl,by rw[hb,List.any_append];simp⟩) (by simp[h43,a5A hu])
   ·refine go 1 ?_;refine a0H (a0E rfl rfl h43 (a0s rfl (b8a he rfl rfl) ?_));refine go 2 ?_;refine a1c ?_;refine a0p _ he rfl rfl rfl rfl rfl rfl ?_;refine go 2 ?_;refine a1d ?_;refine a1d ?_;refine a1c ?_;refine a1d ?_;refine a0A ?_;refine a1d ?_;refine a1d ?_;exact b1n ((g s o,b||o.isSome)) (hI1) (⟨by rw[hs,List.foldl_append];rfl,by rw[hb,List.any_append];simp⟩) (by simp[h43,a5A hu])
  ·rintro D pre I1 ⟨s,b⟩ hI1 rfl ⟨hs,hb⟩;rw[b3w]at hs hb
   refine c2j ?_;refine go 9 ?_;refine cb rfl (fun h48 p48=>?_) (fun h48 p48=>?_)
   ·refine go 4 ?_;refine a0A ?_;refine a0p _ he rfl rfl rfl rfl rfl rfl ?_;refine go 5 ?_;refine a0f ?_;refine a7s ?_;refine a2A rfl ⟨_,_,_,rfl,m1,.inr ⟨_,he,(by first|rfl|exact hen _),rfl⟩⟩ rfl ?_
    have e:(bndA f c l (a0I l R p) p day)=2:=by rw[hBA,if_pos (by rw[←hb];simpa using h48)]
    exact q_i (by unfold bndS;rw[e,if_neg (by decide),he0]<;>rfl)
   ·refine go 4 ?_;refine o_v rfl (a4k m3 he rfl (hen _)) ?_;refine go 1 ?_;refine a0A ?_;refine a0p _ he rfl rfl rfl (hen _) rfl (hoc _) ?_;refine go 4 ?_;refine a0f ?_;refine a7s ?_;refine a2A rfl ⟨_,_,_,rfl,m1,.inr ⟨_,he,(by first|rfl|exact hen _),rfl⟩⟩ rfl ?_
    have e:(bndA f c l (a0I l R p) p day)=0:=by rw[hBA,if_neg (by rw[←hb];simpa using h48)]
    exact q_i (by unfold bndS;rw[e,if_pos rfl,hs]<;>rfl)
  ·rintro D pre I1 s cd hI1 hpart h;exact h.elim
theorem c3n (I:IMap) (vc:Value) (c:List Kind) (hvc:RdS I vc c) (hsc:SmC c) (f:Fm) (sf:Value) (hf:FmRd I [ci f.op,ci f.n,sf] f) (v:Value) (l:List Rep) (hv:RdS I v l) (hl:l.length≤25) (hsl:∀r∈l,∀e∈r.options,SmE e) (R:Nat→Nat) (hRt:Rts l R) (p:ByteArray) (day:Int) {σ:Type} (enc:σ→List Value) (s0:σ) (he0:enc s0=[.bool false,.int .i64 0,.int .i64 0]) (hen:∀s,(enc s).length=3) (hoc:∀s,(enc s).all Value.oneCell'=true) (g:σ→Option Part→σ) (F:FuncId) (cs:List Value) (hsh:∀J,ILe I J→∀(b:Nat) (s:σ) (u:Value) (o:Option Part),PtrO J u o→FnM Tryz.prog F (.pointer (some ⟨b,0,none⟩)::u::cs).toArray J (.blk b 131 (enc s)) (.blk b 131 (enc (g s o)))) :
    FnI Tryz.prog 80 #[.agg #[vc,ci f.op,ci f.n,sf],v,.string p,.int .i64 (day),.func (.func F) #[] cs.toArray] I (fun u J=>u = .tuple #[.agg (enc (bndS s0 g f c l (a0I l R p) p day)).toArray,.int .i64 (bndA f c l (a0I l R p) p day)]):=by
 refine enter Tryz.func80 Tryz.call80 rfl Tryz.ntmps80 rfl (fun w0=>?_);refine go 3 ?_;refine a0y _ rfl rfl rfl (fun g5=>?_);refine go 1 ?_;refine a0y _ rfl rfl rfl (fun g9=>?_);refine go 1 ?_;refine a0h he rfl (fun g10=>?_);refine go 6 ?_;refine a0h he rfl (fun g12=>?_);refine a2L (enc s0) he0.symm ?_;refine go 1 ?_;refine a0h he rfl (fun g13=>?_);refine go 9 ?_;refine a1e (b9K _ vc c hvc hsc f sf hf v l hv hl hsl R hRt p day) rfl rfl (fun v24 I24 j24 q24=>?_)
 try have hvc:=hvc.le j24
 try have hf:=hf.le j24
 try have hv:=hv.le j24
 obtain⟨w,a,rfl,hwa⟩:=q24;refine go 16 ?_;refine cb rfl (fun h29 p29=>?_) (fun h29 p29=>?_)
 ·refine go 5 ?_;refine a0r ?_;refine a0p _ he rfl rfl rfl rfl rfl rfl ?_;refine go 5 ?_;refine a2A rfl ⟨_,_,_,rfl,m0,.inr ⟨_,he,(by first|rfl|exact hen _),rfl⟩⟩ rfl ?_
  have e:(bndA f c l (a0I l R p) p day)=(a5h f c l (a0I l R p) day):=if_pos p29
  exact q_i (by unfold bndS;rw[e,if_neg p29,he0]<;>rfl)
 ·have h0:(a5h f c l (a0I l R p) day)=0:=by simpa using h29
  obtain⟨rw,ra⟩:=hwa h0
  have hBA:(bndA f c l (a0I l R p) p day)=if (lifeA f c (a0I l R p) p day).any Option.isSome=false then 2 else 0:=if_neg (by simp[h0])
  refine go 5 ?_;refine a0h he rfl (fun g17=>?_);refine go 1 ?_;refine a0p _ he rfl rfl rfl rfl rfl rfl ?_;refine go 11 ?_;refine a1e (b6l _ vc c hvc hsc f sf hf w (a0I l R p) rw (Nat.le_trans a5c hl) (fun r hr=>hsl r (a3M hr)) a (a1Z c (a0I l R p) 4096).1 ra p day) rfl rfl (fun v37 I37 j37 q37=>?_)
  try have hvc:=hvc.le j37
  try have hf:=hf.le j37
  try have hv:=hv.le j37
  obtain⟨ga,gw,gs,gd,gp,rfl,rw2,ra2,ka,kw,ks,kd,kp⟩:=q37;refine go 3 ?_;refine a0A ?_;refine a0A ?_;refine a0A ?_;refine a0A ?_;refine a0A ?_;refine b1S (σ:=σ×Bool) (ps:=[38]) (s0,false) (fun ⟨s,b⟩=>[.blk g17 4 [.bool b],.blk g13 131 [.bool false,.int .i64 0,.int .i64 0],.blk g12 131 (enc s),.blk g10 131 [.bool false,.int .i64 0,.int .i64 0],.blk g9 148 [.func (.func F) #[] cs.toArray]]) (fun pre I ⟨s,b⟩=>s=pre.foldl g s0∧b=pre.any Option.isSome) (fun _ _ _ _=>False) rfl Tryz.call202 (c9U _ vc c hvc hsc f sf hf w (a0I l R p) rw2 (Nat.le_trans a5c hl) (fun r hr=>hsl r (a3M hr)) a (a1Z c (a0I l R p) 4096).1 ra2 p day ga gw gs gd gp ka kw ks kd kp) (fun I vs x h=>by obtain⟨u,rfl,_⟩:=h;rfl) rfl (fun pre I I' s hI h=>by obtain⟨s,b⟩:=s;exact h) (fun _ _ _ _ _ _ h=>h) (⟨rfl,rfl⟩) rfl ?_ ?_ ?_
  ·rintro r E1 pre o vs I1 ⟨s,b⟩ hI1 ⟨hs,hb⟩ ⟨u,rfl,hu⟩ _;obtain⟨pp,rfl,_⟩:=hu.val;refine c2k ?_;refine go 3 ?_;refine b2y ?_;refine go 6 ?_;refine a0A ?_;refine a4F (hsh _ ((j24.trans j37).trans hI1) g12 s _ o hu) rfl rfl ?_;refine go 5 ?_;refine sxb 43 rfl (fun h43 p43=>?_) (fun h43 p43=>?_)
   ·refine go 4 ?_;refine a1c ?_;refine a0p _ he rfl rfl rfl rfl rfl rfl ?_;refine go 2 ?_;refine a1d ?_;refine a1d ?_;refine a1c ?_;refine a1d ?_;refine a0A ?_;refine a1d ?_;refine a1d ?_;exact b1n ((g s o,b||o.isSome)) (hI1) (⟨by rw[hs,List.foldl_append];rfl,by rw[hb,List.any_append];simp⟩) (by simp[h43,a5A hu])
   ·refine go 1 ?_;refine a0H (a0E rfl rfl h43 (a0s rfl (b8a he rfl rfl) ?_));refine go 2 ?_;refine a1c ?_;refine a0p _ he rfl rfl rfl rfl rfl rfl ?_;refine go 2 ?_;refine a1d ?_;refine a1d ?_;refine a1c ?_;refine a1d ?_;refine a0A ?_;refine a1d ?_;refine a1d ?_;exact b1n ((g s o,b||o.isSome)) (hI1) (⟨by rw[hs,List.foldl_append];rfl,by rw[hb,List.any_append];simp⟩) (by simp[h43,a5A hu])
  ·rintro D pre I1 ⟨s,b⟩ hI1 rfl ⟨hs,hb⟩;rw[b3w]at hs hb
   refine c2j ?_;refine go 9 ?_;refine cb rfl (fun h48 p48=>?_) (fun h48 p48=>?_)
   ·refine go 4 ?_;refine a0A ?_;refine a0p _ he rfl rfl rfl rfl rfl rfl ?_;refine go 5 ?_;refine a0f ?_;refine a7s ?_;refine a2A rfl ⟨_,_,_,rfl,m1,.inr ⟨_,he,(by first|rfl|exact hen _),rfl⟩⟩ rfl ?_
    have e:(bndA f c l (a0I l R p) p day)=2:=by rw[hBA,if_pos (by rw[←hb];simpa using h48)]
    exact q_i (by unfold bndS;rw[e,if_neg (by decide),he0]<;>rfl)
   ·refine go 4 ?_;refine o_v rfl (a4k m3 he rfl (hen _)) ?_;refine go 1 ?_;refine a0A ?_;refine a0p _ he rfl rfl rfl (hen _) rfl (hoc _) ?_;refine go 4 ?_;refine a0f ?_;refine a7s ?_;refine a2A rfl ⟨_,_,_,rfl,m1,.inr ⟨_,he,(by first|rfl|exact hen _),rfl⟩⟩ rfl ?_
    have e:(bndA f c l (a0I l R p) p day)=0:=by rw[hBA,if_neg (by rw[←hb];simpa using h48)]
    exact q_i (by unfold bndS;rw[e,if_pos rfl,hs]<;>rfl)
  ·rintro D pre I1 s cd hI1 hpart h;exact h.elim
theorem a6U (I:IMap) (vc:Value) (c:List Kind) (hvc:RdS I vc c) (hsc:SmC c) (f:Fm) (sf:Value) (hf:FmRd I [ci f.op,ci f.n,sf] f) (v:Value) (l:List Rep) (hv:RdS I v l) (hl:l.length≤25) (hsl:∀r∈l,∀e∈r.options,SmE e) (R:Nat→Nat) (hRt:Rts l R) (p:ByteArray) (day:Int)  :
    FnI Tryz.prog 37 #[.agg #[vc,ci f.op,ci f.n,sf],v,.string p,.int .i64 (day)] I (fun u J=>u = .tuple #[.agg (bndLife f c l (a0I l R p) p day).1.cells.toArray,.int .i64 (bndLife f c l (a0I l R p) p day).2]):=by
 refine enter Tryz.func37 Tryz.call37 rfl Tryz.ntmps37 rfl (fun w0=>?_);refine go 3 ?_;refine a0y _ rfl rfl rfl (fun g4=>?_);refine go 1 ?_;refine a0h he rfl (fun g8=>?_);refine go 10 ?_;refine a1e (c3o _ vc c hvc hsc f sf hf v l hv hl hsl R hRt p day (fun (xs:H3s)=>(xs.1.map hcl).flatten) z3 rfl d0y d0z g3F 75 [] (fun J hJ b s u o hu=>c6K J b s.1 s.2 u o hu)) rfl rfl (fun v17 I17 j17 q17=>?_)
 try have hvc:=hvc.le j17
 try have hf:=hf.le j17
 try have hv:=hv.le j17
 obtain rfl:=q17;obtain⟨x0,x1,x2,hS⟩:=c0G (bndS z3 g3F f c l (a0I l R p) p day);obtain⟨hq,hq2⟩:=d3i hS;rw[hS];refine go 4 ?_;refine a0h he rfl (fun g10=>?_);refine go 1 ?_;refine a0p _ he rfl rfl rfl rfl rfl rfl ?_;refine go 5 ?_;refine o_v rfl (a2c he rfl rfl 0 rfl (by omega)) ?_;refine go 1 ?_;refine o_v rfl (a1W (x0.2.cells) m0 he rfl rfl rfl) ?_;refine o_v rfl (a2c he rfl rfl 1 rfl (by omega)) ?_;refine go 1 ?_;refine o_v rfl (a1W (x1.2.cells) m0 he rfl rfl rfl) ?_;refine o_v rfl (a2c he rfl rfl 2 rfl (by omega)) ?_;refine go 1 ?_;refine o_v rfl (a1W (x2.2.cells) m0 he rfl rfl rfl) ?_;refine go 1 ?_;refine a0s rfl (a0z (pl:=[(0,2),(2,2),(4,2)]) he he rfl rfl) ?_;refine go 2 ?_;refine a0f ?_;refine a0p _ he rfl rfl rfl rfl rfl rfl ?_;refine go 4 ?_;refine a2A rfl ⟨_,_,_,rfl,m0,.inr ⟨_,he,rfl,rfl⟩⟩ rfl ?_;exact q_i (by rw[hq,hq2]<;>rfl)
theorem c6J (I:IMap) (b:Nat) (x:Hu) (u:Value) (o:Option Part) (hu:PtrO I u o) (s:ByteArray) (day:Int) (ga gd:Nat) (ka:ICells I ga 0 [.string s]) (kd:ICells I gd 0 [.int .i64 (day)]) :
    FnM Tryz.prog 81 #[.pointer (some ⟨b,0,none⟩),u,.pointer (some ⟨ga,0,none⟩),.pointer (some ⟨gd,0,none⟩)] I (.blk b 131 (hcl x)) (.blk b 131 (hcl (b3Z x (b9o s day o)))):=by
 obtain⟨pp,rfl,hpp⟩:=hu.val;refine enter Tryz.func81 Tryz.call81 rfl Tryz.ntmps81 rfl (fun w0=>?_);refine go 3 ?_;refine a0h he rfl (fun g6=>?_);refine go 3 ?_;refine a2C (I':=I) (L':=[(0,.pointer (some ⟨b,0,none⟩)),(6,.pointer (some ⟨g6,0,none⟩))]) (H':=[.blk g6 44 (b9o s day o).cells,.blk b 131 (hcl x)]) ?_ ?_
 ·refine go 3 ?_;refine o_v rfl (b8a he rfl rfl) ?_;refine go 2 ?_;refine cb rfl (fun h8 p8=>?_) (fun h8 p8=>?_)
  ·obtain⟨q,gq,w,rfl,rfl,cu,hw⟩:=hpp.resolve_left (by rintro⟨rfl,_⟩;simp at h8);refine a1r T.mixed ?_;refine a0g 0 rfl rfl (by kernel_rfl) rfl (.cons _ (.refl _)) rfl (a0c rfl) ?_;refine a0g 1 rfl rfl (by kernel_rfl) rfl (.cons _ (.refl _)) rfl (a0j rfl) ?_;refine a0g 2 rfl rfl (by kernel_rfl) rfl (.cons _ (.refl _)) rfl (a0G he rfl cu rfl) ?_;refine a0g 3 rfl rfl (by kernel_rfl) rfl (.cons _ (.refl _)) rfl (a0V he rfl (ka 0 _ rfl)) ?_;refine a0g 4 rfl rfl (by kernel_rfl) rfl (.cons _ (.refl _)) rfl (a0V he rfl (kd 0 _ rfl)) ?_;refine a0i 5 (by kernel_rfl) rfl ?_;refine a0a (c1a _ q w hw s day) rfl rfl ?_;refine a0v (fun _ m=>m.keeps (.cons _ (.refl _))) ?_;refine a0g 6 rfl rfl (by kernel_rfl) rfl (.cons _ (.refl _)) rfl (a0c rfl) ?_;refine a0g 7 rfl rfl (by kernel_rfl) rfl (.cons _ (.refl _)) rfl (a5u rfl rfl) ?_;refine a0g 8 rfl rfl (by kernel_rfl) rfl (.cons _ (.refl _)) rfl (a5u rfl rfl) ?_;refine a0i 9 (by kernel_rfl) rfl ?_;refine a0p _ he rfl rfl rfl rfl rfl rfl ?_;refine a0v (fun _ m=>m.keeps (.cons _ (.refl _))) ?_;refine a0w (by kernel_rfl) ?_;refine go 1 ?_;exact a0D sb rfl rfl
  ·obtain⟨rfl,rfl⟩:pp=none∧o=none:=hpp.resolve_right (by rintro⟨q,g,w,rfl,_⟩;simp at h8);refine go 2 ?_;exact a0D sb rfl rfl
 ·refine go 4 ?_;refine a0f ?_;refine a4F (c0N (xss:=[hcl x]) _ b 131 0 (c6b [x]) x rfl (b9o s day o) 0 rfl) rfl rfl ?_;refine go 1 ?_;refine a4w rfl ?_;refine a0f ?_;refine a0b ?_;exact q_m
theorem a9m (I:IMap) (vc:Value) (c:List Kind) (hvc:RdS I vc c) (hsc:SmC c) (f:Fm) (sf:Value) (hf:FmRd I [ci f.op,ci f.n,sf] f) (v:Value) (l:List Rep) (hv:RdS I v l) (hl:l.length≤25) (hsl:∀r∈l,∀e∈r.options,SmE e) (R:Nat→Nat) (hRt:Rts l R) (p:ByteArray) (s:ByteArray) (day:Int)  :
    FnI Tryz.prog 39 #[.agg #[vc,ci f.op,ci f.n,sf],v,.string p,.string s,.int .i64 (day)] I (fun u J=>u = .tuple #[.agg (bndVal s f c l (a0I l R p) p day).1.cells.toArray,.int .i64 (bndVal s f c l (a0I l R p) p day).2]):=by
 refine enter Tryz.func39 Tryz.call39 rfl Tryz.ntmps39 rfl (fun w0=>?_);refine go 3 ?_;refine a0y _ rfl rfl rfl (fun g5=>?_);refine go 1 ?_;refine a0y _ rfl rfl rfl (fun g8=>?_);refine go 1 ?_;refine a0y _ rfl rfl rfl (fun g9=>?_);refine go 1 ?_;refine a0h he rfl (fun g10=>?_);refine go 8 ?_;refine a0a (d0K _ s) rfl rfl ?_;refine go 3 ?_;refine cb rfl (fun h16 p16=>?_) (fun h16 p16=>?_)
 ·refine go 3 ?_;refine a0s rfl (a0z (pl:=[(0,1),(1,1)]) he he rfl rfl) ?_;refine go 1 ?_;refine a0p _ he rfl rfl rfl rfl rfl rfl ?_;refine go 5 ?_;refine a2A rfl ⟨_,_,_,rfl,m0,.inr ⟨_,he,rfl,rfl⟩⟩ rfl ?_
  have e:(bndVal s f c l (a0I l R p) p day)=(a4l,15):=if_pos (by simpa using h16)
  exact q_i (by rw[e]<;>rfl)
 ·have hcu:a7i s=true:=by simpa using h16
  have hBV:(bndVal s f c l (a0I l R p) p day)=bndF (b9o s day) f c l (a0I l R p) p day:=if_neg (by rw[hcu];decide)
  refine go 8 ?_;refine a0r ?_;refine a2m (fun Ig8 jg8 cg8=>?_)
  have hvc:=hvc.le jg8
  have hf:=hf.le jg8
  have hv:=hv.le jg8
  refine a0f ?_;refine a2m (fun Ig9 jg9 cg9=>?_)
  have hvc:=hvc.le jg9
  have hf:=hf.le jg9
  have hv:=hv.le jg9
  have cg8:=cg8.le jg9
  refine o_v rfl (a1b rfl rfl) ?_;refine go 1 ?_;refine a1e (c3n _ vc c hvc hsc f sf hf v l hv hl hsl R hRt p day hcl ((false,a4l):Hu) rfl (fun _=>rfl) (fun _=>rfl) (fun h o=>b3Z h (b9o s day o)) 81 [.pointer (some ⟨g8,0,none⟩),.pointer (some ⟨g9,0,none⟩)] (fun J hJ b x u o hu=>c6J J b x u o hu s day g8 g9 (cg8.le hJ) (cg9.le hJ))) rfl rfl (fun v24 I24 j24 q24=>?_)
  try have hvc:=hvc.le j24
  try have hf:=hf.le j24
  try have hv:=hv.le j24
  obtain rfl:=q24
  have hq:=d2a (f:=f) (c:=c) (l:=l) (own:=(a0I l R p)) (p:=p) (day:=day) (g:=b9o s day)
  have hq2:=bndA_is (f:=f) (c:=c) (l:=l) (own:=(a0I l R p)) (p:=p) (day:=day) (g:=b9o s day)
  obtain⟨x0,hS⟩:∃q,q=bndS ((false,a4l):Hu) (fun h o=>b3Z h (b9o s day o)) f c l (a0I l R p) p day:=⟨_,rfl⟩;rw[←hS]at hq ⊢
  refine go 4 ?_;refine a0h he rfl (fun g12=>?_);refine go 1 ?_;refine a0p _ he rfl rfl rfl rfl rfl rfl ?_;refine go 6 ?_;refine o_v rfl (a1W (x0.2.cells) m0 he rfl rfl rfl) ?_;refine go 2 ?_;refine a0f ?_;refine a0p _ he rfl rfl rfl rfl rfl rfl ?_;refine go 4 ?_;refine a2A rfl ⟨_,_,_,rfl,m0,.inr ⟨_,he,rfl,rfl⟩⟩ rfl ?_;exact q_i (by rw[hBV,←hq,hq2]<;>rfl)
end Go.Proofs.YtdapmfkbpnjkmaaGreat
set_option linter.all false
namespace Go.Sx
open Go
def b3f (c:List Kind) (f:Fm) (l:List Rep):Bool:=b8u c f [] 0&&b8v l 729
theorem b6A {c:List Kind} {f:Fm} {l:List Rep} (h:b3f c f l=true):SmC c∧l.length≤12∧(∀r∈l,∀e∈r.options,SmE e)∧a4O l≤729:=by
 simp only[b3f,Bool.and_eq_true]at h
 obtain⟨h1,h2⟩:=c3G h.2
 have h3:=b5a h1
 have h4:=h.1
 simp only[b8u,b8f,Bool.and_eq_true,Bool.not_eq_true',Bool.or_eq_false_iff,Bool.not_eq_false']at h4
 exact⟨c0o h4.1.1.2,by have:=h3.2;omega,h3.1,by omega⟩
theorem c9X {I:IMap}:FmRd I [ci bxF.op,ci bxF.n,.slice none 0 0] bxF:=.mk 2 0 [] none 0 0 0 (fun _=>[]) (fun h=>absurd h (Nat.lt_irrefl 0)) (fun i x h=>by simp at h) (fun i x h=>by simp at h) (Nat.le_refl _) (by omega)
section
variable {f:Fm} {c:List Kind} {l:List Rep} {R:Nat→Nat} {p:ByteArray} {day:Int}
end
end Go.Sx
namespace Go.Proofs.YtdapmfkbpnjkmaaGreat
open Go Go.Sx
set_option linter.all false
set_option maxRecDepth 20000
set_option maxHeartbeats 4000000
theorem T.eqg_44:Tryz.prog.eqGuardType Tryz.prog.depth 44=false:=by kernel_rfl
instance T.pl_70:Has (plK Tryz.prog 70) [(0,1),(1,1),(2,1)]:=⟨by kernel_rfl⟩
instance T.pl_72:Has (plK Tryz.prog 72) [(0,1),(1,3)]:=⟨by kernel_rfl⟩
instance T.zero_72:Has (a2e Tryz.prog 72) [.slice none 0 0,.int .i64 0,.int .i64 0,.slice none 0 0]:=⟨by kernel_rfl⟩
theorem c4V (I:IMap) (vc:Value) (c:List Kind) (hvc:RdS I vc c) (f:Fm) (sf:Value) (hf:FmRd I [ci f.op,ci f.n,sf] f) (v:Value) (l:List Rep) (hv:RdS I v l) :
    FnV Tryz.prog 73 #[.agg #[vc,ci f.op,ci f.n,sf],v] I (.bool (b3f c f l)):=by
 refine enter Tryz.func73 Tryz.call73 rfl Tryz.ntmps73 rfl (fun w0=>?_);refine go 3 ?_;refine a0y _ rfl rfl rfl (fun g2=>?_);refine go 7 ?_;refine a0a (c4R _ vc c hvc f sf hf _ [] RdS.nil' 0) rfl rfl ?_;refine go 1 ?_;refine sxb 7 rfl (fun h7 p7=>?_) (fun h7 p7=>?_)
 ·refine go 2 ?_;refine a0E rfl rfl h7 (a0a (c4U _ v l hv 729 (by omega)) rfl rfl ?_);refine go 5 ?_;refine a0u rfl rfl ?_;exact q_v (congrArg Value.bool (by simp only[b3f,h7,bS]))
 ·refine go 7 ?_;refine a0u rfl rfl ?_;exact q_v (congrArg Value.bool (by simp only[b3f,h7,bS]))
theorem b6T (I:IMap) (vc:Value) (c:List Kind) (hvc:RdS I vc c) (f:Fm) (sf:Value) (hf:FmRd I [ci f.op,ci f.n,sf] f) (v:Value) (l:List Rep) (hv:RdS I v l) :
    FnV Tryz.prog 36 #[.agg #[vc,ci f.op,ci f.n,sf],v] I (.bool (b3f c f l)):=by
 refine enter Tryz.func36 Tryz.call36 rfl Tryz.ntmps36 rfl (fun w0=>?_);refine go 3 ?_;refine a0y _ rfl rfl rfl (fun g2=>?_);refine go 8 ?_;refine a0a (c4V _ vc c hvc f sf hf v l hv) rfl rfl ?_;refine go 4 ?_;refine a0u rfl rfl ?_;exact q_v rfl
theorem b2X (I:IMap) (d k:Int) :
    FnV Tryz.prog 130 #[.int .i64 (d),.int .i64 (k)] I (.agg (a4X d k).cells.toArray):=by
 refine enter Tryz.func130 Tryz.call130 rfl Tryz.ntmps130 rfl (fun w0=>?_);refine go 3 ?_;refine a0h he rfl (fun g4=>?_);refine go 8 ?_;refine a0s rfl (a0z (pl:=[(0,1),(1,1)]) he he rfl rfl) ?_;refine go 1 ?_;refine a0s rfl (a0z (pl:=[(0,2),(2,2),(4,2)]) he he rfl rfl) ?_;refine go 1 ?_;refine a0s rfl (a0z (pl:=[(0,1),(1,1),(2,1),(3,1),(4,1),(5,1),(6,1),(7,1),(8,6)]) he he rfl rfl) ?_;refine go 1 ?_;refine a0p _ he rfl rfl rfl rfl rfl rfl ?_;refine go 3 ?_;refine a0u rfl ⟨_,_,_,rfl,m0,.inr ⟨_,he,rfl,rfl⟩⟩ ?_;exact q_v rfl
theorem c0n (I:IMap) :
    FnI Tryz.prog 72 #[] I (fun u J=>∃vc w,u = .tuple #[.agg #[vc,ci 2,ci 0,.slice none 0 0],w]∧RdS J vc bxC∧RdS J w bxL):=by
 refine enter Tryz.func72 Tryz.call72 rfl Tryz.ntmps72 rfl (fun w0=>?_);refine go 3 ?_;refine a0h he rfl (fun g0=>?_);refine go 11 ?_;refine a0s rfl (a0z (pl:=[(0,1),(1,1),(2,1)]) he he rfl rfl) ?_;refine go 1 ?_;refine a0d he he rfl rfl rfl rfl rfl rfl rfl (fun v5=>?_);refine a0l (l:=bxC) rfl rfl ((.one ⟨_,rfl,RdS.nil'⟩)) (fun I5 j5 R5=>?_)
 have R5s:=R5
 obtain⟨A5,c5,rfl,_⟩:=R5s;refine go 1 ?_;refine a0s rfl (a0z (pl:=[(0,1)]) he he rfl rfl) ?_;refine go 1 ?_;refine a0s rfl (a0z (pl:=[(0,1),(1,1),(2,1)]) he he rfl rfl) ?_;refine go 1 ?_;refine a0s rfl (a0z (pl:=[(0,1),(1,3)]) he he rfl rfl) ?_;refine go 1 ?_;refine a0h he rfl (fun g3=>?_);refine go 1 ?_;refine a0p _ he rfl rfl rfl rfl rfl rfl ?_;refine go 3 ?_;refine a0f ?_;refine a9d (fun hE3 hf3=>?_);refine a1r T.mixed ?_;refine a0g 0 rfl rfl (by kernel_rfl) rfl (.cons _ (.refl _)) rfl (a4k m0 he rfl rfl) ?_;refine a0g 1 rfl rfl (by kernel_rfl) rfl (.cons _ (.refl _)) rfl (a0z (pl:=[(0,1),(1,1),(2,1),(3,1),(4,1),(5,1),(6,1),(7,1),(8,6)]) he he rfl rfl) ?_;refine a0g 4 rfl rfl (by kernel_rfl) rfl (.cons _ (.refl _)) rfl (a0c rfl) ?_;refine a0g 6 rfl rfl (by kernel_rfl) rfl (.cons _ (.refl _)) rfl (a0c rfl) ?_;refine a2P 2 5 (by kernel_rfl) rfl rfl ?_ ?_
 ·refine a0d he he rfl rfl rfl rfl rfl rfl rfl (fun v11=>?_);refine a0l (l:=[a8l]) rfl rfl ((.one rfl)) (fun I11 j11 R11=>?_)
  have R5:=R5.le j11
  try have R17:=R17.le j11
  have R11s:=R11
  obtain⟨A11,c11,rfl,_⟩:=R11s;refine a0v (fun _ m=>m.keepsI (.cons _ (.refl _)) (j11) hE3 hf3) ?_;refine d_t 3 rfl rfl (by kernel_rfl) rfl (fun _ m=>m.keepsI (.cons _ (.refl _)) (j11) hE3 hf3) (y_v rfl (a0z (pl:=[(0,1),(1,1)]) he he rfl rfl)) ?_;refine a0i 5 (by kernel_rfl) rfl ?_;refine a0a (b2X _ 1 10) rfl rfl ?_;refine a0v (fun _ m=>m.keepsI (.cons _ (.refl _)) (j11) hE3 hf3) ?_;refine a0i 7 (by kernel_rfl) rfl ?_;refine a0a (b2X _ 2 20) rfl rfl ?_;refine a0v (fun _ m=>m.keepsI (.cons _ (.refl _)) (j11) hE3 hf3) ?_;refine a2P 8 11 (by kernel_rfl) rfl rfl ?_ ?_
  ·refine a0d he he rfl rfl rfl rfl rfl rfl rfl (fun v17=>?_);refine a0l (l:=[a4X 1 10,a4X 2 20]) rfl rfl (.cons rfl (.one rfl)) (fun I17 j17 R17=>?_)
   have R5:=R5.le j17
   try have R11:=R11.le j17
   have R17s:=R17
   obtain⟨A17,c17,rfl,_⟩:=R17s;refine a0v (fun _ m=>m.keepsI (.cons _ (.refl _)) ((j11).trans j17) hE3 hf3) ?_;refine d_t 9 rfl rfl (by kernel_rfl) rfl (fun _ m=>m.keepsI (.cons _ (.refl _)) ((j11).trans j17) hE3 hf3) (y_v rfl (a0z (pl:=[(0,1),(1,1)]) he he rfl rfl)) ?_;refine a2P 10 11 (by kernel_rfl) rfl rfl ?_ ?_
   ·refine a0d he he rfl rfl rfl rfl rfl rfl rfl (fun v19=>?_);refine a0l (l:=bxL) rfl rfl (.cons ⟨_,rfl,R11⟩ (.one ⟨_,rfl,R17⟩)) (fun I19 j19 R19=>?_)
    have R5:=R5.le j19
    refine a0v (fun _ m=>m.keepsI (.cons _ (.refl _)) (((j11).trans j17).trans j19) hE3 hf3) ?_;refine a0i 11 (by kernel_rfl) rfl ?_;refine a0p _ he rfl rfl rfl rfl rfl rfl ?_;refine a0v (fun _ m=>m.keepsI (.cons _ (.refl _)) (((j11).trans j17).trans j19) hE3 hf3) ?_;refine d_t 12 rfl rfl (by kernel_rfl) rfl (fun _ m=>m.keepsI (.cons _ (.refl _)) (((j11).trans j17).trans j19) hE3 hf3) (y_v rfl (a0P rfl)) ?_;refine a0w (by kernel_rfl) ?_;refine go 2 ?_;refine a2A rfl ⟨_,_,_,rfl,m0,.inr ⟨_,he,rfl,rfl⟩⟩ rfl ?_;exact q_i ⟨_,_,rfl,R5,R19⟩
   ·refine a0p _ he rfl rfl rfl rfl rfl rfl ?_;refine a0v (fun _ m=>m.keepsI (.cons _ (.refl _)) ((j11).trans j17) hE3 hf3) ?_;refine a0i 10 (by kernel_rfl) rfl ?_;refine a0d he he rfl rfl rfl rfl rfl rfl rfl (fun v19=>?_);refine a0l (l:=bxL) rfl rfl (.cons ⟨_,rfl,R11⟩ (.one ⟨_,rfl,R17⟩)) (fun I19 j19 R19=>?_)
    have R5:=R5.le j19
    refine a0v (fun _ m=>m.keepsI (.cons _ (.refl _)) (((j11).trans j17).trans j19) hE3 hf3) ?_;refine d_t 12 rfl rfl (by kernel_rfl) rfl (fun _ m=>m.keepsI (.cons _ (.refl _)) (((j11).trans j17).trans j19) hE3 hf3) (y_v rfl (a0P rfl)) ?_;refine a0w (by kernel_rfl) ?_;refine go 2 ?_;refine a2A rfl ⟨_,_,_,rfl,m0,.inr ⟨_,he,rfl,rfl⟩⟩ rfl ?_;exact q_i ⟨_,_,rfl,R5,R19⟩
  ·refine a0p _ he rfl rfl rfl rfl rfl rfl ?_;refine a0v (fun _ m=>m.keepsI (.cons _ (.refl _)) (j11) hE3 hf3) ?_;refine a0i 8 (by kernel_rfl) rfl ?_;refine a0d he he rfl rfl rfl rfl rfl rfl rfl (fun v17=>?_);refine a0l (l:=[a4X 1 10,a4X 2 20]) rfl rfl (.cons rfl (.one rfl)) (fun I17 j17 R17=>?_)
   have R5:=R5.le j17
   try have R11:=R11.le j17
   have R17s:=R17
   obtain⟨A17,c17,rfl,_⟩:=R17s;refine a0v (fun _ m=>m.keepsI (.cons _ (.refl _)) ((j11).trans j17) hE3 hf3) ?_;refine d_t 9 rfl rfl (by kernel_rfl) rfl (fun _ m=>m.keepsI (.cons _ (.refl _)) ((j11).trans j17) hE3 hf3) (y_v rfl (a0z (pl:=[(0,1),(1,1)]) he he rfl rfl)) ?_;refine a0i 10 (by kernel_rfl) rfl ?_;refine a0d he he rfl rfl rfl rfl rfl rfl rfl (fun v19=>?_);refine a0l (l:=bxL) rfl rfl (.cons ⟨_,rfl,R11⟩ (.one ⟨_,rfl,R17⟩)) (fun I19 j19 R19=>?_)
   have R5:=R5.le j19
   refine a0v (fun _ m=>m.keepsI (.cons _ (.refl _)) (((j11).trans j17).trans j19) hE3 hf3) ?_;refine d_t 12 rfl rfl (by kernel_rfl) rfl (fun _ m=>m.keepsI (.cons _ (.refl _)) (((j11).trans j17).trans j19) hE3 hf3) (y_v rfl (a0P rfl)) ?_;refine a0w (by kernel_rfl) ?_;refine go 2 ?_;refine a2A rfl ⟨_,_,_,rfl,m0,.inr ⟨_,he,rfl,rfl⟩⟩ rfl ?_;exact q_i ⟨_,_,rfl,R5,R19⟩
 ·refine a0a (b2X _ 1 10) rfl rfl ?_;refine a0v (fun _ m=>m.keeps (.cons _ (.refl _))) ?_;refine a2P 2 7 (by kernel_rfl) rfl rfl ?_ ?_
  ·refine a0d he he rfl rfl rfl rfl rfl rfl rfl (fun v11=>?_);refine a0l (l:=[a8l]) rfl rfl ((.one rfl)) (fun I11 j11 R11=>?_)
   have R5:=R5.le j11
   try have R17:=R17.le j11
   have R11s:=R11
   obtain⟨A11,c11,rfl,_⟩:=R11s;refine a0v (fun _ m=>m.keepsI (.cons _ (.refl _)) (j11) hE3 hf3) ?_;refine d_t 3 rfl rfl (by kernel_rfl) rfl (fun _ m=>m.keepsI (.cons _ (.refl _)) (j11) hE3 hf3) (y_v rfl (a0z (pl:=[(0,1),(1,1)]) he he rfl rfl)) ?_;refine a0i 7 (by kernel_rfl) rfl ?_;refine a0a (b2X _ 2 20) rfl rfl ?_;refine a0v (fun _ m=>m.keepsI (.cons _ (.refl _)) (j11) hE3 hf3) ?_;refine a2P 8 11 (by kernel_rfl) rfl rfl ?_ ?_
   ·refine a0d he he rfl rfl rfl rfl rfl rfl rfl (fun v17=>?_);refine a0l (l:=[a4X 1 10,a4X 2 20]) rfl rfl (.cons rfl (.one rfl)) (fun I17 j17 R17=>?_)
    have R5:=R5.le j17
    try have R11:=R11.le j17
    have R17s:=R17
    obtain⟨A17,c17,rfl,_⟩:=R17s;refine a0v (fun _ m=>m.keepsI (.cons _ (.refl _)) ((j11).trans j17) hE3 hf3) ?_;refine d_t 9 rfl rfl (by kernel_rfl) rfl (fun _ m=>m.keepsI (.cons _ (.refl _)) ((j11).trans j17) hE3 hf3) (y_v rfl (a0z (pl:=[(0,1),(1,1)]) he he rfl rfl)) ?_;refine a2P 10 11 (by kernel_rfl) rfl rfl ?_ ?_
    ·refine a0d he he rfl rfl rfl rfl rfl rfl rfl (fun v19=>?_);refine a0l (l:=bxL) rfl rfl (.cons ⟨_,rfl,R11⟩ (.one ⟨_,rfl,R17⟩)) (fun I19 j19 R19=>?_)
     have R5:=R5.le j19
     refine a0v (fun _ m=>m.keepsI (.cons _ (.refl _)) (((j11).trans j17).trans j19) hE3 hf3) ?_;refine a0i 11 (by kernel_rfl) rfl ?_;refine a0p _ he rfl rfl rfl rfl rfl rfl ?_;refine a0v (fun _ m=>m.keepsI (.cons _ (.refl _)) (((j11).trans j17).trans j19) hE3 hf3) ?_;refine d_t 12 rfl rfl (by kernel_rfl) rfl (fun _ m=>m.keepsI (.cons _ (.refl _)) (((j11).trans j17).trans j19) hE3 hf3) (y_v rfl (a0P rfl)) ?_;refine a0w (by kernel_rfl) ?_;refine go 2 ?_;refine a2A rfl ⟨_,_,_,rfl,m0,.inr ⟨_,he,rfl,rfl⟩⟩ rfl ?_;exact q_i ⟨_,_,rfl,R5,R19⟩
    ·refine a0p _ he rfl rfl rfl rfl rfl rfl ?_;refine a0v (fun _ m=>m.keepsI (.cons _ (.refl _)) ((j11).trans j17) hE3 hf3) ?_;refine a0i 10 (by kernel_rfl) rfl ?_;refine a0d he he rfl rfl rfl rfl rfl rfl rfl (fun v19=>?_);refine a0l (l:=bxL) rfl rfl (.cons ⟨_,rfl,R11⟩ (.one ⟨_,rfl,R17⟩)) (fun I19 j19 R19=>?_)
     have R5:=R5.le j19
     refine a0v (fun _ m=>m.keepsI (.cons _ (.refl _)) (((j11).trans j17).trans j19) hE3 hf3) ?_;refine d_t 12 rfl rfl (by kernel_rfl) rfl (fun _ m=>m.keepsI (.cons _ (.refl _)) (((j11).trans j17).trans j19) hE3 hf3) (y_v rfl (a0P rfl)) ?_;refine a0w (by kernel_rfl) ?_;refine go 2 ?_;refine a2A rfl ⟨_,_,_,rfl,m0,.inr ⟨_,he,rfl,rfl⟩⟩ rfl ?_;exact q_i ⟨_,_,rfl,R5,R19⟩
   ·refine a0p _ he rfl rfl rfl rfl rfl rfl ?_;refine a0v (fun _ m=>m.keepsI (.cons _ (.refl _)) (j11) hE3 hf3) ?_;refine a0i 8 (by kernel_rfl) rfl ?_;refine a0d he he rfl rfl rfl rfl rfl rfl rfl (fun v17=>?_);refine a0l (l:=[a4X 1 10,a4X 2 20]) rfl rfl (.cons rfl (.one rfl)) (fun I17 j17 R17=>?_)
    have R5:=R5.le j17
    try have R11:=R11.le j17
    have R17s:=R17
    obtain⟨A17,c17,rfl,_⟩:=R17s;refine a0v (fun _ m=>m.keepsI (.cons _ (.refl _)) ((j11).trans j17) hE3 hf3) ?_;refine d_t 9 rfl rfl (by kernel_rfl) rfl (fun _ m=>m.keepsI (.cons _ (.refl _)) ((j11).trans j17) hE3 hf3) (y_v rfl (a0z (pl:=[(0,1),(1,1)]) he he rfl rfl)) ?_;refine a0i 10 (by kernel_rfl) rfl ?_;refine a0d he he rfl rfl rfl rfl rfl rfl rfl (fun v19=>?_);refine a0l (l:=bxL) rfl rfl (.cons ⟨_,rfl,R11⟩ (.one ⟨_,rfl,R17⟩)) (fun I19 j19 R19=>?_)
    have R5:=R5.le j19
    refine a0v (fun _ m=>m.keepsI (.cons _ (.refl _)) (((j11).trans j17).trans j19) hE3 hf3) ?_;refine d_t 12 rfl rfl (by kernel_rfl) rfl (fun _ m=>m.keepsI (.cons _ (.refl _)) (((j11).trans j17).trans j19) hE3 hf3) (y_v rfl (a0P rfl)) ?_;refine a0w (by kernel_rfl) ?_;refine go 2 ?_;refine a2A rfl ⟨_,_,_,rfl,m0,.inr ⟨_,he,rfl,rfl⟩⟩ rfl ?_;exact q_i ⟨_,_,rfl,R5,R19⟩
  ·refine a0a (b2X _ 2 20) rfl rfl ?_;refine a0v (fun _ m=>m.keeps (.cons _ (.refl _))) ?_;refine b4S 2 8 11 (by kernel_rfl) rfl rfl rfl ?_ ?_ ?_
   ·refine a0d he he rfl rfl rfl rfl rfl rfl rfl (fun v11=>?_);refine a0l (l:=[a8l]) rfl rfl ((.one rfl)) (fun I11 j11 R11=>?_)
    have R5:=R5.le j11
    try have R17:=R17.le j11
    have R11s:=R11
    obtain⟨A11,c11,rfl,_⟩:=R11s;refine a0v (fun _ m=>m.keepsI (.cons _ (.refl _)) (j11) hE3 hf3) ?_;refine d_t 3 rfl rfl (by kernel_rfl) rfl (fun _ m=>m.keepsI (.cons _ (.refl _)) (j11) hE3 hf3) (y_v rfl (a0z (pl:=[(0,1),(1,1)]) he he rfl rfl)) ?_;refine a2P 8 11 (by kernel_rfl) rfl rfl ?_ ?_
    ·refine a0d he he rfl rfl rfl rfl rfl rfl rfl (fun v17=>?_);refine a0l (l:=[a4X 1 10,a4X 2 20]) rfl rfl (.cons rfl (.one rfl)) (fun I17 j17 R17=>?_)
     have R5:=R5.le j17
     try have R11:=R11.le j17
     have R17s:=R17
     obtain⟨A17,c17,rfl,_⟩:=R17s;refine a0v (fun _ m=>m.keepsI (.cons _ (.refl _)) ((j11).trans j17) hE3 hf3) ?_;refine d_t 9 rfl rfl (by kernel_rfl) rfl (fun _ m=>m.keepsI (.cons _ (.refl _)) ((j11).trans j17) hE3 hf3) (y_v rfl (a0z (pl:=[(0,1),(1,1)]) he he rfl rfl)) ?_;refine a2P 10 11 (by kernel_rfl) rfl rfl ?_ ?_
     ·refine a0d he he rfl rfl rfl rfl rfl rfl rfl (fun v19=>?_);refine a0l (l:=bxL) rfl rfl (.cons ⟨_,rfl,R11⟩ (.one ⟨_,rfl,R17⟩)) (fun I19 j19 R19=>?_)
      have R5:=R5.le j19
      refine a0v (fun _ m=>m.keepsI (.cons _ (.refl _)) (((j11).trans j17).trans j19) hE3 hf3) ?_;refine a0i 11 (by kernel_rfl) rfl ?_;refine a0p _ he rfl rfl rfl rfl rfl rfl ?_;refine a0v (fun _ m=>m.keepsI (.cons _ (.refl _)) (((j11).trans j17).trans j19) hE3 hf3) ?_;refine d_t 12 rfl rfl (by kernel_rfl) rfl (fun _ m=>m.keepsI (.cons _ (.refl _)) (((j11).trans j17).trans j19) hE3 hf3) (y_v rfl (a0P rfl)) ?_;refine a0w (by kernel_rfl) ?_;refine go 2 ?_;refine a2A rfl ⟨_,_,_,rfl,m0,.inr ⟨_,he,rfl,rfl⟩⟩ rfl ?_;exact q_i ⟨_,_,rfl,R5,R19⟩
     ·refine a0p _ he rfl rfl rfl rfl rfl rfl ?_;refine a0v (fun _ m=>m.keepsI (.cons _ (.refl _)) ((j11).trans j17) hE3 hf3) ?_;refine a0i 10 (by kernel_rfl) rfl ?_;refine a0d he he rfl rfl rfl rfl rfl rfl rfl (fun v19=>?_);refine a0l (l:=bxL) rfl rfl (.cons ⟨_,rfl,R11⟩ (.one ⟨_,rfl,R17⟩)) (fun I19 j19 R19=>?_)
      have R5:=R5.le j19
      refine a0v (fun _ m=>m.keepsI (.cons _ (.refl _)) (((j11).trans j17).trans j19) hE3 hf3) ?_;refine d_t 12 rfl rfl (by kernel_rfl) rfl (fun _ m=>m.keepsI (.cons _ (.refl _)) (((j11).trans j17).trans j19) hE3 hf3) (y_v rfl (a0P rfl)) ?_;refine a0w (by kernel_rfl) ?_;refine go 2 ?_;refine a2A rfl ⟨_,_,_,rfl,m0,.inr ⟨_,he,rfl,rfl⟩⟩ rfl ?_;exact q_i ⟨_,_,rfl,R5,R19⟩
    ·refine a0p _ he rfl rfl rfl rfl rfl rfl ?_;refine a0v (fun _ m=>m.keepsI (.cons _ (.refl _)) (j11) hE3 hf3) ?_;refine a0i 8 (by kernel_rfl) rfl ?_;refine a0d he he rfl rfl rfl rfl rfl rfl rfl (fun v17=>?_);refine a0l (l:=[a4X 1 10,a4X 2 20]) rfl rfl (.cons rfl (.one rfl)) (fun I17 j17 R17=>?_)
     have R5:=R5.le j17
     try have R11:=R11.le j17
     have R17s:=R17
     obtain⟨A17,c17,rfl,_⟩:=R17s;refine a0v (fun _ m=>m.keepsI (.cons _ (.refl _)) ((j11).trans j17) hE3 hf3) ?_;refine d_t 9 rfl rfl (by kernel_rfl) rfl (fun _ m=>m.keepsI (.cons _ (.refl _)) ((j11).trans j17) hE3 hf3) (y_v rfl (a0z (pl:=[(0,1),(1,1)]) he he rfl rfl)) ?_;refine a0i 10 (by kernel_rfl) rfl ?_;refine a0d he he rfl rfl rfl rfl rfl rfl rfl (fun v19=>?_);refine a0l (l:=bxL) rfl rfl (.cons ⟨_,rfl,R11⟩ (.one ⟨_,rfl,R17⟩)) (fun I19 j19 R19=>?_)
     have R5:=R5.le j19
     refine a0v (fun _ m=>m.keepsI (.cons _ (.refl _)) (((j11).trans j17).trans j19) hE3 hf3) ?_;refine d_t 12 rfl rfl (by kernel_rfl) rfl (fun _ m=>m.keepsI (.cons _ (.refl _)) (((j11).trans j17).trans j19) hE3 hf3) (y_v rfl (a0P rfl)) ?_;refine a0w (by kernel_rfl) ?_;refine go 2 ?_;refine a2A rfl ⟨_,_,_,rfl,m0,.inr ⟨_,he,rfl,rfl⟩⟩ rfl ?_;exact q_i ⟨_,_,rfl,R5,R19⟩
   ·refine a0d he he rfl rfl rfl rfl rfl rfl rfl (fun v17=>?_);refine a0l (l:=[a4X 1 10,a4X 2 20]) rfl rfl (.cons rfl (.one rfl)) (fun I17 j17 R17=>?_)
    have R5:=R5.le j17
    try have R11:=R11.le j17
    have R17s:=R17
    obtain⟨A17,c17,rfl,_⟩:=R17s;refine a0v (fun _ m=>m.keepsI (.cons _ (.refl _)) (j17) hE3 hf3) ?_;refine d_t 9 rfl rfl (by kernel_rfl) rfl (fun _ m=>m.keepsI (.cons _ (.refl _)) (j17) hE3 hf3) (y_v rfl (a0z (pl:=[(0,1),(1,1)]) he he rfl rfl)) ?_;refine a2P 2 11 (by kernel_rfl) rfl rfl ?_ ?_
    ·refine a0d he he rfl rfl rfl rfl rfl rfl rfl (fun v11=>?_);refine a0l (l:=[a8l]) rfl rfl ((.one rfl)) (fun I11 j11 R11=>?_)
     have R5:=R5.le j11
     try have R17:=R17.le j11
     have R11s:=R11
     obtain⟨A11,c11,rfl,_⟩:=R11s;refine a0v (fun _ m=>m.keepsI (.cons _ (.refl _)) ((j17).trans j11) hE3 hf3) ?_;refine d_t 3 rfl rfl (by kernel_rfl) rfl (fun _ m=>m.keepsI (.cons _ (.refl _)) ((j17).trans j11) hE3 hf3) (y_v rfl (a0z (pl:=[(0,1),(1,1)]) he he rfl rfl)) ?_;refine a2P 10 11 (by kernel_rfl) rfl rfl ?_ ?_
     ·refine a0d he he rfl rfl rfl rfl rfl rfl rfl (fun v19=>?_);refine a0l (l:=bxL) rfl rfl (.cons ⟨_,rfl,R11⟩ (.one ⟨_,rfl,R17⟩)) (fun I19 j19 R19=>?_)
      have R5:=R5.le j19
      refine a0v (fun _ m=>m.keepsI (.cons _ (.refl _)) (((j17).trans j11).trans j19) hE3 hf3) ?_;refine a0i 11 (by kernel_rfl) rfl ?_;refine a0p _ he rfl rfl rfl rfl rfl rfl ?_;refine a0v (fun _ m=>m.keepsI (.cons _ (.refl _)) (((j17).trans j11).trans j19) hE3 hf3) ?_;refine d_t 12 rfl rfl (by kernel_rfl) rfl (fun _ m=>m.keepsI (.cons _ (.refl _)) (((j17).trans j11).trans j19) hE3 hf3) (y_v rfl (a0P rfl)) ?_;refine a0w (by kernel_rfl) ?_;refine go 2 ?_;refine a2A rfl ⟨_,_,_,rfl,m0,.inr ⟨_,he,rfl,rfl⟩⟩ rfl ?_;exact q_i ⟨_,_,rfl,R5,R19⟩
     ·refine a0p _ he rfl rfl rfl rfl rfl rfl ?_;refine a0v (fun _ m=>m.keepsI (.cons _ (.refl _)) ((j17).trans j11) hE3 hf3) ?_;refine a0i 10 (by kernel_rfl) rfl ?_;refine a0d he he rfl rfl rfl rfl rfl rfl rfl (fun v19=>?_);refine a0l (l:=bxL) rfl rfl (.cons ⟨_,rfl,R11⟩ (.one ⟨_,rfl,R17⟩)) (fun I19 j19 R19=>?_)
      have R5:=R5.le j19
      refine a0v (fun _ m=>m.keepsI (.cons _ (.refl _)) (((j17).trans j11).trans j19) hE3 hf3) ?_;refine d_t 12 rfl rfl (by kernel_rfl) rfl (fun _ m=>m.keepsI (.cons _ (.refl _)) (((j17).trans j11).trans j19) hE3 hf3) (y_v rfl (a0P rfl)) ?_;refine a0w (by kernel_rfl) ?_;refine go 2 ?_;refine a2A rfl ⟨_,_,_,rfl,m0,.inr ⟨_,he,rfl,rfl⟩⟩ rfl ?_;exact q_i ⟨_,_,rfl,R5,R19⟩
    ·refine a0p _ he rfl rfl rfl rfl rfl rfl ?_;refine a0v (fun _ m=>m.keepsI (.cons _ (.refl _)) (j17) hE3 hf3) ?_;refine a0i 2 (by kernel_rfl) rfl ?_;refine a0d he he rfl rfl rfl rfl rfl rfl rfl (fun v11=>?_);refine a0l (l:=[a8l]) rfl rfl ((.one rfl)) (fun I11 j11 R11=>?_)
     have R5:=R5.le j11
     try have R17:=R17.le j11
     have R11s:=R11
     obtain⟨A11,c11,rfl,_⟩:=R11s;refine a0v (fun _ m=>m.keepsI (.cons _ (.refl _)) ((j17).trans j11) hE3 hf3) ?_;refine d_t 3 rfl rfl (by kernel_rfl) rfl (fun _ m=>m.keepsI (.cons _ (.refl _)) ((j17).trans j11) hE3 hf3) (y_v rfl (a0z (pl:=[(0,1),(1,1)]) he he rfl rfl)) ?_;refine a0i 10 (by kernel_rfl) rfl ?_;refine a0d he he rfl rfl rfl rfl rfl rfl rfl (fun v19=>?_);refine a0l (l:=bxL) rfl rfl (.cons ⟨_,rfl,R11⟩ (.one ⟨_,rfl,R17⟩)) (fun I19 j19 R19=>?_)
     have R5:=R5.le j19
     refine a0v (fun _ m=>m.keepsI (.cons _ (.refl _)) (((j17).trans j11).trans j19) hE3 hf3) ?_;refine d_t 12 rfl rfl (by kernel_rfl) rfl (fun _ m=>m.keepsI (.cons _ (.refl _)) (((j17).trans j11).trans j19) hE3 hf3) (y_v rfl (a0P rfl)) ?_;refine a0w (by kernel_rfl) ?_;refine go 2 ?_;refine a2A rfl ⟨_,_,_,rfl,m0,.inr ⟨_,he,rfl,rfl⟩⟩ rfl ?_;exact q_i ⟨_,_,rfl,R5,R19⟩
   ·refine a0p _ he rfl rfl rfl rfl rfl rfl ?_;refine a0v (fun _ m=>m.keeps (.cons _ (.refl _))) ?_;refine a2P 2 8 (by kernel_rfl) rfl rfl ?_ ?_
    ·refine a0d he he rfl rfl rfl rfl rfl rfl rfl (fun v11=>?_);refine a0l (l:=[a8l]) rfl rfl ((.one rfl)) (fun I11 j11 R11=>?_)
     have R5:=R5.le j11
     try have R17:=R17.le j11
     have R11s:=R11
     obtain⟨A11,c11,rfl,_⟩:=R11s;refine a0v (fun _ m=>m.keepsI (.cons _ (.refl _)) (j11) hE3 hf3) ?_;refine d_t 3 rfl rfl (by kernel_rfl) rfl (fun _ m=>m.keepsI (.cons _ (.refl _)) (j11) hE3 hf3) (y_v rfl (a0z (pl:=[(0,1),(1,1)]) he he rfl rfl)) ?_;refine a0i 8 (by kernel_rfl) rfl ?_;refine a0d he he rfl rfl rfl rfl rfl rfl rfl (fun v17=>?_);refine a0l (l:=[a4X 1 10,a4X 2 20]) rfl rfl (.cons rfl (.one rfl)) (fun I17 j17 R17=>?_)
     have R5:=R5.le j17
     try have R11:=R11.le j17
     have R17s:=R17
     obtain⟨A17,c17,rfl,_⟩:=R17s;refine a0v (fun _ m=>m.keepsI (.cons _ (.refl _)) ((j11).trans j17) hE3 hf3) ?_;refine d_t 9 rfl rfl (by kernel_rfl) rfl (fun _ m=>m.keepsI (.cons _ (.refl _)) ((j11).trans j17) hE3 hf3) (y_v rfl (a0z (pl:=[(0,1),(1,1)]) he he rfl rfl)) ?_;refine a0i 10 (by kernel_rfl) rfl ?_;refine a0d he he rfl rfl rfl rfl rfl rfl rfl (fun v19=>?_);refine a0l (l:=bxL) rfl rfl (.cons ⟨_,rfl,R11⟩ (.one ⟨_,rfl,R17⟩)) (fun I19 j19 R19=>?_)
     have R5:=R5.le j19
     refine a0v (fun _ m=>m.keepsI (.cons _ (.refl _)) (((j11).trans j17).trans j19) hE3 hf3) ?_;refine d_t 12 rfl rfl (by kernel_rfl) rfl (fun _ m=>m.keepsI (.cons _ (.refl _)) (((j11).trans j17).trans j19) hE3 hf3) (y_v rfl (a0P rfl)) ?_;refine a0w (by kernel_rfl) ?_;refine go 2 ?_;refine a2A rfl ⟨_,_,_,rfl,m0,.inr ⟨_,he,rfl,rfl⟩⟩ rfl ?_;exact q_i ⟨_,_,rfl,R5,R19⟩
    ·refine a0d he he rfl rfl rfl rfl rfl rfl rfl (fun v17=>?_);refine a0l (l:=[a4X 1 10,a4X 2 20]) rfl rfl (.cons rfl (.one rfl)) (fun I17 j17 R17=>?_)
     have R5:=R5.le j17
     try have R11:=R11.le j17
     have R17s:=R17
     obtain⟨A17,c17,rfl,_⟩:=R17s;refine a0v (fun _ m=>m.keepsI (.cons _ (.refl _)) (j17) hE3 hf3) ?_;refine d_t 9 rfl rfl (by kernel_rfl) rfl (fun _ m=>m.keepsI (.cons _ (.refl _)) (j17) hE3 hf3) (y_v rfl (a0z (pl:=[(0,1),(1,1)]) he he rfl rfl)) ?_;refine a0i 2 (by kernel_rfl) rfl ?_;refine a0d he he rfl rfl rfl rfl rfl rfl rfl (fun v11=>?_);refine a0l (l:=[a8l]) rfl rfl ((.one rfl)) (fun I11 j11 R11=>?_)
     have R5:=R5.le j11
     try have R17:=R17.le j11
     have R11s:=R11
     obtain⟨A11,c11,rfl,_⟩:=R11s;refine a0v (fun _ m=>m.keepsI (.cons _ (.refl _)) ((j17).trans j11) hE3 hf3) ?_;refine d_t 3 rfl rfl (by kernel_rfl) rfl (fun _ m=>m.keepsI (.cons _ (.refl _)) ((j17).trans j11) hE3 hf3) (y_v rfl (a0z (pl:=[(0,1),(1,1)]) he he rfl rfl)) ?_;refine a0i 10 (by kernel_rfl) rfl ?_;refine a0d he he rfl rfl rfl rfl rfl rfl rfl (fun v19=>?_);refine a0l (l:=bxL) rfl rfl (.cons ⟨_,rfl,R11⟩ (.one ⟨_,rfl,R17⟩)) (fun I19 j19 R19=>?_)
     have R5:=R5.le j19
     refine a0v (fun _ m=>m.keepsI (.cons _ (.refl _)) (((j17).trans j11).trans j19) hE3 hf3) ?_;refine d_t 12 rfl rfl (by kernel_rfl) rfl (fun _ m=>m.keepsI (.cons _ (.refl _)) (((j17).trans j11).trans j19) hE3 hf3) (y_v rfl (a0P rfl)) ?_;refine a0w (by kernel_rfl) ?_;refine go 2 ?_;refine a2A rfl ⟨_,_,_,rfl,m0,.inr ⟨_,he,rfl,rfl⟩⟩ rfl ?_;exact q_i ⟨_,_,rfl,R5,R19⟩
theorem c6c (I:IMap) :
    FnV Tryz.prog 35 #[] I (.bool true):=by
 refine enter Tryz.func35 Tryz.call35 rfl Tryz.ntmps35 rfl (fun w0=>?_);obtain⟨R,hR⟩:=a9a bxL;obtain⟨ho1,ho2⟩:=c6O hR;refine go 8 ?_;refine a1e (c0n _) rfl rfl (fun v15 I15 j15 q15=>?_);obtain⟨vc,w,rfl,hvc,hv⟩:=q15
 have hf:FmRd I15 [ci bxF.op,ci bxF.n,.slice none 0 0] bxF:=c9X
 refine go 4 ?_;refine a0h he rfl (fun g1=>?_);refine go 1 ?_;refine a0p _ he rfl rfl rfl rfl rfl (by simp[hvc.one];exact⟨rfl,rfl,rfl⟩) ?_;refine go 8 ?_;refine a1e (a9m _ vc bxC hvc b2Y bxF _ hf _ bxL hv (by decide) b9O R hR nV1 sKm 0) rfl rfl (fun v21 I21 j21 q21=>?_)
 try have hvc:=hvc.le j21
 try have hv:=hv.le j21
 try have hf:=hf.le j21
 obtain rfl:=q21;rw[ho1,d2u];refine go 4 ?_;refine a0h he rfl (fun g3=>?_);refine go 1 ?_;refine a0p _ he rfl rfl rfl rfl rfl rfl ?_;refine go 8 ?_;refine a1e (a9m _ vc bxC hvc b2Y bxF _ hf _ bxL hv (by decide) b9O R hR nV1 sKm 1) rfl rfl (fun v27 I27 j27 q27=>?_)
 try have hvc:=hvc.le j27
 try have hv:=hv.le j27
 try have hf:=hf.le j27
 obtain rfl:=q27;rw[ho1,d2v];refine go 4 ?_;refine a0h he rfl (fun g5=>?_);refine go 1 ?_;refine a0p _ he rfl rfl rfl rfl rfl rfl ?_;refine go 8 ?_;refine a1e (a6U _ vc bxC hvc b2Y bxF _ hf _ bxL hv (by decide) b9O R hR nV1 2) rfl rfl (fun v33 I33 j33 q33=>?_)
 try have hvc:=hvc.le j33
 try have hv:=hv.le j33
 try have hf:=hf.le j33
 obtain rfl:=q33;rw[ho1,c6R];refine go 4 ?_;refine a0h he rfl (fun g7=>?_);refine go 1 ?_;refine a0p _ he rfl rfl rfl rfl rfl rfl ?_;refine go 8 ?_;refine a1e (a6U _ vc bxC hvc b2Y bxF _ hf _ bxL hv (by decide) b9O R hR nV2 2) rfl rfl (fun v39 I39 j39 q39=>?_)
 try have hvc:=hvc.le j39
 try have hv:=hv.le j39
 try have hf:=hf.le j39
 obtain rfl:=q39;rw[ho2,c6S];obtain⟨z39,hz39⟩:∃q,q=(bndLife bxF bxC bxL [] nV2 2).1:=⟨_,rfl⟩;rw[←hz39];refine go 4 ?_;refine a0h he rfl (fun g9=>?_);refine go 1 ?_;refine a0p _ he rfl rfl rfl rfl rfl rfl ?_;refine go 8 ?_;refine a1e (a9m _ vc bxC hvc b2Y bxF _ hf _ bxL hv (by decide) b9O R hR nV1 c6o 2) rfl rfl (fun v45 I45 j45 q45=>?_)
 try have hvc:=hvc.le j45
 try have hv:=hv.le j45
 try have hf:=hf.le j45
 obtain rfl:=q45;rw[c3q];refine go 4 ?_;refine a0h he rfl (fun g11=>?_);refine go 1 ?_;refine a0p _ he rfl rfl rfl rfl rfl rfl ?_;refine go 6 ?_;refine o_v rfl (OV.cast (u:=.bool true) (b5W rfl rfl) (congrArg Value.bool (decide_eq_true (rfl)))) ?_;refine go 3 ?_;refine a0E rfl rfl rfl (a0s rfl (a0z (pl:=[(0,1),(1,1)]) he he rfl rfl) ?_);refine a0H (a0E rfl rfl rfl (a0s rfl (OV.cast (u:=.bool true) (a6g T.eqg_44 (b1V (⟨0,0⟩:Ivl) ⟨0,0⟩) rfl rfl) (congrArg Value.bool (decide_eq_true (rfl)))) ?_));refine go 3 ?_;refine a0H (a0E rfl rfl rfl (a0s rfl (OV.cast (u:=.bool true) (b5W rfl rfl) (congrArg Value.bool (decide_eq_true (rfl)))) ?_));refine go 4 ?_;refine a0E rfl rfl rfl (a0s rfl (a0z (pl:=[(0,1),(1,1)]) he he rfl rfl) ?_);refine a0H (a0E rfl rfl rfl (a0s rfl (OV.cast (u:=.bool true) (a6g T.eqg_44 (b1V (⟨0,10⟩:Ivl) ⟨0,10⟩) rfl rfl) (congrArg Value.bool (decide_eq_true (rfl)))) ?_));refine go 3 ?_;refine a0H (a0E rfl rfl rfl (a0s rfl (OV.cast (u:=.bool true) (b5W rfl rfl) (congrArg Value.bool (decide_eq_true (rfl)))) ?_));refine go 3 ?_;refine a0H (a0E rfl rfl rfl (a0s rfl (a1W ((⟨10,20⟩:Ivl).cells) m2 he rfl rfl rfl) ?_));refine go 1 ?_;refine a0E rfl rfl rfl (a0s rfl (a0z (pl:=[(0,1),(1,1)]) he he rfl rfl) ?_);refine a0H (a0E rfl rfl rfl (a0s rfl (OV.cast (u:=.bool true) (a6g T.eqg_44 (b1V (⟨10,20⟩:Ivl) ⟨10,20⟩) rfl rfl) (congrArg Value.bool (decide_eq_true (rfl)))) ?_));refine go 9 ?_;refine a0H (a0E rfl rfl rfl (a0s rfl (a1W ((⟨10,20⟩:Ivl).cells) m2 he rfl rfl rfl) ?_));refine go 1 ?_;refine a0H (a0E rfl rfl rfl (a0s rfl (a1W ((⟨10,20⟩:Ivl).cells) m2 he rfl rfl rfl) ?_));refine a0H (a0E rfl rfl rfl (a0s rfl (OV.cast (u:=.bool true) (a6g T.eqg_44 (b1V (⟨10,20⟩:Ivl) ⟨10,20⟩) rfl rfl) (congrArg Value.bool (decide_eq_true (rfl)))) ?_));refine go 3 ?_;refine a0H (a0E rfl rfl rfl (a0s rfl (OV.cast (u:=.bool true) (b5W rfl rfl) (congrArg Value.bool (decide_eq_true (rfl)))) ?_));refine go 3 ?_;refine a0H (a0E rfl rfl rfl (a0s rfl (OV.cast (u:=.bool true) (b5W rfl rfl) (congrArg Value.bool (decide_eq_true (rfl)))) ?_));refine go 5 ?_;refine a0u rfl rfl ?_;exact a8X rfl
end Go.Proofs.YtdapmfkbpnjkmaaGreat
set_option linter.all false
namespace Go.Sx
open Go
def b4B (a b:Ivl):Bool:=decide (b.low≤a.low)&&decide (a.high≤b.high)
def c2Z (a b:Life):Bool:=(b4B a.km b.km&&b4B a.cycles b.cycles)&&b4B a.damage b.damage
noncomputable def livG (f:Fm) (c:List Kind) (own:List Rep) (p:ByteArray) (day:Int) (t:List Int):Life:=daL (lifeG f c own p day t)
section
variable {f:Fm} {c:List Kind} {l own:List Rep} {p:ByteArray} {day:Int} {S:Life×Int} {W:List Life}
theorem c8e (h:a8G c l own=0) {x:Life} (hx:x∈(a1Z c own 64).1.map (livG f c own p day)):∃o∈lifeA f c own p day,x=daL o:=by
 obtain⟨_,_,_,h0,h1,h2⟩:=a6V h;obtain⟨t,ht,rfl⟩:=List.mem_map.1 hx;refine⟨_,List.mem_map.2 ⟨t,?_,rfl⟩,rfl⟩
 have h3:=(a9j (c:=c) (l:=own) (most:=4096) (by omega) (by omega) h0)
 by_cases h4:(a1Z c own 64).2=0
 ·obtain⟨_,_,h5⟩:=a9j (c:=c) (l:=own) (most:=64) (by omega) (by omega) h4;rw[h5]at ht
  rw[h1];exact List.mem_of_mem_take ht
 ·rw[b0I h4]at ht;cases ht
theorem c8d (h:a8G c l own=0):0<((a1Z c own 64).1.map (livG f c own p day)).length∧(((a1Z c own 64).1.map (livG f c own p day)).length≠64→(a1Z c own 64).1.map (livG f c own p day)=(lifeA f c own p day).map daL):=by
 obtain⟨hc,hv,_,h0,h1,h2⟩:=a6V h;obtain⟨e1,_,h3⟩:=a9j (c:=c) (l:=own) (most:=4096) (by omega) (by omega) h0
 have e:(a1Z c own 64).1=(a1F c own).take 64:=by
  rw[b6e (by omega) (by omega) e1]
  have hn:(a1F c own).take (Int.toNat 64)≠[]:=by
   intro e
   have:=congrArg List.length e
   rw[List.length_take,List.length_nil]at this
   have:=List.length_pos_iff.2 h2
   have h6:Int.toNat 64=64:=rfl
   omega
  rw[if_neg hn];rfl
 have hp:=List.length_pos_iff.2 h2
 rw[List.length_map,e,List.length_take];refine⟨by omega,fun h4=>?_⟩;rw[List.take_of_length_le (by omega),lifeA,h1,List.map_map];rfl
theorem c0L (h:(bndLife f c l own p day).2≠0):(bndLife f c l own p day).1=⟨a4l,a4l,a4l⟩:=by
 have h1:(bndF kmO f c l own p day).2≠0:=h
 unfold bndLife;rw[b1O h1,b1O (g:=cyO) (by rw[a4R (g':=kmO)];exact h1),b1O (g:=daO) (by rw[a4R (g':=kmO)];exact h1)]
def a4P (S:Life):Nat→Life→Bool
 |0,x=>decide (x.km.low=S.km.low)
 |1,x=>decide (x.cycles.low=S.cycles.low)
 |2,x=>decide (x.damage.low=S.damage.low)
 |3,x=>decide (x.km.high=S.km.high)
 |4,x=>decide (x.cycles.high=S.cycles.high)
 |_,x=>decide (x.damage.high=S.damage.high)
theorem a3q {k i:Nat} {s:Life} (hi:i<W.length):(W.take (i+1)).any (a4P s k)=((W.take i).any (a4P s k)||a4P s k W[i]):=by
 rw[←a0o hi,List.any_append];simp
theorem c0M (hS:S=bndLife f c l own p day) (hW:W=(a1Z c own 64).1.map (livG f c own p day)) (h0:S.2=0):(∀i (h:i<W.length),c2Z W[i] S.1=true)∧0<W.length∧(W.length≠64→∀k,W.any (a4P S.1 k)=true):=by
 subst hS hW
 have hk:(bndF kmO f c l own p day).2=0:=h0
 have hc:(bndF cyO f c l own p day).2=0:=by rw[a4R (g':=kmO)];exact hk
 have hd:(bndF daO f c l own p day).2=0:=by rw[a4R (g':=kmO)];exact hk
 obtain⟨hE,_,_⟩:=a5x hk;obtain⟨hf,_,hC⟩:=a5i hE;obtain⟨o1,o2,o3⟩:=d0I (p:=p) (day:=day) hf hC;obtain⟨a1,⟨x1,m1,e1⟩,⟨y1,n1,f1⟩⟩:=a9o o1 hk;obtain⟨a2,⟨x2,m2,e2⟩,⟨y2,n2,f2⟩⟩:=a9o o2 hc;obtain⟨a3,⟨x3,m3,e3⟩,⟨y3,n3,f3⟩⟩:=a9o o3 hd;obtain⟨h1,h2⟩:=c8d (f:=f) (p:=p) (day:=day) hC;refine⟨fun i hi=>?_,h1,fun hne k=>?_⟩
 ·obtain⟨o,ho,e⟩:=c8e hC (List.getElem_mem hi);rw[e]
  simp only[c2Z,b4B,Bool.and_eq_true,decide_eq_true_eq]
  exact⟨⟨⟨(a1 o ho).1,(a1 o ho).2⟩,⟨(a2 o ho).1,(a2 o ho).2⟩⟩,⟨(a3 o ho).1,(a3 o ho).2⟩⟩
 ·rw[h2 hne,List.any_eq_true]
  match k with
  |0=>exact⟨_,List.mem_map.2 ⟨x1,m1,rfl⟩,decide_eq_true e1⟩
  |1=>exact⟨_,List.mem_map.2 ⟨x2,m2,rfl⟩,decide_eq_true e2⟩
  |2=>exact⟨_,List.mem_map.2 ⟨x3,m3,rfl⟩,decide_eq_true e3⟩
  |3=>exact⟨_,List.mem_map.2 ⟨y1,n1,rfl⟩,decide_eq_true f1⟩
  |4=>exact⟨_,List.mem_map.2 ⟨y2,n2,rfl⟩,decide_eq_true f2⟩
  |n+5=>exact⟨_,List.mem_map.2 ⟨y3,n3,rfl⟩,decide_eq_true f3⟩
end
theorem b4V {f:Fm} {c:List Kind} {l:List Rep} {R R':Nat→Nat} {p:ByteArray} {day:Int} {k n:Nat} {S S':Life×Int} (hl:l.length≤12) (hw:a4O l≤729) (hk:k<(a0I l R p).length) (hn:n<(a0I l R p)[k].options.length)
  (hR':Rts ((a0I l R p).set k (a1B (a0I l R p)[k] n)) R') (hS:S=bndLife f c l (a0I l R p) p day) (hS':S'=bndLife f c ((a0I l R p).set k (a1B (a0I l R p)[k] n)) (a0I ((a0I l R p).set k (a1B (a0I l R p)[k] n)) R' p) p day)
  (h0:S.2=0) (hF:(a5G c ((a0I l R p).set k (a1B (a0I l R p)[k] n))).2=0):(S'.2=0→c2Z S'.1 S.1=true)∧(¬S'.2=0→S'.2=2):=by
 subst hS hS'
 have hkm:(bndF kmO f c l (a0I l R p) p day).2=0:=h0
 have hcy:(bndF cyO f c l (a0I l R p) p day).2=0:=by rw[a4R (g':=kmO)];exact hkm
 have hda:(bndF daO f c l (a0I l R p) p day).2=0:=by rw[a4R (g':=kmO)];exact hkm
 obtain⟨hE,_,_⟩:=a5x hkm;obtain⟨hf,_,hC⟩:=a5i hE;obtain⟨o1,o2,o3⟩:=d0I (p:=p) (day:=day) hf hC;obtain⟨_,hv,_⟩:=a6V hC
 have hp:∀q∈l,chs q≠0:=fun q hq=>by have:=a9u (hv q hq);omega
 have hE2:a5h f c (a0I l R p) (a0I l R p) day=0:=by rw[c3m hv];exact hE
 have hol:=a5c (l:=l) (R:=R) (p:=p)
 have how:=b8c (c1G (l:=l) (R:=R) (p:=p)) hp
 rcases b4K (f:=f) (c:=c) (own:=a0I l R p) (p:=p) (day:=day) (by omega) (by omega) hk hn hR' hE2 (b3S hv) (List.ne_nil_of_mem (c0s hF)) with ⟨hE3,hs⟩|hE3
 ·refine⟨fun h=>?_,fun h=>?_⟩
  ·have k1:(bndF kmO f c ((a0I l R p).set k (a1B (a0I l R p)[k] n)) (a0I ((a0I l R p).set k (a1B (a0I l R p)[k] n)) R' p) p day).2=0:=h
   have k2:(bndF cyO f c ((a0I l R p).set k (a1B (a0I l R p)[k] n)) (a0I ((a0I l R p).set k (a1B (a0I l R p)[k] n)) R' p) p day).2=0:=by rw[a4R (g':=kmO)];exact k1
   have k3:(bndF daO f c ((a0I l R p).set k (a1B (a0I l R p)[k] n)) (a0I ((a0I l R p).set k (a1B (a0I l R p)[k] n)) R' p) p day).2=0:=by rw[a4R (g':=kmO)];exact k1
   have a1:=b1P o1 hs hkm k1
   have a2:=b1P o2 hs hcy k2
   have a3:=b1P o3 hs hda k3
   simp only[c2Z,b4B,Bool.and_eq_true,decide_eq_true_eq]
   exact⟨⟨⟨a1.1,a1.2⟩,⟨a2.1,a2.2⟩⟩,⟨a3.1,a3.2⟩⟩
  ·exact (c6L (g:=kmO) (p:=p) hE3).resolve_left h
 ·have h2:(bndF kmO f c ((a0I l R p).set k (a1B (a0I l R p)[k] n)) (a0I ((a0I l R p).set k (a1B (a0I l R p)[k] n)) R' p) p day).2=2:=by
   unfold bndF;rw[if_pos (by rw[hE3];decide)];exact hE3
  refine⟨fun h=>?_,fun _=>h2⟩
  have h:(bndF kmO f c _ _ p day).2=0:=h
  rw[h2]at h;cases h
theorem d0w {I:IMap} {xss rest:List (List Value)} {l:List Rep} {k:Nat} (hC:FlatC I xss l) (hk:k<l.length):∃S d,(xss++rest)[k]? = some (l[k].cells (.slice S l[k].options.length d))∧RdS I (.slice S l[k].options.length d) l[k].options:=by
 obtain⟨c,hc,s,rfl,hr⟩:=hC.at_ hk;obtain⟨S,d,rfl,h1,h2,h3⟩:=hr;refine⟨S,d,?_,S,d,rfl,h1,h2,h3⟩;rw[List.getElem?_append_left (by rw[hC.len];exact hk)];exact hc
end Go.Sx
set_option linter.all false
namespace Go.Sx
open Go
variable {P:Program} {n:Sz} {E:Ent} {I:IMap} {L:LL} {H:List Res}
variable {d ty tx tyy:Nat} {pos:String} {af:Array Edge} {x y:Operand}
theorem d1z {e:TypeId} {a b c a' b' c':Bool} {i:TypeInfo} (ht:P.underlying tx=some (.array 3 e)) (hi:P.info? e=some i) (hc:P.cellsOf e=1) (hk:tyK P e=some (false,1)) (hb:P.underlying e=some .bool) (w:World) :
  (Op.equalIn 10000 tx (.agg #[.bool a,.bool b,.bool c]) (.agg #[.bool a',.bool b',.bool c'])).run P w = .ok ((a == a')&&((b == b')&&(c == c'))) w:=by
 have he:∀(u v:Bool) w,(Op.equalIn 9999 e (.bool u) (.bool v)).run P w = .ok (u == v) w:=fun u v w=>b1W 9 e (.bool u) (.bool v) (u == v) (by simp[eqV,hb]) 9999 (by omega) w
 have hp:∀(xs:List Value) (k:Nat) (v:Value) w,xs[k]? = some v→(part e xs.toArray k).run P w = .ok v w:=fun xs k v w h=>a5p (by unfold b2t;rw[hk];exact h) w
 rw[run_equalIn_array w 9999 _ _ ht hi,hc];rw[show List.range 3=[0,1,2] from rfl]
 simp only[Op.eqItems,Sem.run_bind]
 rw[hp [.bool a,.bool b,.bool c] (0 * 1) (.bool a) w rfl]
 simp only[Result.andThen_ok]
 rw[hp [.bool a',.bool b',.bool c'] (0 * 1) (.bool a') w rfl]
 simp only[Result.andThen_ok,he]
 cases h1:(a == a')
 ·simp
 ·simp only[Bool.not_true,Bool.false_eq_true,if_false,Sem.run_bind]
  rw[hp [.bool a,.bool b,.bool c] (1 * 1) (.bool b) w rfl]
  simp only[Result.andThen_ok]
  rw[hp [.bool a',.bool b',.bool c'] (1 * 1) (.bool b') w rfl]
  simp only[Result.andThen_ok,he]
  cases h2:(b == b')
  ·simp
  ·simp only[Bool.not_true,Bool.false_eq_true,if_false,Sem.run_bind]
   rw[hp [.bool a,.bool b,.bool c] (2 * 1) (.bool c) w rfl]
   simp only[Result.andThen_ok]
   rw[hp [.bool a',.bool b',.bool c'] (2 * 1) (.bool c') w rfl]
   simp only[Result.andThen_ok,he]
   cases h3:(c == c')<;>simp
theorem c2z {e:TypeId} {a b c a' b' c':Bool} (hg:P.eqGuardType P.depth tx=false) (ha:b6f P tx=some (3,e,1)) (hi:(P.info? e).isSome=true) (hc:P.cellsOf e=1) (hk:tyK P e=some (false,1)) (hb:P.underlying e=some .bool)
  (hx:ev L x=some (.agg #[.bool a,.bool b,.bool c])) (hy:ev L y=some (.agg #[.bool a',.bool b',.bool c'])):OV P n E I L H ⟨some d,.binOp .eql tx x y tyy,ty,pos,af,none⟩ (.bool ((a == a')&&((b == b')&&(c == c')))):=fun a w st _=>by
 obtain⟨h1,_,_⟩:=a5N ha;obtain⟨i,hi⟩:=Option.isSome_iff_exists.1 hi
 simp[execOp,st.ev hx,st.ev hy,run_eqGuard_agg w _ _ _ _ _ _ hg,run_eql_struct,d1z h1 hi hc hk hb w]
end Go.Sx
namespace Go.Proofs.YtdapmfkbpnjkmaaGreat
open Go Go.Sx
set_option linter.all false
set_option maxRecDepth 20000
set_option maxHeartbeats 4000000
instance T.by_46:Has (a2B Tryz.prog 46) ([.int .i64 0,.int .i64 0,.int .i64 0,.int .i64 0,.int .i64 0,.int .i64 0],6,48):=⟨by kernel_rfl⟩
instance T.elt_79:Has (a8v Tryz.prog 79) (46,6):=⟨by kernel_rfl⟩
instance T.und_79:Has (Tryz.prog.underlying 79) (.slice 46):=⟨by kernel_rfl⟩
theorem b0a (I:IMap) (a b:Ivl) :
    FnV Tryz.prog 84 #[.agg a.cells.toArray,.agg b.cells.toArray] I (.bool (b4B a b)):=by
 refine enter Tryz.func84 Tryz.call84 rfl Tryz.ntmps84 rfl (fun w0=>?_);refine go 3 ?_;refine a0y _ rfl rfl rfl (fun g2=>?_);refine go 1 ?_;refine a0y _ rfl rfl rfl (fun g3=>?_);refine go 11 ?_;refine sxb 10 rfl (fun h10 p10=>?_) (fun h10 p10=>?_)
 ·refine go 10 ?_;refine a0u rfl rfl ?_;exact q_v (congrArg Value.bool (by simp only[b4B,h10,bS]))
 ·refine go 10 ?_;refine a0u rfl rfl ?_;exact q_v (congrArg Value.bool (by simp only[b4B,h10,bS]))
theorem d1q (I:IMap) (a b:Life) :
    FnV Tryz.prog 42 #[.agg a.cells.toArray,.agg b.cells.toArray] I (.bool (c2Z a b)):=by
 refine enter Tryz.func42 Tryz.call42 rfl Tryz.ntmps42 rfl (fun w0=>?_);refine go 3 ?_;refine a0y _ rfl rfl rfl (fun g2=>?_);refine go 1 ?_;refine a0y _ rfl rfl rfl (fun g3=>?_);refine go 6 ?_;refine o_v rfl (a1W (a.km.cells) m1 he rfl rfl rfl) ?_;refine go 1 ?_;refine o_v rfl (a1W (b.km.cells) m0 he rfl rfl rfl) ?_;refine go 1 ?_;refine a0a (b0a _ a.km b.km) rfl rfl ?_;refine go 1 ?_;refine sxb 10 rfl (fun h10 p10=>?_) (fun h10 p10=>?_)
 ·refine go 1 ?_;refine a0H (a0E rfl rfl h10 (a0s rfl (a1W (a.cycles.cells) m1 he rfl rfl rfl) ?_));refine go 1 ?_;refine a0H (a0E rfl rfl h10 (a0s rfl (a1W (b.cycles.cells) m0 he rfl rfl rfl) ?_));refine go 1 ?_;refine a0E rfl rfl h10 (a0a (b0a _ a.cycles b.cycles) rfl rfl ?_);refine go 2 ?_;refine sxb 17 rfl (fun h17 p17=>?_) (fun h17 p17=>?_)
  ·refine go 1 ?_;refine a0H (a0E rfl rfl h17 (a0s rfl (a1W (a.damage.cells) m1 he rfl rfl rfl) ?_));refine go 1 ?_;refine a0H (a0E rfl rfl h17 (a0s rfl (a1W (b.damage.cells) m0 he rfl rfl rfl) ?_));refine go 1 ?_;refine a0E rfl rfl h17 (a0a (b0a _ a.damage b.damage) rfl rfl ?_);refine go 5 ?_;refine a0u rfl rfl ?_;exact q_v (congrArg Value.bool (by simp only[c2Z,h10,h17,bS]))
  ·refine go 10 ?_;refine a0u rfl rfl ?_;exact q_v (congrArg Value.bool (by simp only[c2Z,h10,h17,bS]))
 ·refine go 17 ?_;refine a0u rfl rfl ?_;exact q_v (congrArg Value.bool (by simp only[c2Z,h10,bS]))
theorem b7D (I:IMap) (a b:Life) (h:c2Z a b=true):FnV Tryz.prog 42 #[.agg a.cells.toArray,.agg b.cells.toArray] I (.bool true):=by
 have:=d1q I a b
 rwa[h]at this
theorem b8I (I:IMap) (vc:Value) (c:List Kind) (hvc:RdS I vc c) (hsc:SmC c) (f:Fm) (sf:Value) (hf:FmRd I [ci f.op,ci f.n,sf] f) (v:Value) (l:List Rep) (hv:RdS I v l) (hl:l.length≤25) (hsl:∀r∈l,∀e∈r.options,SmE e) (R:Nat→Nat) (hRt:Rts l R) (p:ByteArray) (day:Int)  :
    FnI Tryz.prog 41 #[.agg #[vc,ci f.op,ci f.n,sf],v,.string p,.int .i64 (day)] I (fun u J=>RdS J u ((a1Z c (a0I l R p) 64).1.map (livG f c (a0I l R p) p day))):=by
 refine enter Tryz.func41 Tryz.call41 rfl Tryz.ntmps41 rfl (fun w0=>?_);refine go 3 ?_;refine a0y _ rfl rfl rfl (fun g4=>?_);refine go 9 ?_;refine a1e (c1P _ _ l hv (by omega) hsl R hRt p) rfl rfl (fun v24 I24 j24 q24=>?_)
 try have hvc:=hvc.le j24
 try have hf:=hf.le j24
 try have hv:=hv.le j24
 try have Ro:=Ro.le j24
 try have hAA:=hAA.le j24
 try have hz45:=hz45.le j24
 try have hwb:=hwb.le j24
 try have hF:=hF.le j24
 refine go 1 ?_;refine a1e (b5H _ _ l hv _ (ofN l R p) q24 (fun i hi=>b3H hi) (by rw[←a2i (l:=l) fun i hi=>b3H hi];exact Nat.le_trans a5c (by omega))) rfl rfl (fun v25 I25 j25 q25=>?_)
 try have hvc:=hvc.le j25
 try have hf:=hf.le j25
 try have hv:=hv.le j25
 try have Ro:=Ro.le j25
 try have hAA:=hAA.le j25
 try have hz45:=hz45.le j25
 try have hwb:=hwb.le j25
 try have hF:=hF.le j25
 have Ro:RdS _ _ (a0I l R p):=q25
 have hcl2:=a5c (l:=l) (R:=R) (p:=p)
 obtain⟨v9,hv9⟩:∃q,q=v25:=⟨_,rfl⟩;rw[←hv9]at Ro ⊢
 refine go 6 ?_;refine o_v rfl (a1W ([vc]) m0 he rfl rfl rfl) ?_;refine go 2 ?_;refine a1e (c8W _ vc c hvc hsc _ (a0I l R p) Ro (by omega) (fun r hr=>hsl r (a3M hr)) 64) rfl rfl (fun v30 I30 j30 q30=>?_)
 try have hvc:=hvc.le j30
 try have hf:=hf.le j30
 try have hv:=hv.le j30
 try have Ro:=Ro.le j30
 try have hAA:=hAA.le j30
 try have hz45:=hz45.le j30
 try have hwb:=hwb.le j30
 try have hF:=hF.le j30
 obtain⟨w30,rfl,hw30⟩:=q30;obtain⟨AA,ca,rfl,hAA,hca,hma⟩:=hw30
 have hal:(a1Z c (a0I l R p) 64).1.length≤64:=by have h:=(b0J (c:=c) (l:=(a0I l R p)) (a:=64) (b:=64) (by omega) (by omega) (Int.le_refl _)).2.2.1;omega
 refine go 9 ?_;refine a1i 46 6 ?_;refine go 10 ?_
 refine a4c ((0:Nat)) (_) ([]) (_) (fun i v12 xs J=>J)
  (fun i v12 xs J=>[(2,.string p),(3,.int .i64 (day)),(4,.pointer (some ⟨g4,0,none⟩)),(9,v9),(10,.slice AA (a1Z c (a0I l R p) 64).1.length ca),(12,v12),(13,.int .i64 ((i:Nat):Int))])
  (fun i v12 xs J=>[.row v12 46 6 i xs,.blk g4 72 [vc,ci f.op,ci f.n,sf]])
  (fun i v12 xs J=>i≤(a1Z c (a0I l R p) 64).1.length∧ILe I30 J∧Flat J xs (((a1Z c (a0I l R p) 64).1.take i).map (livG f c (a0I l R p) p day)))
  (fun i v12 xs J=>(a1Z c (a0I l R p) 64).1.length-i) ⟨Nat.zero_le _,ILe.refl _,.nil⟩ rfl sb rfl ?_
 intro i v12 xs J ⟨hi,hJ,hF⟩
 have hvc:=hvc.le hJ
 have hf:=hf.le hJ
 have Ro:=Ro.le hJ
 have hAA:=hAA.le hJ
 refine go 9 ?_;refine cb rfl (fun h36 p36=>?_) (fun h36 p36=>?_)
 ·have hlt:i<(a1Z c (a0I l R p) 64).1.length:=by omega
  have hpl:=b3U (a0I l R p) (a1Z c (a0I l R p) 64).1[i]
  refine go 9 ?_;obtain⟨b43,o43,w43,e43,c43,r43⟩:=RdA.at_ hAA (i:=i) (by omega);obtain⟨q43,rfl,S43,d43,rfl,hS43,hd43,hm43⟩:=r43;refine o_v rfl (a0m he rfl rfl e43 (i) (by omega) (by omega)) ?_;refine o_v rfl (a0V he rfl (c43 0 _ rfl)) ?_;refine go 1 ?_;refine a1e (b4e _ _ (a0I l R p) Ro (by omega) (fun r hr=>hsl r (a3M hr)) _ (a1Z c (a0I l R p) 64).1[i] ⟨_,_,rfl,hS43,hd43,hm43⟩) rfl rfl (fun v45 I45 j45 q45=>?_)
  try have hvc:=hvc.le j45
  try have hf:=hf.le j45
  try have hv:=hv.le j45
  try have Ro:=Ro.le j45
  try have hAA:=hAA.le j45
  try have hz45:=hz45.le j45
  try have hwb:=hwb.le j45
  try have hF:=hF.le j45
  obtain⟨z45,rfl,hz45⟩:=q45;refine go 13 ?_;refine a1e (b5o _ vc c hvc hsc f sf hf _ (a1T (a0I l R p) (a1Z c (a0I l R p) 64).1[i]).1 hz45 (by omega) (b3X (fun r hr=>hsl r (a3M hr))) day) rfl rfl (fun v52 I52 j52 q52=>?_)
  try have hvc:=hvc.le j52
  try have hf:=hf.le j52
  try have hv:=hv.le j52
  try have Ro:=Ro.le j52
  try have hAA:=hAA.le j52
  try have hz45:=hz45.le j52
  try have hwb:=hwb.le j52
  try have hF:=hF.le j52
  obtain⟨wb,rfl,hwb⟩:=q52;refine go 5 ?_;refine a0h he rfl (fun g16=>?_);refine go 1 ?_;refine a0p _ he rfl rfl rfl rfl rfl (by simp[RdS.one hwb]) ?_;refine go 9 ?_;refine a5b (c6a _ _ _ hwb p) rfl rfl (fun v59 q59=>?_);obtain⟨vs59,rfl,s59,rfl,hs59⟩:=q59;refine go 4 ?_;refine a0h he rfl (fun g19=>?_);refine go 1 ?_;refine a0p _ he rfl rfl rfl rfl rfl (Enc.one (α:=Part) (x:=(a0T (runL f c (a1T (a0I l R p) (a1Z c (a0I l R p) 64).1[i]).1 day).1 p).getD zPart) ⟨s59,rfl,hs59⟩) ?_;refine go 6 ?_;refine o_v rfl (a1W ((livG f c (a0I l R p) p day (a1Z c (a0I l R p) 64).1[i]).cells) m0 he rfl rfl rfl) ?_;refine go 1 ?_;refine a0d he he rfl rfl rfl rfl rfl rfl rfl (fun v65=>?_);refine go 1 ?_;refine a1c ?_;refine a1h he he rfl rfl rfl rfl rfl (by omega) (by omega) rfl (fun v66=>?_);refine go 10 ?_;refine a0f ?_;refine a0b ?_;refine a0f ?_;refine a0b ?_;refine a0f ?_;refine a0b ?_;exact a2y (i+1) (_) (_) (_) ⟨by omega,hJ.trans (j45.trans j52),by rw[←a0o hlt,List.map_append];exact hF.append (.one rfl)⟩ (by omega) rfl sb rfl
 ·obtain rfl:i=(a1Z c (a0I l R p) 64).1.length:=by omega
  rw[List.take_length]at hF
  refine a0l (l:=(a1Z c (a0I l R p) 64).1.map (livG f c (a0I l R p) p day)) rfl (by rw[List.length_map]) hF (fun I9 j9 R9=>?_);refine go 12 ?_;refine a0u rfl rfl ?_;exact q_i R9
theorem b4d (I:IMap) (v:Value) (l:List Rep) (hv:RdS I v l) (w:Value) (D:List Nat) (hw:RdS I w (nI D)) (hC:∀i∈D,i<l.length) (hC6:D.length≤1000000) :
    FnX Tryz.prog 47 #[v,w] I [] (fun u r=>∃S d xs,u = .slice S (a1S l D).length d∧r = .row (.slice S (a1S l D).length d) 64 2 (a1S l D).length xs∧Flat I xs (a1S l D)):=by
 have hv0:=hv
 obtain⟨A,c0,rfl,hA,hc,hm⟩:=hv;obtain⟨B,c1,rfl,hB,hcb,hmb⟩:=hw;rw[a3E]at hcb ⊢
 refine enter Tryz.func47 Tryz.call47 rfl Tryz.ntmps47 rfl (fun w0=>?_);refine go 7 ?_;refine a1i 64 2 ?_;refine go 10 ?_
 refine a4c ((0:Nat)) (none) (0) ([]) (fun i A5 c5 xs=>I)
  (fun i A5 c5 xs=>[(0,.slice A l.length c0),(1,.slice B D.length c1),(5,.slice A5 i c5),(6,.int .i64 ((i:Nat):Int))])
  (fun i A5 c5 xs=>[.row (.slice A5 i c5) 64 2 i xs])
  (fun i A5 c5 xs=>i≤D.length∧Flat I xs (a1S l (D.take i)))
  (fun i A5 c5 xs=>D.length-i) ⟨Nat.zero_le _,.nil⟩ rfl sb rfl ?_
 intro i A5 c5 xs ⟨hi,hF⟩;refine go 9 ?_;refine cb rfl (fun h10 p10=>?_) (fun h10 p10=>?_)
 ·have hlt:i<D.length:=by omega
  have hcl:=hC _ (List.getElem_mem hlt)
  refine go 9 ?_;obtain⟨b17,o17,w17,e17,c17,r17⟩:=RdA.at_ hB (i:=i) (by first|exact hlt|(rw[a3E];exact hlt));rw[c4p hlt]at r17
  obtain rfl:=r17;refine o_v rfl (a0m he rfl rfl e17 (i) (by omega) (by first|exact hlt|(rw[a3E];exact hlt))) ?_;refine o_v rfl (a0V he rfl (c17 0 _ rfl)) ?_;obtain⟨b19,o19,w19,e19,c19,r19⟩:=RdA.at_ hA (i:=D[i]) hcl;obtain⟨q19,rfl,S19,d19,rfl,hS19,hd19,hm19⟩:=r19;refine o_v rfl (a0m he rfl rfl e19 (D[i]) (by omega) hcl) ?_;refine o_v rfl (a0G he rfl c19 rfl) ?_;refine go 1 ?_;refine a0d he he rfl rfl rfl rfl rfl rfl rfl (fun v21=>?_);refine go 1 ?_;refine a0f ?_;refine a1h he he rfl rfl rfl rfl rfl (by omega) (by omega) rfl (fun v22=>?_);refine a3R (fun A22 c22 hv22=>?_);subst hv22;refine go 10 ?_;refine a0f ?_;refine a0b ?_;exact a2y (i+1) (_) (_) (_) ⟨by omega,by rw[←a0o hlt,a5Y,a3N hcl];exact hF.append (.one ⟨_,rfl,⟨_,_,rfl,hS19,hd19,hm19⟩⟩)⟩ (by omega) rfl sb rfl
 ·obtain rfl:i=D.length:=by omega
  rw[List.take_length]at hF
  have hpl:=a2i hC
  refine go 12 ?_;refine a0u rfl rfl ?_;exact q_x ⟨A5,c5,xs,by rw[hpl],by rw[hpl],hF⟩
end Go.Proofs.YtdapmfkbpnjkmaaGreat
