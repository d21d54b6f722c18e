
import Derived.Test.YtgmkjpafapgccaaGreatZTse
import Derived.RecoverIn
namespace Go.Proofs.YtgmkjpafapgccaaGreat
open Go Go.Sx Tryz
set_option linter.all false
set_option maxRecDepth 20000
set_option maxHeartbeats 4000000
instance:Has (a6J prog 425) (132,1):=hk
instance:Has (a6J prog 52) (245,5):=hk
instance:Has (a1k prog 245 0) (0,false,1):=hk
instance:Has (a1k prog 245 1) (1,false,1):=hk
instance:Has (a1k prog 245 2) (2,false,1):=hk
instance:Has (a1k prog 245 3) (3,false,1):=hk
instance:Has (a1k prog 245 4) (4,false,1):=hk
instance:Has (a1k prog 260 1) (1,false,1):=hk
instance:Has (a1k prog 260 2) (2,false,1):=hk
instance:Has (a1k prog 341 0) (0,true,5):=hk
instance:Has (plK prog 260) [(0,1),(1,1),(2,1)]:=hk
instance:Has (plK prog 341) [(0,5)]:=hk
instance:Has (tyK prog 132) (false,1):=hk
instance:Has (tyK prog 215) (false,1):=hk
instance:Has (tyK prog 245) (true,5):=hk
instance:Has (tyK prog 260) (true,3):=hk
instance:Has (tyK prog 341) (true,5):=hk
instance:Has (prog.underlying 257) (.map 260 4):=hk
instance:Has (prog.underlying 425) (.slice 132):=hk
instance T.und_52:Has (prog.underlying 52) (.slice 245):=hk
instance:Has (a1o prog 132) [.nilFunc]:=hk
instance:Has (a1o prog 245) [.string ⟨#[]⟩,.string ⟨#[]⟩,.string ⟨#[]⟩,.int .i64 0,.int .i64 0]:=hk
instance:Has (a1o prog 260) [.string ⟨#[]⟩,.string ⟨#[]⟩,.int .i64 0]:=hk
instance:Has (a1o prog 341) [.string ⟨#[]⟩,.string ⟨#[]⟩,.string ⟨#[]⟩,.int .i64 0,.int .i64 0]:=hk
theorem b3f (I:IMap) (v:Value) (l:List Int) (hv:RdS I v l) (f:FuncId) (cs:List Value) (p:Int→Bool) (hp:∀x∈l,FnV prog f ([Value.int .i64 x]++cs).toArray I (.bool (p x))) :
    FnV prog 229 #[v,.func (.func f) #[] cs.toArray] I (.int .i64 (a4G p l)):=by
 have hv0:=hv;obtain⟨A,c0,rfl,hA,hc,hm⟩:=hv;refine enter func229 call229 rfl ntmps229 rfl fun w0=>?_;refine go 14 ?_
 refine a0x (α:=Nat) 0 (fun i=>I)
  (fun i=>[(0,.slice A l.length c0),(1,.func (.func f) #[] cs.toArray),(7,.int .i64 (l.length:Int)),(8,.int .i64 (i:Int))])
  (fun i=>[])
  (fun i=>i≤l.length∧∀j x,j<i→l[j]? = some x→p x=false)
  (fun i=>l.length-i) ⟨Nat.zero_le _,fun j x hj=>absurd hj (Nat.not_lt_zero j)⟩ rfl sb rfl ?_
 intro i ⟨hi,hn⟩;refine gC 6 (fun h9 p9=>?_) fun h9 p9=>?_
 ·have hlt:i<l.length:=oM;refine go 15 ?_;obtain⟨b14,o14,w14,e14,c14,r14⟩:=RdA.at_ hA (i:=i) hlt;obtain rfl:=r14;refine go 3 ?_;refine cV (hp _ (List.getElem_mem hlt)) ?_;refine gC 2 (fun h16 p16=>?_) fun h16 p16=>?_
  ·refine go 13 ?_;exact q_v (congrArg (Value.int .i64) (a1J hlt p16 hn).symm)
  ·refine go 8 ?_;exact a0w (i+1) ⟨oM,a1W hn hlt p16⟩ oM rfl sb rfl
 ·refine go 12 ?_;exact q_v (congrArg (Value.int .i64) (a2f (fun j x hj=>hn j x oM)).symm)
theorem a9i (I:IMap) (v:Value) (l:List Int) (hv:RdS I v l) (f:FuncId) (cs:List Value) (p:Int→Bool) (hp:∀x∈l,FnV prog f ([Value.int .i64 x]++cs).toArray I (.bool (p x))) :
    FnV prog 151 #[v,.func (.func f) #[] cs.toArray] I (.bool (l.any p)):=by
 refine enter func151 call151 rfl ntmps151 rfl fun w0=>?_;refine go 10 ?_;refine cV (b3f I v l hv f cs p hp) ?_;refine go 6 ?_;exact q_v (congrArg Value.bool (a2Q p l))
theorem b3e (I:IMap) (v:Value) (l:List Fn1) (hv:RdS I v l) (f:FuncId) (cs:List Value) (p:Fn1→Bool) (hp:∀x∈l,FnV prog f ([Fn1.val x]++cs).toArray I (.bool (p x))) :
    FnV prog 349 #[v,.func (.func f) #[] cs.toArray] I (.int .i64 (a4G p l)):=by
 have hv0:=hv;obtain⟨A,c0,rfl,hA,hc,hm⟩:=hv;refine enter func349 call349 rfl ntmps349 rfl fun w0=>?_;refine go 14 ?_
 refine a0x (α:=Nat) 0 (fun i=>I)
  (fun i=>[(0,.slice A l.length c0),(1,.func (.func f) #[] cs.toArray),(7,.int .i64 (l.length:Int)),(8,.int .i64 (i:Int))])
  (fun i=>[])
  (fun i=>i≤l.length∧∀j x,j<i→l[j]? = some x→p x=false)
  (fun i=>l.length-i) ⟨Nat.zero_le _,fun j x hj=>absurd hj (Nat.not_lt_zero j)⟩ rfl sb rfl ?_
 intro i ⟨hi,hn⟩;refine gC 6 (fun h9 p9=>?_) fun h9 p9=>?_
 ·have hlt:i<l.length:=oM;refine go 15 ?_;obtain⟨b14,o14,w14,e14,c14,r14⟩:=RdA.at_ hA (i:=i) hlt;obtain rfl:=r14;refine go 3 ?_;refine cV (hp _ (List.getElem_mem hlt)) ?_;refine gC 2 (fun h16 p16=>?_) fun h16 p16=>?_
  ·refine go 13 ?_;exact q_v (congrArg (Value.int .i64) (a1J hlt p16 hn).symm)
  ·refine go 8 ?_;exact a0w (i+1) ⟨oM,a1W hn hlt p16⟩ oM rfl sb rfl
 ·refine go 12 ?_;exact q_v (congrArg (Value.int .i64) (a2f (fun j x hj=>hn j x oM)).symm)
theorem a9h (I:IMap) (v:Value) (l:List Fn1) (hv:RdS I v l) (f:FuncId) (cs:List Value) (p:Fn1→Bool) (hp:∀x∈l,FnV prog f ([Fn1.val x]++cs).toArray I (.bool (p x))) :
    FnV prog 331 #[v,.func (.func f) #[] cs.toArray] I (.bool (l.any p)):=by
 refine enter func331 call331 rfl ntmps331 rfl fun w0=>?_;refine go 10 ?_;refine cV (b3e I v l hv f cs p hp) ?_;refine go 6 ?_;exact q_v (congrArg Value.bool (a2Q p l))
theorem d0s (a b:Due):eqV prog 9 260 (.agg a.cells.toArray) (.agg b.cells.toArray)=some (decide (a=b)):=by
 rw[←Due.eqB_eq]
 kernel_rfl
theorem d4u:KeyOK prog 260 b1V:=a8y (cells:=Due.cells) (by kernel_rfl) (fun p q=>d0s p q) (fun p=>by kernel_rfl) (fun p=>by simp[Due.cells,b2O,b2N])
theorem d7m (I:IMap) (x:Evt) (p:ByteArray) (day:Int) (g6 g7:Nat) (h6:ICells I g6 0 [.string p]) (h7:ICells I g7 0 [ci day]) :
    FnV prog 286 #[.agg x.cells.toArray,.pointer (some ⟨g6,0,none⟩),.pointer (some ⟨g7,0,none⟩)] I (.bool (d1B p day x)):=by
 refine enter func286 call286 rfl ntmps286 rfl fun w0=>?_;refine go 4 fun g3=>?_
 refine go 7 ?_;refine o_v rfl (a0v he rfl (h6 0 _ rfl)) ?_;refine gS 2 9 (fun h9 p9=>?_) fun h9 p9=>?_
 ·refine go 2 ?_;refine a0z (a0n rfl rfl h9 (a0q rfl (a0v he rfl (h7 0 _ rfl)) ?_));refine go 7 ?_;exact q_v (congrArg Value.bool (by simp only[d1B,h9,bS]))
 ·refine go 10 ?_;exact q_v (congrArg Value.bool (by simp only[d1B,h9,bS]))
theorem d3Z (I:IMap) (x:Evt) (d:Dut) (g4:Nat) (h4:ICells I g4 0 d.cells) :
    FnV prog 288 #[.agg x.cells.toArray,.pointer (some ⟨g4,0,none⟩)] I (.bool (decide (x.op=6)&&decide (x.key=d.key))):=by
 refine enter func288 call288 rfl ntmps288 rfl fun w0=>?_;refine go 4 fun g2=>?_
 refine gS 9 7 (fun h7 p7=>?_) fun h7 p7=>?_
 ·refine go 4 ?_;refine a0z (a0n rfl rfl h7 (a0q rfl (a0v he rfl (h4 2 _ rfl)) ?_));refine go 7 ?_;exact q_v (congrArg Value.bool (by simp only[h7,bS]))
 ·refine go 12 ?_;exact q_v (congrArg Value.bool (by simp only[h7,bS]))
theorem d0p (I:IMap) (x:Evt) (d:Dut) (g4:Nat) (h4:ICells I g4 0 d.cells) :
    FnV prog 289 #[.agg x.cells.toArray,.pointer (some ⟨g4,0,none⟩)] I (.bool (decide (x.op=d.after))):=by
 refine enter func289 call289 rfl ntmps289 rfl fun w0=>?_;refine go 4 fun g2=>?_
 refine go 9 ?_;refine o_v rfl (a0v he rfl (h4 3 _ rfl)) ?_;refine go 6 ?_;exact q_v rfl
theorem d7k (I:IMap) (d:Dut) (n b:Int) (g15:Nat) (h15:ICells I g15 0 [ci b]) (hb:0≤b∧b≤40000) (hw:0≤d.within∧d.within≤40000) (g4:Nat) (h4:ICells I g4 0 d.cells) :
    FnV prog 290 #[.int .i64 (n),.pointer (some ⟨g15,0,none⟩),.pointer (some ⟨g4,0,none⟩)] I (.bool (decide (n≥b)&&decide (n≤b+d.within))):=by
 refine enter func290 call290 rfl ntmps290 rfl fun w0=>?_;refine go 8 ?_;refine o_v rfl (a0v he rfl (h15 0 _ rfl)) ?_;refine gS 2 8 (fun h8 p8=>?_) fun h8 p8=>?_
 ·refine go 1 ?_;refine a0z (a0n rfl rfl h8 (a0q rfl (a0v he rfl (h15 0 _ rfl)) ?_));refine go 2 ?_;refine a0z (a0n rfl rfl h8 (a0q rfl (a0v he rfl (h4 4 _ rfl)) ?_));refine go 8 ?_;exact q_v (congrArg Value.bool (by simp only[h8,bS]))
 ·refine go 13 ?_;exact q_v (congrArg Value.bool (by simp only[h8,bS]))
theorem d7l (I:IMap) (f:Fn1) (x:Evt) (b:Bool) (hf:FnV prog f.k ([Value.agg x.cells.toArray]++f.cs).toArray I (.bool b)) (g:Nat) (hg:ICells I g 0 x.cells) :
    FnV prog 332 #[.func (.func f.k) #[] f.cs.toArray,.pointer (some ⟨g,0,none⟩)] I (.bool (!b)):=by
 refine enter func332 call332 rfl ntmps332 rfl fun w0=>?_;refine go 8 ?_;refine o_v rfl (a0S he rfl hg rfl) ?_;refine go 1 ?_;refine cV (hf) ?_;refine go 6 ?_;exact q_v rfl
theorem c8U (I:IMap) (v:Value) (l:List Evt) (hv:RdS I v l) (hl:l.length≤1000000) (w:Value) (fs:List Fn1) (hw:RdS I w fs) (q:Fn1→Evt→Bool) (hq:∀J,ILe I J→∀f∈fs,∀x:Evt,FnV prog f.k ([Value.agg x.cells.toArray]++f.cs).toArray J (.bool (q f x))) :
    FnI prog 287 #[v,w] I (fun u J=>RdS J u (a6E fs q l)):=by
 have hv0:=hv;obtain⟨A,c0,rfl,hA,hc,hm⟩:=hv;refine enter func287 call287 rfl ntmps287 rfl fun w0=>?_;refine go 7 ?_;refine a0E 3 1 ?_;refine go 12 ?_
 refine a3A ((0:Nat)) (I) (_) ([]) (fun i J v5 xs=>J)
  (fun i J v5 xs=>[(1,w),(5,v5),(8,.slice A l.length c0),(9,.int .i64 ((l.length:Nat):Int)),(10,.int .i64 ((i:Nat):Int))])
  (fun i J v5 xs=>[.row v5 3 1 (a6E fs q (l.take i)).length xs])
  (fun i J v5 xs=>i≤l.length∧ILe I J∧Flat J xs (a6E fs q (l.take i)))
  (fun i J v5 xs=>l.length-i) ⟨Nat.zero_le _,ILe.refl _,.nil⟩ rfl sb rfl ?_
 intro i J v5 xs ⟨hi,hJ,hF⟩;have hA:=hA.le hJ;have hw:=hw.le hJ;have hdl:=c1J (fs:=fs) (q:=q) (l:=l.take i);rw[List.length_take]at hdl
 refine gC 6 (fun h11 p11=>?_) fun h11 p11=>?_
 ·have hlt:i<l.length:=oM;refine go 6 ?_;obtain⟨b12,o12,w12,e12,c12,r12⟩:=RdA.at_ hA (i:=i) hlt;obtain rfl:=r12;refine go 4 fun g7=>?_
  refine go 9 ?_;refine a0A fun Ig7 jg7 cg7=>?_;have hw:=hw.le jg7;refine cV (a9h _ w fs hw 332 [.pointer (some ⟨g7,0,none⟩)] (fun f=>!q f l[i]) (fun f hf=>d7l _ f l[i] _ (hq _ (hJ.trans jg7) f hf l[i]) g7 cg7)) ?_;refine gC 3 (fun h17 p17=>?_) fun h17 p17=>?_
  ·refine go 3 ?_;refine o_v rfl (a0v he rfl (cg7 1 _ rfl)) ?_;refine go 2 fun v21=>?_
   refine go 1 ?_;refine a0b ?_;refine a0O he he rfl rfl rfl rfl rfl oM oM rfl fun v22=>?_;refine go 9 ?_;refine a0b ?_;refine a0a ?_;exact a1G (i+1) (_) (_) (_) ⟨oM,hJ.trans jg7,by rw[b4s hlt (by rw[←a9q];exact h17)];exact (hF.le jg7).append (.one rfl)⟩ oM rfl sb (by rw[b4s hlt (by rw[←a9q];exact h17),List.length_append];rfl)
  ·refine go 8 ?_;exact a1G (i+1) (_) (_) (_) ⟨oM,hJ.trans jg7,by rw[b7J hlt (by rw[←a9q];exact h17)];exact hF.le jg7⟩ oM rfl sb (by rw[b7J hlt (by rw[←a9q];exact h17)])
 ·refine go 13 ?_;have e:i=l.length:=oM;subst e;rw[List.take_length]at hF ⊢
  refine a0i (l:=a6E fs q l) rfl rfl hF fun I9 j9 R9=>?_;exact q_i R9
theorem d0q (I:IMap) (d:Dut) (hs:d.name.size≤maxLen∧d.kind.size≤maxLen∧d.key.size≤maxLen) :
    FnV prog 225 #[.agg d.cells.toArray] I (.bool (a3u d)):=by
 refine enter func225 call225 rfl ntmps225 rfl fun w0=>?_;refine go 4 fun g1=>?_
 refine go 9 ?_;refine cV (a3C _ d.name hs.1) ?_;refine gS 1 7 (fun h7 p7=>?_) fun h7 p7=>?_
 ·refine go 4 ?_;refine a0n rfl rfl h7 (a0y (a3C _ d.kind hs.2.1) rfl rfl ?_);refine gS 2 13 (fun h13 p13=>?_) fun h13 p13=>?_
  ·refine go 4 ?_;refine a0n rfl rfl h13 (a0y (a3C _ d.key hs.2.2) rfl rfl ?_);refine gS 2 19 (fun h19 p19=>?_) fun h19 p19=>?_
   ·refine gS 6 25 (fun h25 p25=>?_) fun h25 p25=>?_
    ·refine gS 6 31 (fun h31 p31=>?_) fun h31 p31=>?_
     ·refine gS 6 37 (fun h37 p37=>?_) fun h37 p37=>?_
      ·refine go 10 ?_;exact q_v (congrArg Value.bool (by simp only[a3u,h7,h13,h19,h25,h31,h37,bS]))
      ·refine go 10 ?_;exact q_v (congrArg Value.bool (by simp only[a3u,h7,h13,h19,h25,h31,h37,bS]))
     ·refine go 16 ?_;exact q_v (congrArg Value.bool (by simp only[a3u,h7,h13,h19,h25,h31,bS]))
    ·refine go 22 ?_;exact q_v (congrArg Value.bool (by simp only[a3u,h7,h13,h19,h25,bS]))
   ·refine go 28 ?_;exact q_v (congrArg Value.bool (by simp only[a3u,h7,h13,h19,bS]))
  ·refine go 34 ?_;exact q_v (congrArg Value.bool (by simp only[a3u,h7,h13,bS]))
 ·refine go 40 ?_;exact q_v (congrArg Value.bool (by simp only[a3u,h7,bS]))
theorem d7d (I:IMap) (v:Value) (l:List Int) (hv:RdS I v l) :
    FnV prog 146 #[v] I (.int .i64 (orI l)):=by
 have hv0:=hv;obtain⟨A,c0,rfl,hA,hc,hm⟩:=hv;refine enter func146 call146 rfl ntmps146 rfl fun w0=>?_;refine go 19 ?_
 refine a0x (α:=Nat) 0 (fun i=>I)
  (fun i=>[(3,.int .i64 (0)),(6,.slice A l.length c0),(7,.int .i64 ((l.length:Nat):Int)),(8,.int .i64 ((i:Nat):Int))])
  (fun i=>[])
  (fun i=>i≤l.length∧orI l=orI (l.drop i))
  (fun i=>l.length-i) ⟨Nat.zero_le _,rfl⟩ rfl sb rfl ?_
 intro i ⟨hi,hn⟩;refine gC 6 (fun h9 p9=>?_) fun h9 p9=>?_
 ·have hlt:i<l.length:=oM;refine go 6 ?_;obtain⟨b10,o10,w10,e10,c10,r10⟩:=RdA.at_ hA (i:=i) oM;obtain rfl:=r10;refine gC 12 (fun h14 p14=>?_) fun h14 p14=>?_
  ·refine go 13 ?_;exact q_v (congrArg (Value.int .i64) (by rw[hn,d4M hlt p14]))
  ·refine go 8 ?_;exact a0w (i+1) ⟨oM,by rw[hn,d1z hlt p14]⟩ oM rfl sb rfl
 ·refine go 13 ?_;exact q_v (congrArg (Value.int .i64) (by rw[hn,List.drop_eq_nil_of_le oM];rfl))
theorem c8a (I:IMap) (v:Value) (l:List ByteArray) (xs:List Value) (hF:Flat I xs l) (hl:l.length≤1000000) :
  FnX prog 78 #[v] I [.row v 9 1 l.length xs] (fun u r=>u = .tuple #[]∧∃m ys,SrtP l m∧Flat I ys m∧r = .row v 9 1 l.length ys):=
 c8c (fun args w=>call78 args w) (fun blk off cap ss w h1 h2 h3=>Any.slices_Sort_string Tryz.layS blk off cap ss w h1 h2 h3) (b8V I) hF hl
theorem c1Q {I J:IMap} (hJ:ILe I J) {d:Dut} {p:ByteArray} {day:Int} {g4 g6 g7:Nat} (c4:ICells I g4 0 d.cells) (c6:ICells I g6 0 [.string p]) (c7:ICells I g7 0 [ci day]) :
  ∀f∈[(⟨286,[.pointer (some ⟨g6,0,none⟩),.pointer (some ⟨g7,0,none⟩)]⟩:Fn1),(⟨288,[.pointer (some ⟨g4,0,none⟩)]⟩:Fn1),(⟨289,[.pointer (some ⟨g4,0,none⟩)]⟩:Fn1)],∀x:Evt,FnV prog f.k ([Value.agg x.cells.toArray]++f.cs).toArray J (.bool ((b5V d p day 286 288) f x)):=by
 intro f hf x
 rcases List.mem_cons.1 hf with rfl|hf
 ·exact d7m J x p day g6 g7 (c6.le hJ) (c7.le hJ)
 ·rcases List.mem_cons.1 hf with rfl|hf
  ·exact d3Z J x d g4 (c4.le hJ)
  ·rw[List.mem_singleton.1 hf];exact d0p J x d g4 (c4.le hJ)
theorem d3Y (I:IMap) (d:Dut) (v:Value) (l:List Evt) (hv:RdS I v l) (hl:l.length≤1000000) (p:ByteArray) (day:Int) (hw:0≤d.within∧d.within≤40000) (hd:∀e∈l,e.part=p→e.day≤day→0≤e.day∧e.day≤40000) :
    FnV prog 226 #[.agg d.cells.toArray,v,.string p,.int .i64 (day)] I (.tuple #[.int .i64 ((a4a (a8G d l p day)).getD 0),.bool (a4a (a8G d l p day)).isSome]):=by
 refine enter func226 call226 rfl ntmps226 rfl fun w0=>?_;refine go 4 fun g4=>?_
 refine go 2 fun g6=>?_
 refine go 2 fun g7=>?_
 refine go 17 fun v22=>?_
 refine a0i (l:=[(⟨286,[.pointer (some ⟨g6,0,none⟩),.pointer (some ⟨g7,0,none⟩)]⟩:Fn1),(⟨288,[.pointer (some ⟨g4,0,none⟩)]⟩:Fn1)]) rfl rfl (.cons rfl (.one rfl)) fun I22 j22 R22=>?_;have hv:=hv.le j22;refine go 1 ?_;refine a0d ?_;refine a0A fun Ig4 jg4 cg4=>?_
 try have hv:=hv.le jg4
 try have R22:=R22.le jg4
 try have cg4:=cg4.le jg4
 try have cg6:=cg6.le jg4
 try have cg7:=cg7.le jg4
 refine a0b ?_;refine a0A fun Ig6 jg6 cg6=>?_
 try have hv:=hv.le jg6
 try have R22:=R22.le jg6
 try have cg4:=cg4.le jg6
 try have cg6:=cg6.le jg6
 try have cg7:=cg7.le jg6
 refine a0A fun Ig7 jg7 cg7=>?_
 try have hv:=hv.le jg7
 try have R22:=R22.le jg7
 try have cg4:=cg4.le jg7
 try have cg6:=cg6.le jg7
 try have cg7:=cg7.le jg7
 refine a0m (c8U _ v l hv hl _ [(⟨286,[.pointer (some ⟨g6,0,none⟩),.pointer (some ⟨g7,0,none⟩)]⟩:Fn1),(⟨288,[.pointer (some ⟨g4,0,none⟩)]⟩:Fn1)] R22 (b5V d p day 286 288) (fun J hJ f hf x=>c1Q hJ cg4 cg6 cg7 f (by revert hf;simp;rintro (h|h)<;>simp[h]) x)) rfl rfl fun v23 I23 j23 q23=>?_
 try have hv:=hv.le j23
 try have R22:=R22.le j23
 try have cg4:=cg4.le j23
 try have cg6:=cg6.le j23
 try have cg7:=cg7.le j23
 rw[c1K (by decide)]at q23
 refine go 17 fun v27=>?_
 refine a0i (l:=[(⟨286,[.pointer (some ⟨g6,0,none⟩),.pointer (some ⟨g7,0,none⟩)]⟩:Fn1),(⟨289,[.pointer (some ⟨g4,0,none⟩)]⟩:Fn1)]) rfl rfl (.cons rfl (.one rfl)) fun I27 j27 R27=>?_;have hv:=hv.le j27;have q23:=q23.le j27;have cg4:=cg4.le j27;have cg6:=cg6.le j27;have cg7:=cg7.le j27;refine go 1 ?_;refine a0m (c8U _ v l hv hl _ [(⟨286,[.pointer (some ⟨g6,0,none⟩),.pointer (some ⟨g7,0,none⟩)]⟩:Fn1),(⟨289,[.pointer (some ⟨g4,0,none⟩)]⟩:Fn1)] R27 (b5V d p day 286 288) (fun J hJ f hf x=>c1Q hJ cg4 cg6 cg7 f (by revert hf;simp;rintro (h|h)<;>simp[h]) x)) rfl rfl fun v28 I28 j28 q28=>?_;have q23:=q23.le j28;have cg4:=cg4.le j28;rw[c1I (by decide) (by decide)]at q28
 obtain⟨A28,c28,rfl,hA28,_,_⟩:=q28;refine go 5 ?_
 refine a3A ((0:Nat)) ((0:Int)) (false) (I28) (fun i m fd J=>J)
  (fun i m fd J=>[(4,.pointer (some ⟨g4,0,none⟩)),(11,v23),(12,.int .i64 (m)),(13,.bool fd),(28,.slice A28 (a9Z d l p day).length c28),(29,.int .i64 (((a9Z d l p day).length:Nat):Int)),(30,.int .i64 ((i:Nat):Int))])
  (fun i m fd J=>[])
  (fun i m fd J=>i≤(a9Z d l p day).length∧ILe I28 J∧LeastIs (a7M d l p day i) m fd)
  (fun i m fd J=>(a9Z d l p day).length-i) ⟨Nat.zero_le _,ILe.refl _,LeastIs.nil⟩ rfl sb rfl ?_
 intro i m fd J ⟨hi,hJ,hL⟩;have hA28:=hA28.le hJ;have cg4:=cg4.le hJ;have q23:=q23.le hJ;refine gC 6 (fun h31 p31=>?_) fun h31 p31=>?_
 ·have hlt:i<(a9Z d l p day).length:=oM;obtain⟨e0,hee,hep,hed,heb⟩:=c9M hlt;have hbd:=hd e0 hee hep hed;rw[heb]at hbd
  refine go 6 ?_;obtain⟨b32,o32,w32,e32,c32,r32⟩:=RdA.at_ hA28 (i:=i) oM;obtain rfl:=r32;refine go 4 fun g15=>?_
  refine go 9 ?_;refine a0A fun Ig15 jg15 cg15=>?_;have q23:=q23.le jg15;have hA28:=hA28.le jg15;have cg4:=cg4.le jg15;refine cV (a9i _ v23 (b6w d l p day) q23 290 [.pointer (some ⟨g15,0,none⟩),.pointer (some ⟨g4,0,none⟩)] (fun n=>decide (n≥(a9Z d l p day)[i])&&decide (n≤(a9Z d l p day)[i]+d.within)) (fun n hn=>d7k _ d n _ g15 cg15 hbd hw g4 cg4)) ?_;refine go 5 ?_;refine o_v rfl (a0v he rfl (cg15 0 _ rfl)) ?_;refine go 2 ?_;refine o_v rfl (a0v he rfl (cg4 4 _ rfl)) ?_;refine gS 9 44 (fun h44 p44=>?_) fun h44 p44=>?_
  ·refine gS 3 47 (fun h47 p47=>?_) fun h47 p47=>?_
   ·refine go 20 ?_;exact a1G (i+1) ((a9Z d l p day)[i]+d.within) (true) (_) ⟨oM,hJ.trans jg15,by rw[a8H hlt (by simpa[c9d]using h44)];exact hL.less (.inl (by simpa using h47))⟩ oM rfl sb rfl
   ·refine gC 7 (fun h52 p52=>?_) fun h52 p52=>?_
    ·refine go 12 ?_;exact a1G (i+1) ((a9Z d l p day)[i]+d.within) (true) (_) ⟨oM,hJ.trans jg15,by rw[a8H hlt (by simpa[c9d]using h44)];exact hL.less (.inr p52)⟩ oM rfl sb rfl
    ·refine go 8 ?_;exact a1G (i+1) (m) (fd) (_) ⟨oM,hJ.trans jg15,by rw[a8H hlt (by simpa[c9d]using h44)];exact hL.more2 (by simpa using h47) p52⟩ oM rfl sb rfl
  ·refine go 19 ?_;exact a1G (i+1) (m) (fd) (_) ⟨oM,hJ.trans jg15,by rw[c0t hlt (by simpa[c9d]using h44)];exact hL⟩ oM rfl sb rfl
 ·refine go 15 ?_;have e:i=(a9Z d l p day).length:=oM;subst e;rw[c0s]at hL
  exact a8J (by rw[←hL.val.1,←hL.val.2])
theorem c1S (I:IMap) (vd:Value) (ds:List Dut) (hds:RdS I vd ds) (hdl:ds.length≤1000000) (hsd:∀d∈ds,SmD d) (vc:Value) (c:List Kind) (hvc:RdS I vc c) (hsc:SmC c) (v:Value) (l:List Evt) (hv:RdS I v l) (hl:l.length≤1000000) (hse:∀e∈l,SmE e) (p:ByteArray) (day:Int) :
    FnH prog 148 #[vd,.agg #[vc],v,.string p,.int .i64 (day)] I [] (fun u J H2=>∃r kvs,u = .map (some r)∧H2=[.mp r (a1A b1V kvs)]∧KeysD kvs (b1J ds c l p day)):=by
 refine enter func148 call148 rfl ntmps148 rfl fun w0=>?_;refine go 4 fun g6=>?_
 refine go 6 ?_;refine a5i (Value.string) he rfl fun r22=>?_;refine go 9 ?_;refine a0m (cAt _ vc c hvc hsc v l hv hl hse day) rfl rfl fun v27 I27 j27 q27=>?_;have hv:=hv.le j27;have hds:=hds.le j27;obtain⟨wb,rfl,hwb⟩:=q27;refine go 6 fun g12=>?_
 refine go 1 ?_;refine a0Y _ he rfl rfl rfl rfl rfl (by simp[RdS.one hwb]) ?_;refine go 9 ?_;refine a0T (a6K _ _ _ hwb p) rfl rfl fun v34 q34=>?_;obtain⟨vs34,rfl,s34,rfl,hs34⟩:=q34;refine go 5 fun g15=>?_
 refine go 1 ?_;refine a0Y _ he rfl rfl rfl rfl rfl (Enc.one (α:=Part) (x:=((a0e (a3U c l day).1 p).getD zPart)) ⟨s34,rfl,hs34⟩) ?_;refine go 5 ?_;refine a1V (I':=I27) (L':=[(0,vd),(2,v),(3,.string p),(4,.int .i64 (day)),(11,.map (some r22)),(15,.pointer (some ⟨g15,0,none⟩)),(46,.bool ((!decide ((a3U c l day).2.2=0) || !(a0e (a3U c l day).1 p).isSome)||((a0e (a3U c l day).1 p).getD zPart).scrapped))]) (H':=[.blk g15 85 (((a0e (a3U c l day).1 p).getD zPart).cells s34),.mp r22 (a1A b1V [])]) ?_ ?_
 ·refine gS 4 39 (fun h39 p39=>?_) fun h39 p39=>?_
  ·refine go 9 ?_;refine a0b ?_;refine a0a ?_;refine a0d ?_;refine a0a ?_;exact a0r ⟨rfl,rfl,rfl,rfl,rfl,rfl,(bB (by simp only[h39,bS])),trivial⟩ rfl rfl
  ·refine gS 4 43 (fun h43 p43=>?_) fun h43 p43=>?_
   ·refine go 5 ?_;refine a0b ?_;refine a0a ?_;refine a0d ?_;refine a0a ?_;exact a0r ⟨rfl,rfl,rfl,rfl,rfl,rfl,(bB (by simp only[h39,h43,bS])),trivial⟩ rfl rfl
   ·refine go 5 ?_;refine a0b ?_;refine a0a ?_;refine a0d ?_;refine a0a ?_;exact a0r ⟨rfl,rfl,rfl,rfl,rfl,rfl,(bB (by simp only[h39,h43,bS])),trivial⟩ rfl rfl
 ·refine gC 0 (fun h46 p46=>?_) fun h46 p46=>?_
  ·refine go 9 ?_;refine a0a ?_;exact a2g (fun _ m=>m) ⟨_,[],rfl,rfl,by rw[d1c h46];exact KeysD.nil⟩
  ·have hlv:=c6I h46;have hok:=(d1d hlv).1;have hda:∀e∈l,e.part=p→e.day≤day→0≤e.day∧e.day≤40000:=fun e h1 _ h2=>c9J hok h1 h2
   obtain⟨B,c1,rfl,hB,hcb,hmb⟩:=hds;refine go 11 ?_;refine a0b ?_
   refine a0B ((0:Nat)) ([]) (fun i kvs=>I27)
    (fun i kvs=>[(2,v),(3,.string p),(4,.int .i64 (day)),(11,.map (some r22)),(15,.pointer (some ⟨g15,0,none⟩)),(48,.slice B ds.length c1),(49,.int .i64 ((ds.length:Nat):Int)),(50,.int .i64 ((i:Nat):Int))])
    (fun i kvs=>[.mp r22 (a1A b1V kvs),.blk g15 85 (((a0e (a3U c l day).1 p).getD zPart).cells s34)])
    (fun i kvs=>i≤ds.length∧KeysD kvs ((ds.take i).filterMap (b2U ((a0e (a3U c l day).1 p).getD zPart).kind l p day)))
    (fun i kvs=>ds.length-i) ⟨Nat.zero_le _,KeysD.nil⟩ rfl sb rfl ?_
   intro i kvs ⟨hi,hK⟩;refine gC 6 (fun h51 p51=>?_) fun h51 p51=>?_
   ·have hlt:i<ds.length:=oM;refine go 6 ?_;obtain⟨b52,o52,w52,e52,c52,r52⟩:=RdA.at_ hB (i:=i) hlt;obtain rfl:=r52;refine go 4 fun g18=>?_
    refine go 10 fun g19=>?_
    refine go 9 ?_;refine cV (d0q _ ds[i] (hsd _ (List.getElem_mem hlt))) ?_;refine gS 2 59 (fun h59 p59=>?_) fun h59 p59=>?_
    ·refine go 19 ?_;refine a0a ?_;refine a0a ?_;exact a0o (i+1) (kvs) ⟨oM,hK.none hlt (c1T (by simpa using h59))⟩ oM rfl sb rfl
    ·refine gC 9 (fun h66 p66=>?_) fun h66 p66=>?_
     ·refine go 9 ?_;refine a0a ?_;refine a0a ?_;exact a0o (i+1) (kvs) ⟨oM,hK.none hlt (b9G (by simpa using h66))⟩ oM rfl sb rfl
     ·have hvd:a3u ds[i]=true:=by simpa using h59
      have hkd:ds[i].kind=((a0e (a3U c l day).1 p).getD zPart).kind:=by simpa using h66
      refine go 9 ?_;refine cV (d3Y _ ds[i] v l hv hl p day (b5G hvd) hda) ?_;refine gC 12 (fun h75 p75=>?_) fun h75 p75=>?_
      ·refine go 9 ?_;refine a0d ?_;refine a2S (a4I kvs (⟨p,ds[i].name,(a4a (a8G ds[i] l p day)).getD 0⟩:Due) (.bool true)) (d4u) he ((⟨p,ds[i].name,(a4a (a8G ds[i] l p day)).getD 0⟩:Due)) rfl rfl rfl (rfl) ?_;refine go 8 ?_;refine a0b ?_;refine a0a ?_;refine a0b ?_;refine a0a ?_;exact a0o (i+1) (a4I kvs (⟨p,ds[i].name,(a4a (a8G ds[i] l p day)).getD 0⟩:Due) (.bool true)) ⟨oM,hK.some hlt (c1U hvd hkd h75)⟩ oM rfl sb rfl
      ·refine go 8 ?_;refine a0a ?_;refine a0a ?_;exact a0o (i+1) (kvs) ⟨oM,hK.none hlt (c5N h75)⟩ oM rfl sb rfl
   ·refine go 13 ?_;refine a0b ?_;refine a0a ?_;have e2:i=ds.length:=oM;subst e2;rw[List.take_length]at hK
    exact a2g (fun _ m=>m) ⟨_,kvs,rfl,rfl,by rw[c0r hlv];exact hK⟩
theorem d4x (I:IMap) (S:ItS) (r:Nat) (kvs:List (ByteArray×Value)) (hO0:S.Ok Value.string kvs) (hT0:S.Todo Value.string kvs) (hS0:S.seen=#[]) (g1:Nat) (c1:ICells I g1 0 [.map (some r)]) (hmp:I r=some S.mp) :
    c0W prog 228 [.pointer (some ⟨g1,0,none⟩)] I (fun _ vs (x:ByteArray)=>vs=[.string x]) (fun pre _=>pre.length<kvs.length) (fun pre=>pre.Perm (kvs.map Prod.fst)) (fun _=>True):=by
 intro ly J I1 Hc hI1 hJm hY hJ0;have c1:=c1.le hI1;have hmp:=(hI1) _ _ hmp;refine enter func228 call228 rfl ntmps228 rfl fun w0=>?_;refine go 4 ?_;refine b3A (a8t hmp) hS0 he rfl rfl fun i5=>?_;refine go 3 ?_
 refine a5t (S) (kvs) ([]) (I1) (Hc) (fun S2 todo pre I2 Hc=>I2)
  (fun S2 todo pre I2 Hc=>[(0,.func (.yield ly) #[] #[]),(5,.pointer (some ⟨i5,0,none⟩))])
  (fun S2 todo pre I2 Hc=>.any i5 (S2.it r)::Hc)
  (fun S2 todo pre I2 Hc=>ILe I1 I2∧S2.mp=S.mp∧S2.Ok Value.string kvs∧S2.Todo Value.string todo∧(pre++todo.map Prod.fst).Perm (kvs.map Prod.fst)∧J true pre I2 Hc)
  (fun S2 todo pre I2 Hc=>todo.length) ⟨ILe.refl _,rfl,hO0,hT0,.refl _,hJ0⟩ rfl sb rfl ?_
 intro S2 todo pre I2 Hc ⟨hI2,hme,hO,hT,hP,hJ⟩;have hmp2:I2 r=some S2.mp:=by rw[hme];exact hI2 _ _ hmp
 refine go 3 ?_;refine b6A (a8t hmp2) hO hT rfl rfl fun q6 S6 t6 hst he6=>?_;refine o_v rfl (a2M rfl (b0K _ _)) ?_;refine gC 3 (fun h7 p7=>?_) fun h7 p7=>?_
 ·obtain⟨e2,a,b,htd,hO1,hT1,hA1,rfl,rfl⟩:=hst.some h7;have hmp3:I2 r=some S6.mp:=by rw[he6];exact hmp2
  refine go 5 ?_;refine o_v rfl (b9i (a8t hmp3) m0 hO1 hA1 rfl) ?_;refine o_v rfl (OV.cast (u:=.string e2.1) (a2M rfl rfl) rfl) ?_;refine go 8 ?_;refine c6T (e2.1) hY (hJm _ _ _ _ _ (ILe.refl _) hJ) (rfl) ((d0X hP htd)) rfl rfl rfl fun b12 I12 Hc12 j12 hJ12=>?_;refine gC 3 (fun h13 p13=>?_) fun h13 p13=>?_
  ·have hb12:b12=false:=by simpa using h13
   refine go 5 ?_;refine a0a ?_;subst hb12;exact c3R false _ hJ12 trivial
  ·have hb12:b12=true:=by simpa using h13
   refine go 3 ?_;exact a2Y (S6) (a++b) (pre++[e2.1]) (I12) (Hc12) ⟨hI2.trans j12,he6.trans hme,hO1,hT1,c2G hP htd,hb12▸hJ12⟩ (by rw[htd];simp) rfl sb rfl
 ·obtain⟨rfl,rfl,rfl⟩:=hst.none h7;refine go 5 ?_;refine a0a ?_;exact c3R true _ hJ (by simpa using hP)
theorem d7y (I:IMap) (r:Nat) :
    FnI prog 150 #[.map (some r)] I (fun u J=>∃g,u = .func (.func 228) #[] #[.pointer (some ⟨g,0,none⟩)]∧ICells J g 0 [.map (some r)]):=by
 refine enter func150 call150 rfl ntmps150 rfl fun w0=>?_;refine go 4 fun g1=>?_
 refine go 5 ?_;refine a0A fun Ig1 jg1 cg1=>?_;refine go 6 ?_;exact q_i ⟨_,rfl,cg1⟩
theorem c1f (I:IMap) (g:Nat) (Ls:List ByteArray) (hLs:Ls.length≤1000000) (hit:c0W prog 228 [.pointer (some ⟨g,0,none⟩)] I (fun _ vs (x:ByteArray)=>vs=[.string x]) (fun pre _=>pre.length<Ls.length) (fun pre=>pre.Perm Ls) (fun _=>True)) :
    FnH prog 291 #[.slice none 0 0,.func (.func 228) #[] #[.pointer (some ⟨g,0,none⟩)]] I [] (fun u J H2=>∃m,H2=[.row u 9 1 m.length (a1x m).flatten]∧m.Perm Ls):=by
 refine enter func291 call291 rfl ntmps291 rfl fun w0=>?_;refine go 4 fun g2=>?_
 refine go 6 ?_;refine a0E 9 1 ?_;refine go 4 ?_;refine a0b ?_;refine b0f (σ:=Value×List ByteArray) (ps:=[7]) (.slice none 0 0,[]) (fun ⟨v2,m⟩=>[.blk g2 88 [v2],.row v2 9 1 m.length (a1x m).flatten]) (fun pre I ⟨v2,m⟩=>m=pre) (fun _ _ _ _=>False) rfl call228 (hit) (fun I vs x h=>by rw[h];rfl) rfl (fun pre I I' s hI h=>by obtain⟨v2,m⟩:=s;exact h) (fun _ _ _ _ _ _ h=>h) (rfl) rfl ?_ ?_ ?_
 ·rintro r E1 pre x vs I1 ⟨v2,m⟩ hI1 rfl rfl hlt;refine c4u ?_;refine go 3 ?_;refine b1b ?_;refine go 6 fun v10=>?_
  refine go 1 ?_;refine a1y ?_;refine a0O he he rfl rfl rfl rfl rfl oM oM rfl fun v11=>?_;refine a1c fun A11 c11 hv11=>?_;subst hv11;refine go 1 ?_;refine a1y ?_;refine go 3 ?_;refine a0d ?_;refine a0a ?_;refine a0b ?_;refine a0b ?_;refine a0u ?_;refine a0u ?_;exact b5j ((.slice A11 (m.length+1) c11,m++[x])) (hI1) (rfl) (by show _=[Res.blk g2 88 [.slice A11 (m.length+1) c11],Res.row (.slice A11 (m.length+1) c11) 9 1 (m++[x]).length (a1x (m++[x])).flatten];rw[List.length_append,a8c,a8c,List.map_append];rfl)
 ·rintro D pre I1 ⟨v2,m⟩ hI1 hfull rfl;refine c4r ?_;refine go 9 ?_;refine b1a ?_;refine go 1 ?_;refine a0a ?_;refine a0a ?_;exact a2g (fun _ m=>m) ⟨m,rfl,hfull⟩
 ·rintro D pre I1 s cd hI1 hpart h;exact h.elim
theorem c5G (I:IMap) (g:Nat) (Ls:List ByteArray) (hLs:Ls.length≤1000000) (hit:c0W prog 228 [.pointer (some ⟨g,0,none⟩)] I (fun _ vs (x:ByteArray)=>vs=[.string x]) (fun pre _=>pre.length<Ls.length) (fun pre=>pre.Perm Ls) (fun _=>True)) :
    FnH prog 227 #[.func (.func 228) #[] #[.pointer (some ⟨g,0,none⟩)]] I [] (fun u J H2=>∃m,H2=[.row u 9 1 m.length (a1x m).flatten]∧m.Perm Ls):=by
 refine enter func227 call227 rfl ntmps227 rfl fun w0=>?_;refine go 9 ?_;refine a6w (c1f _ g Ls hLs hit) rfl rfl fun u4 I4 H4 j4 q4=>?_;obtain⟨m,rfl,hpm⟩:=q4;refine a6B ?_;refine go 5 ?_;exact a2g (fun _ m=>m) ⟨m,rfl,hpm⟩
theorem d2w (I:IMap) (g:Nat) (Ls:List ByteArray) (hLs:Ls.length≤1000000) (hit:c0W prog 228 [.pointer (some ⟨g,0,none⟩)] I (fun _ vs (x:ByteArray)=>vs=[.string x]) (fun pre _=>pre.length<Ls.length) (fun pre=>pre.Perm Ls) (fun _=>True)) :
    FnI prog 149 #[.func (.func 228) #[] #[.pointer (some ⟨g,0,none⟩)]] I (fun u J=>∃m,RdS J u m∧SrtP Ls m):=by
 refine enter func149 call149 rfl ntmps149 rfl fun w0=>?_;refine go 9 ?_;refine a6w (c5G _ g Ls hLs hit) rfl rfl fun u5 I5 H5 j5 q5=>?_;obtain⟨m0,rfl,hpm⟩:=q5;have hml:=hpm.length_eq;refine a6B ?_;refine go 7 ?_;refine a0Q (c8a _ _ m0 _ (a2T _ m0).flat oM) rfl rfl fun v7 s7 q7=>?_;obtain⟨rfl,m,ys,hsr,hFm,rfl⟩:=q7;refine go 10 ?_;refine a0i (l:=m) rfl hsr.1.length_eq.symm hFm fun I9 j9 R9=>?_;exact q_i ⟨m,R9,hsr.perm hpm⟩
theorem c1R (I:IMap) (vd:Value) (ds:List Dut) (hds:RdS I vd ds) (hdl:ds.length≤1000000) (hsd:∀d∈ds,SmD d) (vc:Value) (c:List Kind) (hvc:RdS I vc c) (hsc:SmC c) (v:Value) (l:List Evt) (hv:RdS I v l) (hl:l.length≤1000000) (hse:∀e∈l,SmE e) (p:ByteArray) (day:Int) :
    FnI prog 71 #[vd,.agg #[vc],v,.string p,.int .i64 (day)] I (fun u J=>RdS J u (b3q ds c l p day)):=by
 refine enter func71 call71 rfl ntmps71 rfl fun w0=>?_;refine go 4 fun g6=>?_
 refine go 6 ?_;refine a5i (Value.string) he rfl fun r13=>?_;refine go 12 ?_;refine a6w (c1S _ vd ds hds hdl hsd vc c hvc hsc v l hv hl hse p day) rfl rfl fun u19 I19 H19 j19 q19=>?_;obtain⟨r19,kvs,rfl,rfl,hK⟩:=q19;have hkl:=Nat.le_trans hK.len (b5d ds c l p day);refine a6B ?_;refine a5o fun S0 hO0 hT0 hS0=>?_;refine go 1 ?_;refine b6B hS0 he rfl rfl fun i20=>?_;refine go 3 ?_;refine a0u ?_;refine a0a ?_
 refine a3A (S0) (kvs) ([]) ([]) (fun S todo done ns=>I19)
  (fun S todo done ns=>[(4,.int .i64 (day)),(11,.map (some r13)),(20,.pointer (some ⟨i20,0,none⟩))])
  (fun S todo done ns=>[.any i20 (S.it r19),.any r19 S.mp,.mp r13 (a1A Value.string ns)])
  (fun S todo done ns=>S.Ok b1V kvs∧S.Todo b1V todo∧(done++todo).Perm kvs∧KeysN ns (a9l day done))
  (fun S todo done ns=>todo.length) ⟨hO0,hT0,.refl _,KeysN.nil⟩ rfl sb rfl ?_
 intro S todo done ns ⟨hO,hT,hP,hN⟩;have hdl2:=hP.length_eq;rw[List.length_append]at hdl2
 refine go 3 ?_;refine a0b ?_;refine a0b ?_;refine c3g hO hT rfl rfl fun q21 S21 t21 hst=>?_;refine o_v rfl (a2M rfl (b0K _ _)) ?_;refine gC 3 (fun h22 p22=>?_) fun h22 p22=>?_
 ·obtain⟨e2,a,b,htd,hO1,hT1,hA1,rfl,rfl⟩:=hst.some h22;refine go 5 ?_;refine o_v rfl (b7j m0 m1 hO1 hA1 rfl) ?_;refine o_v rfl (OV.cast (u:=.agg e2.1.cells.toArray) (a2M rfl rfl) rfl) ?_;refine go 2 fun g12=>?_
  refine gC 12 (fun h28 p28=>?_) fun h28 p28=>?_
  ·refine go 5 ?_;refine a0u ?_;refine a2S (a4I ns e2.1.rule (.bool true)) (a0H he) he (e2.1.rule) rfl rfl rfl (rfl) ?_;refine go 3 ?_;refine a0b ?_;refine a0a ?_;refine a0d ?_;refine a0d ?_;exact a1G (S21) (a++b) (done++[e2]) (a4I ns e2.1.rule (.bool true)) ⟨hO1,hT1,a5k hP htd,hN.yes p28⟩ (by rw[htd];simp) rfl sb rfl
  ·refine go 3 ?_;refine a0a ?_;exact a1G (S21) (a++b) (done++[e2]) (ns) ⟨hO1,hT1,a5k hP htd,hN.no p28⟩ (by rw[htd];simp) rfl sb rfl
 ·obtain⟨rfl,rfl,rfl⟩:=hst.none h22;have hdp:done.Perm kvs:=by simpa using hP
  have hnl:=hN.len;have hdl3:=hdp.length_eq;refine a0d ?_;refine a5o fun S1 hO2 hT2 hS2=>?_;refine b5w fun I8 j8 hmp=>?_;refine go 9 ?_;refine a0m (d7y _ r13) rfl rfl fun v33 I33 j33 q33=>?_;obtain⟨g33,rfl,cg33⟩:=q33;refine go 1 ?_;refine a0m (d2w _ g33 (ns.map Prod.fst) (by rw[List.length_map];omega) (by rw[List.length_map];exact d4x _ S1 r13 ns hO2 hT2 hS2 g33 cg33 (j33 _ _ hmp))) rfl rfl fun v34 I34 j34 q34=>?_;obtain⟨m,q34,hsr⟩:=q34;refine go 5 ?_;exact q_i (by rw[d0Z hK hdp hN hsr];exact q34)
end Go.Proofs.YtgmkjpafapgccaaGreat
namespace Go.Proofs.YtgmkjpafapgccaaGreat
open Go Go.Sx Tryz
set_option linter.all false
set_option maxRecDepth 20000
set_option maxHeartbeats 4000000
instance:Has (a6J prog 32) (34,6):=hk
instance:Has (a6J prog 51) (181,5):=hk
instance:Has (a6J prog 53) (102,3):=hk
theorem T.eqg_181:prog.eqGuardType prog.depth 181=false:=by kernel_rfl
instance:Has (a1k prog 102 0) (0,false,1):=hk
instance:Has (a1k prog 102 1) (1,false,1):=hk
instance:Has (a1k prog 102 2) (2,false,1):=hk
instance:Has (a1k prog 177 0) (0,true,14):=hk
instance:Has (a1k prog 181 3) (3,false,1):=hk
instance:Has (a1k prog 181 4) (4,false,1):=hk
instance:Has (a1k prog 34 0) (0,false,1):=hk
instance:Has (a1k prog 34 1) (1,false,1):=hk
instance:Has (a1k prog 34 2) (2,false,1):=hk
instance:Has (a1k prog 34 3) (3,false,1):=hk
instance:Has (a1k prog 34 4) (4,false,1):=hk
instance:Has (a1k prog 34 5) (5,false,1):=hk
instance:Has (a1k prog 36 0) (0,false,1):=hk
instance:Has (a1k prog 36 1) (1,false,1):=hk
instance:Has (a1k prog 36 2) (2,true,6):=hk
instance:Has (plK prog 177) [(0,14),(14,14)]:=hk
instance:Has (plK prog 181) [(0,1),(1,1),(2,1),(3,1),(4,1)]:=hk
instance:Has (plK prog 34) [(0,1),(1,1),(2,1),(3,1),(4,1),(5,1)]:=hk
instance:Has (tyK prog 102) (true,3):=hk
instance:Has (tyK prog 177) (true,28):=hk
instance:Has (tyK prog 181) (true,5):=hk
instance:Has (tyK prog 193) (false,1):=hk
instance:Has (tyK prog 32) (false,1):=hk
instance:Has (tyK prog 34) (true,6):=hk
instance T.und_32:Has (prog.underlying 32) (.slice 34):=hk
instance T.und_51:Has (prog.underlying 51) (.slice 181):=hk
instance T.und_53:Has (prog.underlying 53) (.slice 102):=hk
instance:Has (a1o prog 102) [.string ⟨#[]⟩,.string ⟨#[]⟩,.int .i64 0]:=hk
instance:Has (a1o prog 177) [.string ⟨#[]⟩,.string ⟨#[]⟩,.string ⟨#[]⟩,.string ⟨#[]⟩,.int .i64 0,.int .i64 0,.bool false,.slice none 0 0,.int .i64 0,.int .i64 0,.int .i64 0,.int .i64 0,.int .i64 0,.int .i64 0,.string ⟨#[]⟩,.string ⟨#[]⟩,.string ⟨#[]⟩,.string ⟨#[]⟩,.int .i64 0,.int .i64 0,.bool false,.slice none 0 0,.int .i64 0,.int .i64 0,.int .i64 0,.int .i64 0,.int .i64 0,.int .i64 0]:=hk
instance:Has (a1o prog 181) [.string ⟨#[]⟩,.string ⟨#[]⟩,.string ⟨#[]⟩,.string ⟨#[]⟩,.int .i64 0]:=hk
instance:Has (a1o prog 34) [.int .i64 0,.string ⟨#[]⟩,.string ⟨#[]⟩,.int .i64 0,.int .i64 0,.slice none 0 0]:=hk
theorem c2A {σ:Type} (I:IMap) (v:Value) (l:List Xp) (hv:RdS I v l) (f:FuncId) (cs:List Value) (R:σ→Res) (fo:σ→Xp→Bool×σ) (hp:∀I2,ILe I I2→∀(s:σ) (x:Xp),x∈l→∀vs,Enc.rd I2 vs x→FnG prog f ([Value.agg vs.toArray]++cs).toArray I2 (R s) fun u J r'=>u = .bool (fo s x).1∧r'=R (fo s x).2) (s:σ) :
    FnG prog 297 #[v,.func (.func f) #[] cs.toArray] I (R s) (fun u J r'=>u=ci (a2I fo s l 0).1∧r'=R (a2I fo s l 0).2):=by
 obtain⟨A,c,rfl,hA,hc,hm⟩:=hv;refine enter func297 call297 rfl ntmps297 rfl fun w0=>?_;refine go 14 ?_
 refine a4d ((0:Nat)) (s) (I) (fun i t J=>J)
  (fun i t J=>[(0,.slice A l.length c),(1,.func (.func f) #[] cs.toArray),(7,.int .i64 (l.length:Int)),(8,.int .i64 (i:Int))])
  (fun i t J=>[R t])
  (fun i t J=>i≤l.length∧ILe I J∧a2I fo s l 0=a2I fo t (l.drop i) i)
  (fun i t J=>l.length-i) ⟨Nat.zero_le _,ILe.refl _,rfl⟩ rfl sb rfl ?_
 intro i t J ⟨hi,hJ,hq⟩;have hA:=hA.le hJ;refine gC 6 (fun h9 p9=>?_) fun h9 p9=>?_
 ·have hlt:i<l.length:=oM;refine go 15 ?_;obtain⟨b14,o14,w14,e14,c14,r14⟩:=RdA.at_ hA (i:=i) hlt;refine go 1 ?_;refine o_v rfl (a0S he rfl c14 (Enc.len r14)) ?_;refine go 1 ?_;refine a1m (hp J hJ t l[i] (List.getElem_mem hlt) _ r14) rfl rfl fun v16 I16 s16 j16 q16=>?_;obtain⟨rfl,rfl⟩:=q16;refine gC 2 (fun h16 p16=>?_) fun h16 p16=>?_
  ·refine go 13 ?_;exact q_g ⟨congrArg (Value.int .i64) (by rw[hq,a9E hlt h16]),by rw[hq,a9E hlt h16]⟩
  ·refine go 8 ?_;exact a2n (i+1) ((fo t l[i]).2) (I16) ⟨oM,hJ.trans j16,hq.trans (b5r hlt h16)⟩ oM rfl sb rfl
 ·refine go 12 ?_;exact q_g ⟨congrArg (Value.int .i64) (by rw[hq,a9D oM]),by rw[hq,a9D oM]⟩
theorem b4o {σ:Type} (I:IMap) (v:Value) (l:List Xp) (hv:RdS I v l) (f:FuncId) (cs:List Value) (R:σ→Res) (fo:σ→Xp→Bool×σ) (hp:∀I2,ILe I I2→∀(s:σ) (x:Xp),x∈l→∀vs,Enc.rd I2 vs x→FnG prog f ([Value.agg vs.toArray]++cs).toArray I2 (R s) fun u J r'=>u = .bool (fo s x).1∧r'=R (fo s x).2) (s:σ) :
    FnG prog 245 #[v,.func (.func f) #[] cs.toArray] I (R s) (fun u J r'=>u = .bool (decide (0≤(a2I fo s l 0).1))∧r'=R (a2I fo s l 0).2):=by
 refine enter func245 call245 rfl ntmps245 rfl fun w0=>?_;refine go 10 ?_;refine a1m (c2A I v l hv f cs R fo hp s) rfl rfl fun v7 I7 s7 j7 q7=>?_;obtain⟨rfl,rfl⟩:=q7;refine go 6 ?_;exact q_g ⟨rfl,rfl⟩
theorem d2g {σ:Type} (I:IMap) (N:Nat) (f:FuncId) (cs:List Value) (R:σ→Res) (out:σ→Xp→Bool) (nx:σ→Xp→σ) (ih:∀I2,ILe I I2→∀(x:Xp),OkXp x→cntX x≤N→∀vs,XpRd I2 vs x→∀s,FnG prog 162 #[.agg vs.toArray,.func (.func f) #[] cs.toArray] I2 (R s) fun u J r'=>u = .bool (wkS out nx x s).1∧r'=R (wkS out nx x s).2) (x:Xp) (ho:OkXp x) (hN:cntX x≤N) (vs:List Value) (hx:XpRd I vs x) (g:Nat) (cg:ICells I g 0 [.func (.func f) #[] cs.toArray]) (s:σ) :
    FnG prog 246 #[.agg vs.toArray,.pointer (some ⟨g,0,none⟩)] I (R s) (fun u J r'=>u = .bool (!(wkS out nx x s).1)∧r'=R (wkS out nx x s).2):=by
 refine enter func246 call246 rfl ntmps246 rfl fun w0=>?_;refine go 4 fun g2=>?_
 refine go 5 ?_;refine o_v rfl (a2N m0 he rfl (Enc.len (α:=Xp) hx)) ?_;refine o_v rfl (a0v he rfl (cg 0 _ rfl)) ?_;refine go 1 ?_;refine a0b ?_;refine a1m (ih I (ILe.refl _) x ho hN vs hx s) rfl rfl fun v6 I6 s6 j6 q6=>?_;obtain⟨rfl,rfl⟩:=q6;refine go 6 ?_;refine a0b ?_;refine a0a ?_;exact q_g ⟨rfl,rfl⟩
theorem b6W {σ:Type} (I:IMap) (N:Nat) (f:FuncId) (cs:List Value) (R:σ→Res) (out:σ→Xp→Bool) (nx:σ→Xp→σ) (hV:∀I2,ILe I I2→∀(s:σ) (x:Xp) vs,OkXp x→XpRd I2 vs x→FnG prog f ([Value.agg vs.toArray]++cs).toArray I2 (R s) fun u J r'=>u = .bool (out s x)∧r'=R (nx s x)) (ih:∀I2,ILe I I2→∀(x:Xp),OkXp x→cntX x≤N→∀vs,XpRd I2 vs x→∀s,FnG prog 162 #[.agg vs.toArray,.func (.func f) #[] cs.toArray] I2 (R s) fun u J r'=>u = .bool (wkS out nx x s).1∧r'=R (wkS out nx x s).2) (x:Xp) (ho:OkXp x) (hN:cntX x≤N+1) (vs:List Value) (hx:XpRd I vs x) (s:σ) :
    FnG prog 162 #[.agg vs.toArray,.func (.func f) #[] cs.toArray] I (R s) (fun u J r'=>u = .bool (wkS out nx x s).1∧r'=R (wkS out nx x s).2):=by
 have hx0:=hx;obtain⟨sk,rfl,hk⟩:=b1v hx;refine enter func162 call162 rfl ntmps162 rfl fun w0=>?_;refine go 4 fun g2=>?_
 refine go 2 fun g3=>?_
 refine go 8 ?_;refine a0d ?_;refine a1m (hV I (ILe.refl _) s x _ ho hx0) rfl rfl fun v7 I7 s7 j7 q7=>?_;have hk:=hk.le j7;obtain⟨rfl,rfl⟩:=q7;refine gS 1 8 (fun h8 p8=>?_) fun h8 p8=>?_
 ·refine go 2 ?_;refine a0b ?_;refine a0A fun Ig3 jg3 cg3=>?_;have hk:=hk.le jg3;refine go 2 ?_;refine a0n rfl rfl h8 (a1m (b4o _ _ x.kids hk 246 [.pointer (some ⟨g3,0,none⟩)] R (wkF out nx) (fun I2 hI2 t k hk2 vs2 hx2=>d2g I2 N f cs R out nx (fun I3 hI3=>ih I3 ((j7.trans (jg3.trans hI2)).trans hI3)) k (ho.kid hk2) (by have:=a7l hk2;omega) vs2 hx2 g3 (cg3.le hI2) t) (nx s x)) rfl rfl (fun v12 I12 s12 j12 q12=>?_));obtain⟨rfl,rfl⟩:=q12;refine go 7 ?_;refine a0b ?_;refine a0a ?_;exact q_g ⟨congrArg Value.bool (by rw[c4Y h8]),by rw[c4Y h8]⟩
 ·refine go 11 ?_;refine a0b ?_;refine a0a ?_;refine a0b ?_;refine a0a ?_;exact q_g ⟨congrArg Value.bool (by rw[c9x h8]),by rw[c9x h8]⟩
theorem c9q {σ:Type} (I:IMap) (f:FuncId) (cs:List Value) (R:σ→Res) (out:σ→Xp→Bool) (nx:σ→Xp→σ) (hV:∀I2,ILe I I2→∀(s:σ) (x:Xp) vs,OkXp x→XpRd I2 vs x→FnG prog f ([Value.agg vs.toArray]++cs).toArray I2 (R s) fun u J r'=>u = .bool (out s x)∧r'=R (nx s x)) (x:Xp) (ho:OkXp x) (vs:List Value) (hx:XpRd I vs x) (s:σ) :
  FnG prog 162 #[.agg vs.toArray,.func (.func f) #[] cs.toArray] I (R s) fun u J r'=>u = .bool (wkS out nx x s).1∧r'=R (wkS out nx x s).2:=by
 have key:∀(N:Nat) (I:IMap),(∀I2,ILe I I2→∀(s:σ) (x:Xp) vs,OkXp x→XpRd I2 vs x→FnG prog f ([Value.agg vs.toArray]++cs).toArray I2 (R s) fun u J r'=>u = .bool (out s x)∧r'=R (nx s x))→∀(x:Xp),OkXp x→cntX x≤N→∀vs,XpRd I vs x→∀s,FnG prog 162 #[.agg vs.toArray,.func (.func f) #[] cs.toArray] I (R s) fun u J r'=>u = .bool (wkS out nx x s).1∧r'=R (wkS out nx x s).2:=by
  intro N
  induction N with
  |zero=>intro I _ x _ h;cases x;simp[cntX]at h
  |succ N ih=>exact fun I hV x ho hN vs hx s=>b6W I N f cs R out nx hV (fun I2 hI2 x ho h vs hx s=>ih I2 (fun I3 hI3=>hV I3 (hI2.trans hI3)) x ho h vs hx s) x ho hN vs hx s
 exact key (cntX x) I hV x ho (Nat.le_refl _) vs hx s
theorem d2e (I:IMap) (x:Xp) (vs:List Value) (hx:XpRd I vs x) (g:Nat) (n:Int) :
    FnG prog 244 #[.agg vs.toArray,.pointer (some ⟨g,0,none⟩)] I (.blk g 3 [ci n]) (fun u J r'=>u = .bool (szO n x)∧r' = .blk g 3 [ci (szN n x)]):=by
 refine enter func244 call244 rfl ntmps244 rfl fun w0=>?_;refine go 4 fun g2=>?_
 refine go 6 ?_;refine o_v rfl (b2D rfl rfl) ?_;refine go 1 ?_;refine a0b ?_;refine go 12 ?_;refine a0b ?_;refine a0a ?_;exact q_g ⟨rfl,rfl⟩
theorem d5D (I:IMap) (x:Xp) (ho:OkXp x) (vs:List Value) (hx:XpRd I vs x) :
    FnI prog 161 #[.agg vs.toArray] I (fun u J=>u=ci (c7U x)):=by
 refine enter func161 call161 rfl ntmps161 rfl fun w0=>?_;refine go 4 fun g1=>?_
 refine go 7 fun g3=>?_
 refine go 6 ?_;refine o_v rfl (a2N m1 he rfl (Enc.len (α:=Xp) hx)) ?_;refine go 2 ?_;refine a1m (c9q I 244 [.pointer (some ⟨g3,0,none⟩)] (fun n=>.blk g3 3 [ci n]) szO szN (fun I2 hI2 s x vs _ hx=>d2e I2 x vs hx g3 s) x ho vs hx 0) rfl rfl fun v6 I6 s6 j6 q6=>?_;obtain⟨rfl,rfl⟩:=q6;refine go 10 ?_;refine a0a ?_;refine a0a ?_;exact q_i rfl
theorem c7Q (I:IMap) (n low:Int) :
    FnV prog 247 #[.int .i64 (n),.int .i64 (low)] I (.bool (b3y n low)):=by
 refine enter func247 call247 rfl ntmps247 rfl fun w0=>?_;refine gS 11 8 (fun h8 p8=>?_) fun h8 p8=>?_
 ·refine go 8 ?_;exact q_v (congrArg Value.bool (by unfold b3y;rw[h8];rfl))
 ·refine go 8 ?_;exact q_v (congrArg Value.bool (by unfold b3y;rw[h8];rfl))
theorem d7V (I:IMap) (s:ByteArray) :
    FnV prog 248 #[.string s] I (.bool (decide (s∈c7I))):=by
 refine enter func248 call248 rfl ntmps248 rfl fun w0=>?_;refine go 9 fun v3=>?_
 refine a0i (l:=c7I) rfl rfl ((a6j c7I)) fun I3 j3 R3=>?_;refine go 2 ?_;refine cV (a3m _ _ c7I R3 s) ?_;refine go 5 ?_;exact a8J rfl
theorem d5C (I:IMap) (x:Xp) (ho:OkXp x) (vs:List Value) (hx:XpRd I vs x) :
    FnV prog 163 #[.agg vs.toArray] I (.bool (a4w x)):=by
 obtain⟨sk,rfl,hk⟩:=b1v hx;obtain⟨A,c0,rfl,hA,hc,hm⟩:=hk;refine enter func163 call163 rfl ntmps163 rfl fun w0=>?_;refine go 4 fun g1=>?_
 refine go 10 fun g3=>?_
 refine go 25 ?_;refine c9Q (Ix:=(fun k nm v n e ok=>I)) (Lx:=(fun k nm v n e ok=>[(1,.pointer (some ⟨g1,0,none⟩)),(3,.pointer (some ⟨g3,0,none⟩)),(4,.bool (k)),(5,.bool (nm)),(7,.bool (ok))])) (Hx:=(fun k nm v n e ok=>[.blk g3 34 [ci x.op,.string ⟨#[]⟩,.string v,ci n,ci e,.slice none 0 0],.blk g1 34 (x.cs (.slice A x.kids.length c0))])) (p:=(fun k nm v n e ok=>a3E x=some (k,nm,v,n,e,ok))) ?_ ?_
 ·refine gC 13 (fun h17 p17=>?_) fun h17 p17=>?_
  ·refine go 5 ?_;exact a3H (decide ((x.kids.length:Int)=0)) (false) (⟨#[]⟩) (0) (0) (true) (d1m p17) ⟨rfl,rfl,rfl,rfl,(bB (by simp only[h17,bS,if_true,if_false,Bool.false_eq_true])),trivial⟩ rfl rfl
  ·refine gC 6 (fun h19 p19=>?_) fun h19 p19=>?_
   ·refine go 1 ?_;refine dG 0 6 ?_;refine go 3 ?_;exact a3H (decide ((x.kids.length:Int)=1)) (false) (⟨#[]⟩) (0) (0) (true) (c3a p19) ⟨rfl,rfl,rfl,rfl,(bB (by simp only[h17,h19,bS,if_true,if_false,Bool.false_eq_true])),trivial⟩ rfl rfl
   ·refine go 1 ?_;refine a1V (I':=I) (L':=[(1,.pointer (some ⟨g1,0,none⟩)),(3,.pointer (some ⟨g3,0,none⟩)),(4,.bool (decide ((x.kids.length:Int)=0))),(5,.bool (true)),(6,.func (.func 247) #[] #[]),(7,.bool (true)),(16,ci x.op),(25,.bool (decide (x.op=3)||decide (x.op=4)))]) (H':=[.blk g3 34 [ci x.op,.string ⟨#[]⟩,.string ⟨#[]⟩,ci 0,ci 0,.slice none 0 0],.blk g1 34 (x.cs (.slice A x.kids.length c0))]) ?_ ?_
    ·refine gC 6 (fun h25 p25=>?_) fun h25 p25=>?_
     ·refine go 2 ?_;exact a0r ⟨rfl,rfl,rfl,rfl,rfl,rfl,rfl,(bB (by simp only[h17,h19,h25,bS])),trivial⟩ rfl rfl
     ·refine go 5 ?_;exact a0r ⟨rfl,rfl,rfl,rfl,rfl,rfl,rfl,(bB (by simp only[h17,h19,h25,bS])),trivial⟩ rfl rfl
    ·refine gC 0 (fun h25 p25=>?_) fun h25 p25=>?_
     ·refine go 1 ?_;refine dG 0 6 ?_;refine go 3 ?_;exact a3H (decide ((x.kids.length:Int)>1)) (false) (⟨#[]⟩) (0) (0) (true) (d1n p25) ⟨rfl,rfl,rfl,rfl,(bB (by simp only[h25,bS,if_true,if_false,Bool.false_eq_true])),trivial⟩ rfl rfl
     ·refine gC 6 (fun h32 p32=>?_) fun h32 p32=>?_
      ·refine ds1 ?_;refine dG 0 7 ?_;refine dG 14 1 ?_;refine dH 7 0 ?_;refine cV (c7Q _ x.n 0) ?_;refine dG 8 1 ?_;refine gS 0 42 (fun h42 p42=>?_) fun h42 p42=>?_
       ·refine dH 9 3 ?_;refine a0n rfl rfl h42 (a0y (c7Q _ x.extra 0) rfl rfl ?_);refine dG 13 1 ?_;refine dH 15 0 ?_;refine go 1 ?_;refine dH 16 1 ?_;refine go 1 ?_;refine dG 18 1 ?_;refine go 3 ?_;exact a3H (decide ((x.kids.length:Int)=0)) (true) (⟨#[]⟩) (x.n) (x.extra) (b3y x.n 0&&b3y x.extra 0) (b6u p32) ⟨rfl,rfl,rfl,rfl,(bB (by simp only[h25,h32,h42,bS,if_true,if_false,Bool.false_eq_true])),trivial⟩ rfl rfl
       ·refine dG 9 5 ?_;refine dH 15 0 ?_;refine go 1 ?_;refine dH 16 1 ?_;refine go 1 ?_;refine dG 18 1 ?_;refine go 3 ?_;exact a3H (decide ((x.kids.length:Int)=0)) (true) (⟨#[]⟩) (x.n) (x.extra) (b3y x.n 0&&b3y x.extra 0) (b6u p32) ⟨rfl,rfl,rfl,rfl,(bB (by simp only[h25,h32,h42,bS,if_true,if_false,Bool.false_eq_true])),trivial⟩ rfl rfl
      ·refine gC 6 (fun h50 p50=>?_) fun h50 p50=>?_
       ·refine ds1 ?_;refine dG 0 5 ?_;refine dG 6 1 ?_;refine dH 5 0 ?_;refine cV (c7Q _ x.n 0) ?_;refine dH 7 0 ?_;refine go 1 ?_;refine dG 8 1 ?_;refine go 3 ?_;exact a3H (decide ((x.kids.length:Int)=0)) (true) (⟨#[]⟩) (x.n) (0) (b3y x.n 0) (c3b p50) ⟨rfl,rfl,rfl,rfl,(bB (by simp only[h25,h32,h50,bS,if_true,if_false,Bool.false_eq_true])),trivial⟩ rfl rfl
       ·refine gC 6 (fun h59 p59=>?_) fun h59 p59=>?_
        ·refine ds1 ?_;refine dG 0 6 ?_;refine gS 0 66 (fun h66 p66=>?_) fun h66 p66=>?_
         ·refine dG 6 6 ?_;refine gS 0 72 (fun h72 p72=>?_) fun h72 p72=>?_
          ·refine dG 12 2 ?_;refine dG 17 1 ?_;refine dH 14 0 ?_;refine a0n rfl rfl h72 (a0y (d7V _ x.name) rfl rfl ?_);refine dG 15 2 ?_;refine dH 18 0 ?_;refine go 1 ?_;refine dG 19 1 ?_;refine go 3 ?_;exact a3H (decide ((x.kids.length:Int)=0)) (true) (x.value) (0) (0) ((!decide (x.value=⟨#[]⟩)&&decide (((x.value.size:Nat):Int)≤200)) && !decide (x.name∈c7I)) (b6v p59) ⟨rfl,rfl,rfl,rfl,(bB (by simp only[h25,h32,h50,h59,h66,h72,bS,if_true,if_false,Bool.false_eq_true])),trivial⟩ rfl rfl
          ·refine dH 12 6 ?_;refine go 1 ?_;refine dG 19 1 ?_;refine go 3 ?_;exact a3H (decide ((x.kids.length:Int)=0)) (true) (x.value) (0) (0) ((!decide (x.value=⟨#[]⟩)&&decide (((x.value.size:Nat):Int)≤200)) && !decide (x.name∈c7I)) (b6v p59) ⟨rfl,rfl,rfl,rfl,(bB (by simp only[h25,h32,h50,h59,h66,h72,bS,if_true,if_false,Bool.false_eq_true])),trivial⟩ rfl rfl
         ·refine dH 6 12 ?_;refine go 1 ?_;refine dG 19 1 ?_;refine go 3 ?_;exact a3H (decide ((x.kids.length:Int)=0)) (true) (x.value) (0) (0) ((!decide (x.value=⟨#[]⟩)&&decide (((x.value.size:Nat):Int)≤200)) && !decide (x.name∈c7I)) (b6v p59) ⟨rfl,rfl,rfl,rfl,(bB (by simp only[h25,h32,h50,h59,h66,bS,if_true,if_false,Bool.false_eq_true])),trivial⟩ rfl rfl
        ·refine gC 6 (fun h79 p79=>?_) fun h79 p79=>?_
         ·refine go 3 ?_;exact a3H (decide ((x.kids.length:Int)=0)) (true) (⟨#[]⟩) (0) (0) (true) (d1o p79) ⟨rfl,rfl,rfl,rfl,(bB (by simp only[h25,h32,h50,h59,h79,bS,if_true,if_false,Bool.false_eq_true])),trivial⟩ rfl rfl
         ·refine gC 6 (fun h81 p81=>?_) fun h81 p81=>?_
          ·refine ds1 ?_;refine dG 0 4 ?_;refine dG 5 1 ?_;refine dH 4 0 ?_;refine cV (a3C _ x.value ho.size.2) ?_;refine dH 6 0 ?_;refine go 1 ?_;refine dG 7 1 ?_;refine go 3 ?_;exact a3H (decide ((x.kids.length:Int)=0)) (true) (x.value) (0) (0) (a1p x.value) (d1p p81) ⟨rfl,rfl,rfl,rfl,(bB (by simp only[h25,h32,h50,h59,h79,h81,bS,if_true,if_false,Bool.false_eq_true])),trivial⟩ rfl rfl
          ·refine go 1 ?_;refine a1V (I':=I) (L':=[(1,.pointer (some ⟨g1,0,none⟩)),(3,.pointer (some ⟨g3,0,none⟩)),(4,.bool (decide ((x.kids.length:Int)=0))),(5,.bool (true)),(6,.func (.func 247) #[] #[]),(7,.bool (true)),(16,ci x.op),(89,.bool (decide (x.op=10)||decide (x.op=11)))]) (H':=[.blk g3 34 [ci x.op,.string ⟨#[]⟩,.string ⟨#[]⟩,ci 0,ci 0,.slice none 0 0],.blk g1 34 (x.cs (.slice A x.kids.length c0))]) ?_ ?_
           ·refine gC 6 (fun h89 p89=>?_) fun h89 p89=>?_
            ·refine go 2 ?_;exact a0r ⟨rfl,rfl,rfl,rfl,rfl,rfl,rfl,(bB (by simp only[h25,h32,h50,h59,h79,h81,h89,bS])),trivial⟩ rfl rfl
            ·refine go 5 ?_;exact a0r ⟨rfl,rfl,rfl,rfl,rfl,rfl,rfl,(bB (by simp only[h25,h32,h50,h59,h79,h81,h89,bS])),trivial⟩ rfl rfl
           ·refine gC 0 (fun h89 p89=>?_) fun h89 p89=>?_
            ·refine go 9 ?_;exact a3H (decide ((x.kids.length:Int)=1)) (true) (⟨#[]⟩) (0) (0) (true) (b8x p89) ⟨rfl,rfl,rfl,rfl,(bB (by simp only[h89,bS,if_true,if_false,Bool.false_eq_true])),trivial⟩ rfl rfl
            ·refine gC 6 (fun h96 p96=>?_) fun h96 p96=>?_
             ·refine ds1 ?_;refine dG 0 5 ?_;refine dG 6 1 ?_;refine dH 5 0 ?_;refine cV (c7Q _ x.n 1) ?_;refine dH 7 0 ?_;refine go 1 ?_;refine dG 8 1 ?_;refine go 3 ?_;exact a3H (decide ((x.kids.length:Int)=0)) (true) (⟨#[]⟩) (x.n) (0) (b3y x.n 1) (c6P p96) ⟨rfl,rfl,rfl,rfl,(bB (by simp only[h89,h96,bS,if_true,if_false,Bool.false_eq_true])),trivial⟩ rfl rfl
             ·refine go 9 ?_;exact q_v (congrArg Value.bool (by rw[c0i (c6Q oM)]))
 ·intro k nm v n e ok hT;refine go 1 ?_;refine a1V (I':=I) (L':=[(1,.pointer (some ⟨g1,0,none⟩)),(3,.pointer (some ⟨g3,0,none⟩)),(4,.bool (k)),(7,.bool ((if nm=true then ok&&a1p x.name else ok)))]) (H':=[.blk g3 34 [ci x.op,.string (if nm=true then x.name else ⟨#[]⟩),.string v,ci n,ci e,.slice none 0 0],.blk g1 34 (x.cs (.slice A x.kids.length c0))]) ?_ ?_
  ·refine gC 5 (fun h105 p105=>?_) fun h105 p105=>?_
   ·refine ds1 ?_;refine dG 0 4 ?_;refine gS 0 109 (fun h109 p109=>?_) fun h109 p109=>?_
    ·refine dG 4 2 ?_;refine dG 8 1 ?_;refine dH 6 0 ?_;refine a0n rfl rfl h109 (a0y (a3C _ x.name ho.size.1) rfl rfl ?_);refine dG 7 1 ?_;refine dH 9 0 ?_;refine go 1 ?_;refine dG 10 1 ?_;refine go 2 ?_;exact a0r ⟨rfl,rfl,rfl,(bB (by simp only[h105,h109,bS,if_true,if_false,Bool.false_eq_true])),trivial⟩ (by simp only[h105,h109,if_true,if_false,Bool.false_eq_true]<;>rfl) rfl
    ·refine dH 4 5 ?_;refine go 1 ?_;refine dG 10 1 ?_;refine go 2 ?_;exact a0r ⟨rfl,rfl,rfl,(bB (by simp only[h105,h109,bS,if_true,if_false,Bool.false_eq_true])),trivial⟩ (by simp only[h105,h109,if_true,if_false,Bool.false_eq_true]<;>rfl) rfl
   ·refine go 2 ?_;exact a0r ⟨rfl,rfl,rfl,(bB (by simp only[h105,bS,if_true,if_false,Bool.false_eq_true])),trivial⟩ (by simp only[h105,if_true,if_false,Bool.false_eq_true]<;>rfl) rfl
  ·refine gS 4 116 (fun h116 p116=>?_) fun h116 p116=>?_
   ·refine gS 3 119 (fun h119 p119=>?_) fun h119 p119=>?_
    ·refine gS 7 126 (fun h126 p126=>?_) fun h126 p126=>?_
     ·refine gS 7 133 (fun h133 p133=>?_) fun h133 p133=>?_
      ·refine gS 7 140 (fun h140 p140=>?_) fun h140 p140=>?_
       ·refine go 11 ?_;exact q_v (congrArg Value.bool (by rw[a2E hT];simp only[b0L,h116,h119,h126,h133,h140,bS]))
       ·refine go 11 ?_;exact q_v (congrArg Value.bool (by rw[a2E hT];simp only[b0L,h116,h119,h126,h133,h140,bS]))
      ·refine go 18 ?_;exact q_v (congrArg Value.bool (by rw[a2E hT];simp only[b0L,h116,h119,h126,h133,bS]))
     ·refine go 25 ?_;exact q_v (congrArg Value.bool (by rw[a2E hT];simp only[b0L,h116,h119,h126,bS]))
    ·refine go 32 ?_;exact q_v (congrArg Value.bool (by rw[a2E hT];simp only[b0L,h116,h119,bS]))
   ·refine go 35 ?_;exact q_v (congrArg Value.bool (by rw[a2E hT];simp only[b0L,h116,bS]))
theorem d2f (I:IMap) (r:Rul) (hr:b2J r) (vs:List Value) (hv:Enc.rd I vs r) :
    FnV prog 79 #[.agg vs.toArray] I (.bool (a5G r)):=by
 obtain⟨sk,rfl,hk⟩:=hv;have hx:=a8V hk;refine enter func79 call79 rfl ntmps79 rfl fun w0=>?_;refine go 4 fun g1=>?_
 refine go 8 ?_;refine cV (a3C _ r.name hr.1) ?_;refine gS 1 6 (fun h6 p6=>?_) fun h6 p6=>?_
 ·refine go 3 ?_;refine a0n rfl rfl h6 (a0y (a3C _ r.kind hr.2.1) rfl rfl ?_);refine gS 2 11 (fun h11 p11=>?_) fun h11 p11=>?_
  ·refine go 1 ?_;refine a0z (a0n rfl rfl h11 (a0q rfl (a1R (r.cond.cs sk) m0 he rfl rfl rfl) ?_));refine go 1 ?_;refine a0n rfl rfl h11 (a0m (d5D _ r.cond hr.2.2 _ hx) rfl rfl (fun v14 I14 j14 q14=>?_));have hx:=hx.le j14;obtain rfl:=q14;refine gS 3 17 (fun h17 p17=>?_) fun h17 p17=>?_
   ·refine go 1 ?_;refine a0z (a0n rfl rfl h17 (a0q rfl (a1R (r.cond.cs sk) m0 he rfl rfl rfl) ?_));refine go 1 ?_;refine a0E 0 0 ?_;refine a0n rfl rfl h17 (a1m (c9q _ 163 [] (fun (_:Unit)=>.row (.slice none 0 0) 0 0 0 []) (fun _ x=>a4w x) (fun s _=>s) (fun I2 hI2 s x vs ho hx=>FnG.of_V (d5C I2 x ho vs hx)) r.cond hr.2.2 _ hx ()) rfl rfl (fun v20 I20 s20 j20 q20=>?_));obtain⟨rfl,rfl⟩:=q20;refine go 6 ?_;exact a8J (congrArg Value.bool (by simp only[a5G,b2F,←wk_all _ _ (),h6,h11,h17,bS]))
   ·refine go 9 ?_;exact a8J (congrArg Value.bool (by simp only[a5G,b2F,←wk_all _ _ (),h6,h11,h17,bS]))
  ·refine go 15 ?_;exact a8J (congrArg Value.bool (by simp only[a5G,b2F,←wk_all _ _ (),h6,h11,bS]))
 ·refine go 20 ?_;exact a8J (congrArg Value.bool (by simp only[a5G,b2F,←wk_all _ _ (),h6,bS]))
theorem b0C (I:IMap) (t:Int) :
    FnV prog 249 #[.int .i64 (t)] I (.int .i64 (trT t)):=by
 refine enter func249 call249 rfl ntmps249 rfl fun w0=>?_;refine gC 19 (fun h4 p4=>?_) fun h4 p4=>?_
 ·refine gC 2 (fun h4 p4=>?_) fun h4 p4=>?_
  ·refine go 10 ?_;exact q_v (congrArg (Value.int .i64) (by unfold trT;rw[if_pos oM]))
  ·refine go 10 ?_;exact q_v (congrArg (Value.int .i64) (by unfold trT;rw[if_neg oM]))
 ·refine gC 5 (fun h4 p4=>?_) fun h4 p4=>?_
  ·refine go 10 ?_;exact q_v (congrArg (Value.int .i64) (by unfold trT;rw[if_pos oM]))
  ·refine go 10 ?_;exact q_v (congrArg (Value.int .i64) (by unfold trT;rw[if_neg oM]))
theorem d4s (I:IMap) (t:Int) :
    FnV prog 166 #[.int .i64 (t)] I (.int .i64 (d4J t)):=by
 have ht:=b5z t;refine enter func166 call166 rfl ntmps166 rfl fun w0=>?_;refine go 9 ?_;refine cV (b0C _ t) ?_;refine go 6 ?_;exact q_v rfl
theorem d4r (I:IMap) (a b:Int) :
    FnV prog 167 #[.int .i64 (a),.int .i64 (b)] I (.int .i64 (b3Y a b)):=by
 refine enter func167 call167 rfl ntmps167 rfl fun w0=>?_;refine go 9 ?_;refine cV (b0C _ a) ?_;refine go 2 ?_;refine cV (b0C _ b) ?_;refine o_v rfl (d5S rfl rfl) ?_;refine go 5 ?_;exact q_v (congrArg (Value.int .i64) (by unfold b3Y;split<;>omega))
theorem d8r (I:IMap) (a b:Int) :
    FnV prog 168 #[.int .i64 (a),.int .i64 (b)] I (.int .i64 (orT a b)):=by
 refine enter func168 call168 rfl ntmps168 rfl fun w0=>?_;refine go 9 ?_;refine cV (b0C _ a) ?_;refine go 2 ?_;refine cV (b0C _ b) ?_;refine o_v rfl (d2S rfl rfl) ?_;refine go 5 ?_;exact q_v (congrArg (Value.int .i64) (by unfold orT;split<;>omega))
theorem b3u (I:IMap) (b:Bool) :
    FnV prog 171 #[.bool b] I (.int .i64 (c8q b)):=by
 refine enter func171 call171 rfl ntmps171 rfl fun w0=>?_;refine gC 11 (fun h3 p3=>?_) fun h3 p3=>?_
 ·refine go 8 ?_;exact q_v (congrArg (Value.int .i64) (by rw[h3];rfl))
 ·refine go 9 ?_;exact q_v (congrArg (Value.int .i64) (by rw[h3];rfl))
theorem c7X (I:IMap) (v:Value) (l:List Cnc) (hv:RdS I v l) (f:FuncId) (cs:List Value) (p:Cnc→Bool) (hp:∀x∈l,∀vs,Enc.rd I vs x→FnV prog f ([Value.agg vs.toArray]++cs).toArray I (.bool (p x))) :
    FnV prog 82 #[v,.func (.func f) #[] cs.toArray] I (.bool (l.any p)):=by
 obtain⟨A,c,rfl,hA,hc,hm⟩:=hv;refine enter func82 call82 rfl ntmps82 rfl fun w0=>?_;refine go 14 ?_
 refine a0x (α:=Nat) 0 (fun i=>I)
  (fun i=>[(0,.slice A l.length c),(1,.func (.func f) #[] cs.toArray),(7,.slice A l.length c),(8,.int .i64 (l.length:Int)),(9,.int .i64 (i:Int))])
  (fun i=>[])
  (fun i=>i≤l.length∧∀j x,j<i→l[j]? = some x→p x=false)
  (fun i=>l.length-i) ⟨Nat.zero_le _,fun j x hj=>absurd hj (Nat.not_lt_zero j)⟩ rfl sb rfl ?_
 intro i ⟨hi,hn⟩;refine gC 6 (fun h10 p10=>?_) fun h10 p10=>?_
 ·have hlt:i<l.length:=oM;refine go 6 ?_;obtain⟨b11,o11,w11,e11,c11,r11⟩:=RdA.at_ hA (i:=i) hlt;refine go 1 ?_;refine o_v rfl (a0S he rfl c11 (Enc.len r11)) ?_;refine go 2 fun g6=>?_
  refine go 1 ?_;refine a0Y _ he rfl rfl rfl (Enc.len r11) rfl (Enc.one r11) ?_;refine go 5 ?_;refine o_v rfl (a2N m0 he rfl (Enc.len r11)) ?_;refine go 1 ?_;refine cV (hp _ (List.getElem_mem hlt) _ r11) ?_;refine gC 2 (fun h15 p15=>?_) fun h15 p15=>?_
  ·refine go 12 ?_;exact q_v (congrArg Value.bool (b2L hlt p15).symm)
  ·refine go 8 ?_;refine a0a ?_;exact a0w (i+1) ⟨oM,a1W hn hlt p15⟩ oM rfl sb rfl
 ·refine go 12 ?_;exact q_v (congrArg Value.bool (b5P hn oM).symm)
theorem c7Y (I:IMap) (v:Value) (l:List Sbu) (hv:RdS I v l) (f:FuncId) (cs:List Value) (p:Sbu→Bool) (hp:∀x∈l,∀vs,Enc.rd I vs x→FnV prog f ([Value.agg vs.toArray]++cs).toArray I (.bool (p x))) :
    FnV prog 85 #[v,.func (.func f) #[] cs.toArray] I (.bool (l.any p)):=by
 obtain⟨A,c,rfl,hA,hc,hm⟩:=hv;refine enter func85 call85 rfl ntmps85 rfl fun w0=>?_;refine go 14 ?_
 refine a0x (α:=Nat) 0 (fun i=>I)
  (fun i=>[(0,.slice A l.length c),(1,.func (.func f) #[] cs.toArray),(7,.slice A l.length c),(8,.int .i64 (l.length:Int)),(9,.int .i64 (i:Int))])
  (fun i=>[])
  (fun i=>i≤l.length∧∀j x,j<i→l[j]? = some x→p x=false)
  (fun i=>l.length-i) ⟨Nat.zero_le _,fun j x hj=>absurd hj (Nat.not_lt_zero j)⟩ rfl sb rfl ?_
 intro i ⟨hi,hn⟩;refine gC 6 (fun h10 p10=>?_) fun h10 p10=>?_
 ·have hlt:i<l.length:=oM;refine go 6 ?_;obtain⟨b11,o11,w11,e11,c11,r11⟩:=RdA.at_ hA (i:=i) hlt;refine go 1 ?_;refine o_v rfl (a0S he rfl c11 (Enc.len r11)) ?_;refine go 2 fun g6=>?_
  refine go 1 ?_;refine a0Y _ he rfl rfl rfl (Enc.len r11) rfl (Enc.one r11) ?_;refine go 5 ?_;refine o_v rfl (a2N m0 he rfl (Enc.len r11)) ?_;refine go 1 ?_;refine cV (hp _ (List.getElem_mem hlt) _ r11) ?_;refine gC 2 (fun h15 p15=>?_) fun h15 p15=>?_
  ·refine go 12 ?_;exact q_v (congrArg Value.bool (b2L hlt p15).symm)
  ·refine go 8 ?_;refine a0a ?_;exact a0w (i+1) ⟨oM,a1W hn hlt p15⟩ oM rfl sb rfl
 ·refine go 12 ?_;exact q_v (congrArg Value.bool (b5P hn oM).symm)
theorem c4g (I:IMap) (v:Value) (l:List Part) (hv:RdS I v l) (f:FuncId) (cs:List Value) (p:Part→Bool) (hp:∀x∈l,∀vs,Enc.rd I vs x→FnV prog f ([Value.agg vs.toArray]++cs).toArray I (.bool (p x))) :
    FnV prog 179 #[v,.func (.func f) #[] cs.toArray] I (.bool (l.any p)):=by
 obtain⟨A,c,rfl,hA,hc,hm⟩:=hv;refine enter func179 call179 rfl ntmps179 rfl fun w0=>?_;refine go 14 ?_
 refine a0x (α:=Nat) 0 (fun i=>I)
  (fun i=>[(0,.slice A l.length c),(1,.func (.func f) #[] cs.toArray),(7,.slice A l.length c),(8,.int .i64 (l.length:Int)),(9,.int .i64 (i:Int))])
  (fun i=>[])
  (fun i=>i≤l.length∧∀j x,j<i→l[j]? = some x→p x=false)
  (fun i=>l.length-i) ⟨Nat.zero_le _,fun j x hj=>absurd hj (Nat.not_lt_zero j)⟩ rfl sb rfl ?_
 intro i ⟨hi,hn⟩;refine gC 6 (fun h10 p10=>?_) fun h10 p10=>?_
 ·have hlt:i<l.length:=oM;refine go 6 ?_;obtain⟨b11,o11,w11,e11,c11,r11⟩:=RdA.at_ hA (i:=i) hlt;refine go 1 ?_;refine o_v rfl (a0S he rfl c11 (Enc.len r11)) ?_;refine go 2 fun g6=>?_
  refine go 1 ?_;refine a0Y _ he rfl rfl rfl (Enc.len r11) rfl (Enc.one r11) ?_;refine go 5 ?_;refine o_v rfl (a2N m0 he rfl (Enc.len r11)) ?_;refine go 1 ?_;refine cV (hp _ (List.getElem_mem hlt) _ r11) ?_;refine gC 2 (fun h15 p15=>?_) fun h15 p15=>?_
  ·refine go 12 ?_;exact q_v (congrArg Value.bool (b2L hlt p15).symm)
  ·refine go 8 ?_;refine a0a ?_;exact a0w (i+1) ⟨oM,a1W hn hlt p15⟩ oM rfl sb rfl
 ·refine go 12 ?_;exact q_v (congrArg Value.bool (b5P hn oM).symm)
theorem d7f (I:IMap) (x:Cnc) (p r:ByteArray) (day:Int) (g5 g6 g7:Nat) (c5:ICells I g5 0 [.string p]) (c6:ICells I g6 0 [.string r]) (c7:ICells I g7 0 [.int .i64 (day)]) :
    FnV prog 83 #[.agg x.cells.toArray,.pointer (some ⟨g5,0,none⟩),.pointer (some ⟨g6,0,none⟩),.pointer (some ⟨g7,0,none⟩)] I (.bool (b1T p r day x)):=by
 refine enter func83 call83 rfl ntmps83 rfl fun w0=>?_;refine go 4 fun g4=>?_
 refine gS 10 10 (fun h10 p10=>?_) fun h10 p10=>?_
 ·refine gS 6 16 (fun h16 p16=>?_) fun h16 p16=>?_
  ·refine go 10 ?_;exact q_v (congrArg Value.bool (by simp only[b1T,h10,h16,bS]))
  ·refine go 10 ?_;exact q_v (congrArg Value.bool (by simp only[b1T,h10,h16,bS]))
 ·refine go 16 ?_;exact q_v (congrArg Value.bool (by simp only[b1T,h10,bS]))
theorem b7F (I:IMap) (v:Value) (l:List Cnc) (hv:RdS I v l) (p r:ByteArray) (day:Int) :
    FnV prog 27 #[v,.string p,.string r,.int .i64 (day)] I (.bool (b6b l p r day)):=by
 refine enter func27 call27 rfl ntmps27 rfl fun w0=>?_;refine go 4 fun g5=>?_
 refine go 2 fun g6=>?_
 refine go 2 fun g7=>?_
 refine go 6 ?_;refine a0d ?_;refine a0A fun Ig5 jg5 cg5=>?_;have hv:=hv.le jg5;refine a0b ?_;refine a0A fun Ig6 jg6 cg6=>?_;have hv:=hv.le jg6;have cg5:=cg5.le jg6;refine a0A fun Ig7 jg7 cg7=>?_;have hv:=hv.le jg7;have cg5:=cg5.le jg7;have cg6:=cg6.le jg7;refine go 2 ?_;refine cV (c7X _ v l hv 83 [.pointer (some ⟨g5,0,none⟩),.pointer (some ⟨g6,0,none⟩),.pointer (some ⟨g7,0,none⟩)] (b1T p r day) (fun x _ vs hx=>by cases hx;exact d7f _ x p r day g5 g6 g7 cg5 cg6 cg7)) ?_;refine go 5 ?_;exact a8J rfl
theorem c1v (I:IMap) (vc:Value) (c:List Kind) (hvc:RdS I vc c) (k s p:ByteArray) :
    FnV prog 84 #[.agg #[vc],.string k,.string s,.string p] I (.bool (a6X c k s p)):=by
 refine enter func84 call84 rfl ntmps84 rfl fun w0=>?_;refine go 4 fun g4=>?_
 refine go 9 ?_;refine a0T (c1w I _ c hvc k s) rfl rfl fun v16 q16=>?_;obtain⟨vs,rfl,ss,rfl,hsl⟩:=q16;refine go 5 fun g9=>?_
 refine go 1 ?_;refine a0Y _ he rfl rfl rfl rfl rfl (by simp[Slot.cells,hsl.one];exact⟨rfl,rfl⟩) ?_;refine go 9 ?_;refine cV (a8Z I _ _ hsl p) ?_;refine gS 7 24 (fun h24 p24=>?_) fun h24 p24=>?_
 ·refine gS 4 28 (fun h28 p28=>?_) fun h28 p28=>?_
  ·refine go 10 ?_;exact q_v (congrArg Value.bool (by simp only[a6X,h24,h28,bS]))
  ·refine go 10 ?_;exact q_v (congrArg Value.bool (by simp only[a6X,h24,h28,bS]))
 ·refine go 14 ?_;exact q_v (congrArg Value.bool (by simp only[a6X,h24,bS]))
theorem d0u (a b:Sbu):eqV prog 9 181 (.agg a.cells.toArray) (.agg b.cells.toArray)=some (decide (a=b)):=by
 rw[←Sbu.eqB_eq]
 kernel_rfl
theorem d7e (I:IMap) (x p h:Part) (vs:List Value) (hx:Enc.rd I vs x) (q q2:Value) (s:ByteArray) (g1 g2:Nat) (c1:ICells I g1 0 (p.cells q++h.cells q2)) (c2:ICells I g2 0 [.string s]) :
    FnV prog 180 #[.agg vs.toArray,.pointer (some ⟨g1,0,none⟩),.pointer (some ⟨g2,0,none⟩)] I (.bool (b0a p s x)):=by
 obtain⟨qx,rfl,hqx⟩:=hx;refine enter func180 call180 rfl ntmps180 rfl fun w0=>?_;refine go 4 fun g3=>?_
 refine gS 12 11 (fun h11 p11=>?_) fun h11 p11=>?_
 ·refine gS 6 17 (fun h17 p17=>?_) fun h17 p17=>?_
  ·refine go 12 ?_;exact q_v (congrArg Value.bool (by simp only[b0a,h11,h17,bS]))
  ·refine go 12 ?_;exact q_v (congrArg Value.bool (by simp only[b0a,h11,h17,bS]))
 ·refine go 18 ?_;exact q_v (congrArg Value.bool (by simp only[b0a,h11,bS]))
theorem c5E (I:IMap) (p h:Part) (q q2:Value) (hq:q.oneCell'=true) (hq2:q2.oneCell'=true) (v:Value) (l:List Part) (hv:RdS I v l) (s:ByteArray) :
    FnV prog 87 #[.agg (p.cells q++h.cells q2).toArray,.agg #[v],.string s] I (.bool (l.any (b0a p s))):=by
 refine enter func87 call87 rfl ntmps87 rfl fun w0=>?_;refine go 4 fun g3=>?_
 refine go 2 fun g4=>?_
 refine go 2 fun g5=>?_
 refine go 7 ?_;refine a0d ?_;refine a0A fun Ig3 jg3 cg3=>?_;have hv:=hv.le jg3;refine a0A fun Ig5 jg5 cg5=>?_;have hv:=hv.le jg5;have cg3:=cg3.le jg5;refine go 2 ?_;refine cV (c4g _ v l hv 180 [.pointer (some ⟨g3,0,none⟩),.pointer (some ⟨g5,0,none⟩)] (b0a p s) (fun x _ vs hx=>d7e _ x p h vs hx q q2 s g3 g5 cg3 cg5)) ?_;refine go 5 ?_;exact a8J rfl
theorem d7g (I:IMap) (u:Sbu) (p h:Part) (q q2:Value) (hq:q.oneCell'=true) (hq2:q2.oneCell'=true) (v:Value) (l:List Part) (hv:RdS I v l) (day:Int) (g1 g2 g3 g4:Nat) (c1:ICells I g1 0 (h.cells q2)) (c2:ICells I g2 0 (p.cells q++h.cells q2)) (c3:ICells I g3 0 [.int .i64 (day)]) (c4:ICells I g4 0 [v]) :
    FnV prog 86 #[.agg u.cells.toArray,.pointer (some ⟨g1,0,none⟩),.pointer (some ⟨g2,0,none⟩),.pointer (some ⟨g3,0,none⟩),.pointer (some ⟨g4,0,none⟩)] I (.bool (a9d l p h day u)):=by
 refine enter func86 call86 rfl ntmps86 rfl fun w0=>?_;refine go 4 fun g5=>?_
 refine go 20 fun g7=>?_
 refine go 8 ?_;refine o_v rfl (b1n T.eqg_181 (d0u u ⟨h.kind,p.slot,p.kind,u.twin,u.to⟩) rfl rfl) ?_;refine gS 1 24 (fun h24 p24=>?_) fun h24 p24=>?_
 ·refine gS 6 30 (fun h30 p30=>?_) fun h30 p30=>?_
  ·refine gS 4 34 (fun h34 p34=>?_) fun h34 p34=>?_
   ·refine go 12 ?_;exact q_v (congrArg Value.bool (by simp only[a9d,h24,h30,h34,bS]))
   ·refine go 5 ?_;refine a0n rfl rfl h34 (a0y (c5E _ p h q q2 hq hq2 v l hv u.twin) rfl rfl ?_);refine go 7 ?_;exact q_v (congrArg Value.bool (by simp only[a9d,h24,h30,h34,bS]))
  ·refine go 16 ?_;exact q_v (congrArg Value.bool (by simp only[a9d,h24,h30,bS]))
 ·refine go 22 ?_;exact q_v (congrArg Value.bool (by simp only[a9d,h24,bS]))
theorem b0l (I:IMap) (vc:Value) (c:List Kind) (hvc:RdS I vc c) (w:Value) (subs:List Sbu) (hw:RdS I w subs) (v:Value) (l:List Part) (hv:RdS I v l) (p:ByteArray) (day:Int) :
    FnV prog 28 #[.agg #[vc],w,.agg #[v],.string p,.int .i64 (day)] I (.bool (a9o c subs l p day)):=by
 refine enter func28 call28 rfl ntmps28 rfl fun w0=>?_;refine go 4 fun g5=>?_
 refine go 2 fun g7=>?_
 refine go 2 fun g9=>?_
 refine go 8 ?_;refine a0T (a6K _ _ l hv p) rfl rfl fun v18 q18=>?_;obtain⟨vs18,rfl,s18,rfl,hs18⟩:=q18;refine go 5 fun g11=>?_
 refine go 1 ?_;refine a0Y _ he rfl rfl rfl rfl rfl (Enc.one (α:=Part) (x:=((a0e l p).getD zPart)) ⟨s18,rfl,hs18⟩) ?_;refine gS 9 23 (fun h23 p23=>?_) fun h23 p23=>?_
 ·refine go 16 ?_;exact q_v (congrArg Value.bool (c3D (by simp only[h23,bS])).symm)
 ·refine gC 6 (fun h27 p27=>?_) fun h27 p27=>?_
  ·refine go 9 ?_;exact q_v (congrArg Value.bool (c3D (by simp only[h23,h27,bS])).symm)
  ·refine go 8 ?_;refine a0T (a6K _ _ l hv ((a0e l p).getD zPart).into) rfl rfl fun v33 q33=>?_;obtain⟨vs33,rfl,s33,rfl,hs33⟩:=q33;refine go 5 fun g13=>?_
   refine go 1 ?_;refine a0Y _ he rfl rfl rfl rfl rfl (Enc.one (α:=Part) (x:=((a0e l ((a0e l p).getD zPart).into).getD zPart)) ⟨s33,rfl,hs33⟩) ?_;refine go 10 fun g14=>?_
   refine go 1 ?_;refine a0Y _ he rfl rfl rfl rfl rfl (d2I hs18 hs33) ?_;refine gC 11 (fun h39 p39=>?_) fun h39 p39=>?_
   ·refine go 9 ?_;exact q_v (congrArg Value.bool (d1D (by simp only[h23,h27,h39,bS]) p39).symm)
   ·refine go 12 ?_;refine cV (c1v _ vc c hvc ((a0e l ((a0e l p).getD zPart).into).getD zPart).kind ((a0e l p).getD zPart).slot ((a0e l p).getD zPart).kind) ?_;refine gC 3 (fun h42 p42=>?_) fun h42 p42=>?_
    ·refine go 9 ?_;exact q_v (congrArg Value.bool (d1E (by simp only[h23,h27,h39,h42,bS]) p39 h42).symm)
    ·refine go 6 ?_;refine a0b ?_;refine a0A fun Ig13 jg13 cg13=>?_;have hw:=hw.le jg13;have hv:=hv.le jg13;refine a0A fun Ig14 jg14 cg14=>?_;have hw:=hw.le jg14;have hv:=hv.le jg14;have cg13:=cg13.le jg14;refine a0b ?_;refine a0A fun Ig9 jg9 cg9=>?_;have hw:=hw.le jg9;have hv:=hv.le jg9;have cg13:=cg13.le jg9;have cg14:=cg14.le jg9;refine a0b ?_;refine a0A fun Ig7 jg7 cg7=>?_;have hw:=hw.le jg7;have hv:=hv.le jg7;have cg13:=cg13.le jg7;have cg14:=cg14.le jg7;have cg9:=cg9.le jg7;refine go 2 ?_;refine cV (c7Y _ w subs hw 86 [.pointer (some ⟨g13,0,none⟩),.pointer (some ⟨g14,0,none⟩),.pointer (some ⟨g9,0,none⟩),.pointer (some ⟨g7,0,none⟩)] (a9d l ((a0e l p).getD zPart) ((a0e l ((a0e l p).getD zPart).into).getD zPart) day) (fun x _ vs hx=>by cases hx;exact d7g _ x ((a0e l p).getD zPart) ((a0e l ((a0e l p).getD zPart).into).getD zPart) s18 s33 (RdS.one hs18) (RdS.one hs33) v l hv day g13 g14 g9 g7 cg13 cg14 cg9 cg7)) ?_;refine go 5 ?_;exact a8J (congrArg Value.bool (d1F (by simp only[h23,h27,h39,h42,bS]) p39 h42).symm)
end Go.Proofs.YtgmkjpafapgccaaGreat
namespace Go.Proofs.YtgmkjpafapgccaaGreat
open Go Go.Sx Tryz
set_option linter.all false
set_option maxRecDepth 20000
set_option maxHeartbeats 4000000
theorem T.eqg_234:prog.eqGuardType prog.depth 234=false:=by kernel_rfl
instance:Has (a1k prog 172 0) (0,true,1):=hk
theorem b1z (I:IMap) (v:Value) (l:List ByteArray) (hl:l.length≤1000000) (f:FuncId) (cs:List Value) (p:ByteArray→Bool) (hp:∀I2,ILe I I2→∀x:ByteArray,FnV prog f ([Value.string x]++cs).toArray I2 (.bool (p x))) :
    FnD prog 254 #[v,.func (.func f) #[] cs.toArray] I (.row v 9 1 l.length (a1x l).flatten) (fun u J=>RdS J u (l.filter fun x=>!p x)):=by
 refine enter func254 call254 rfl ntmps254 rfl fun w0=>?_;refine go 10 ?_;refine b0P m0 rfl rfl ((a2T _ l).flat) (fun I2 hI2 hR=>a5H I2 _ l hR f cs p (fun x _ vs hx=>hp I2 hI2 x)) rfl rfl ?_;refine gC 10 (fun h12 p12=>?_) fun h12 p12=>?_
 ·refine go 9 ?_
  have hall:l.filter (fun x=>!p x)=l:=by
    rw[List.filter_eq_self];intro x hx;have:=a2Q p l;rw[show decide (0≤a4G p l)=false from by rw[p12];rfl]at this
    simpa using List.any_eq_false.1 this.symm x hx
  refine a0i (l:=l) rfl rfl (a2T _ l).flat fun J hJ R=>?_;exact q_d (by rw[hall];exact R)
 ·obtain⟨i0,hi0,hx0,hp0,hn0⟩:∃(i:Nat) (h:i<l.length),a4G p l=(i:Int)∧p l[i]=true∧∀j x,j<i→l[j]? = some x→p x=false:=by
    rcases a5f p l with ⟨h1,_⟩|⟨i,hi,h1,h2⟩
    · exfalso;have:=p12;have : -1≤a4G p l:=c2x p l;omega
    · rw[List.find?_eq_some_iff_getElem]at h2
      obtain⟨h3,k,hk,h4,h5⟩:=h2;obtain⟨h6,h7⟩:=b7W h1 hi;exact⟨i,hi,h1,h6,h7⟩
  refine a6O (a1Z l) (a2t l) (fun h0 _=>oM) fun g cap rest hv hR hcap hmax=>?_;subst hv;have hcap1:l.length≤cap:=oM;refine go 6 ?_;refine o_v rfl (OV.cast (u:=.int .i64 ((i0+1:Nat):Int)) (a2u rfl rfl ⟨oM,oM⟩) (congrArg (Value.int .i64) (by rw[hx0];omega))) ?_;refine go 4 ?_
  refine a4d (i0) (i0+1) (l) (fun i j m=>I)
   (fun i j m=>[(0,.slice (some ⟨g,0,none⟩) l.length cap),(1,.func (.func f) #[] cs.toArray),(5,.int .i64 ((i:Nat):Int)),(6,.int .i64 ((j:Nat):Int))])
   (fun i j m=>[.blk g 9 (a1x m++rest).flatten])
   (fun i j m=>Del p l m i j)
   (fun i j m=>l.length-j) (Del.start hi0 hp0 hn0) rfl ⟨rfl,rfl,congrArg (fun z:Int=>some (Value.int .i64 z)) hx0,rfl,trivial⟩ rfl ?_
  intro i j m hD;have hml:=hD.len;have hij:=hD.le;have hjl:=hD.hj;refine gC 9 (fun h19 p19=>?_) fun h19 p19=>?_
  ·have hlt:j<l.length:=oM;have hjm:j<m.length:=oM;have hat:=hD.at_ hlt;refine go 8 ?_;refine o_v rfl (a0l he rfl rfl rfl (j) oM oM) ?_;refine o_v rfl (a5P m0 ((a1Z _).append hR) he rfl (j) oM (a5K hjm)) ?_;refine go 8 ?_;refine cV (hp _ (ILe.refl _) _) ?_;refine gC 3 (fun h29 p29=>?_) fun h29 p29=>?_
   ·refine go 5 ?_;refine o_v rfl (a0l he rfl rfl rfl (i) oM oM) ?_;refine go 1 ?_;refine a1U _ (i) ((a1Z _).append hR) he rfl rfl rfl rfl rfl oM (by simp[a2t];omega) ?_;refine go 4 ?_;refine o_v rfl (OV.cast (u:=.int .i64 ((i+1:Nat):Int)) (a2u rfl rfl ⟨oM,oM⟩) (congrArg (Value.int .i64) oM)) ?_;refine go 6 ?_;refine o_v rfl (OV.cast (u:=.int .i64 ((j+1:Nat):Int)) (a2u rfl rfl ⟨oM,oM⟩) (congrArg (Value.int .i64) oM)) ?_;refine go 3 ?_;exact a2n (i+1) (j+1) (m.set i l[j]) (hD.keep hlt (by simpa[hat]using p29)) oM rfl sb (by rw[←a8O oM,hat])
   ·refine go 5 ?_;refine o_v rfl (OV.cast (u:=.int .i64 ((j+1:Nat):Int)) (a2u rfl rfl ⟨oM,oM⟩) (congrArg (Value.int .i64) oM)) ?_;refine go 3 ?_;exact a2n (i) (j+1) (m) (hD.skip hlt (by simpa[hat]using p29)) oM rfl sb rfl
  ·obtain rfl:j=l.length:=oM;have hfi:m.take i=l.filter fun x=>!p x:=by have:=hD.fst;rwa[List.take_length]at this
   refine go 9 ?_;refine o_v rfl (a0L he rfl rfl i rfl oM) ?_;refine go 1 ?_;refine b6y i he he rfl rfl rfl rfl ((a1Z _).append hR) (fun _=>a1z (k:=1) oM) (by simp[a2t];omega) ?_;refine go 6 ?_;refine o_v rfl (a2F he rfl rfl i rfl oM) ?_;refine go 5 ?_;have htk:(a1x m++rest).take i=a1x (l.filter fun x=>!p x):=by rw[List.take_append_of_le_length (by rw[a2t];omega),←hfi,a1x,a1x,List.map_take]
   have hll:(l.filter fun x=>!p x).length=i:=by rw[←hfi,List.length_take];omega
   rw[htk];refine a2e (m:=i) (cap:=cap) (a1Z _) ((Uk.rep (c:=[.string ⟨#[]⟩]) rfl _).append (Uk.drop ((a1Z _).append hR) _)) (by rw[a2t,hll]) (by simp[a2t];omega) hmax ?_;refine a0i (l:=l.filter fun x=>!p x) rfl hll.symm (a2T _ _).flat fun J hJ R=>?_;exact q_d R
theorem c2B (I:IMap) (v:Value) (l:List Prp) (hv:RdS I v l) (s:Prp) :
    FnV prog 252 #[v,.agg s.cells.toArray] I (.int .i64 (a4G (fun x=>decide (s=x)) l)):=by
 obtain⟨A,c,rfl,hA,hc,hm⟩:=hv;refine enter func252 call252 rfl ntmps252 rfl fun w0=>?_;refine go 4 fun g3=>?_
 refine go 12 ?_
 refine a0x (α:=Nat) 0 (fun i=>I)
  (fun i=>[(3,.pointer (some ⟨g3,0,none⟩)),(0,.slice A l.length c),(7,.int .i64 (l.length:Int)),(8,.int .i64 (i:Int))])
  (fun i=>[.blk g3 234 s.cells])
  (fun i=>i≤l.length∧∀j x,j<i→l[j]? = some x→decide (s=x)=false)
  (fun i=>l.length-i) ⟨Nat.zero_le _,fun j x hj=>absurd hj (Nat.not_lt_zero j)⟩ rfl sb rfl ?_
 intro i ⟨hi,hn⟩;refine gC 6 (fun h9 p9=>?_) fun h9 p9=>?_
 ·have hlt:i<l.length:=oM;refine go 12 ?_;refine dG 0 3 ?_;obtain⟨b14,o14,w14,e14,c14,r14⟩:=RdA.at_ hA (i:=i) hlt;obtain rfl:=r14;refine dG 3 2 ?_;refine a0F 5 rfl rfl (by kernel_rfl) rfl (.refl _) rfl (b1n T.eqg_234 (d0t s l[i]) rfl rfl) ?_;refine gC 2 (fun h16 p16=>?_) fun h16 p16=>?_
  ·refine go 13 ?_;exact q_v (congrArg (Value.int .i64) (a1J hlt h16 hn).symm)
  ·refine go 8 ?_;exact a0w (i+1) ⟨oM,a1W hn hlt h16⟩ oM rfl sb rfl
 ·refine go 12 ?_;exact q_v (congrArg (Value.int .i64) (a2f (fun j x hj=>hn j x oM)).symm)
theorem b4p (I:IMap) (v:Value) (l:List Prp) (hv:RdS I v l) (s:Prp) :
    FnV prog 172 #[v,.agg s.cells.toArray] I (.bool (decide (s∈l))):=by
 refine enter func172 call172 rfl ntmps172 rfl fun w0=>?_;refine go 4 fun g3=>?_
 refine go 8 ?_;refine cV (c2B I v l hv s) ?_;refine go 6 ?_;exact q_v (congrArg Value.bool ((a2Q _ l).trans (c5x s l)))
theorem b3g (I:IMap) (v:Value) (l:List Prp) (hv:RdS I v l) (f:FuncId) (cs:List Value) (p:Prp→Bool) (hp:∀x∈l,∀vs,Enc.rd I vs x→FnV prog f ([Value.agg vs.toArray]++cs).toArray I (.bool (p x))) :
    FnV prog 253 #[v,.func (.func f) #[] cs.toArray] I (.int .i64 (a4G p l)):=by
 obtain⟨A,c,rfl,hA,hc,hm⟩:=hv;refine enter func253 call253 rfl ntmps253 rfl fun w0=>?_;refine go 14 ?_
 refine a0x (α:=Nat) 0 (fun i=>I)
  (fun i=>[(0,.slice A l.length c),(1,.func (.func f) #[] cs.toArray),(7,.int .i64 (l.length:Int)),(8,.int .i64 (i:Int))])
  (fun i=>[])
  (fun i=>i≤l.length∧∀j x,j<i→l[j]? = some x→p x=false)
  (fun i=>l.length-i) ⟨Nat.zero_le _,fun j x hj=>absurd hj (Nat.not_lt_zero j)⟩ rfl sb rfl ?_
 intro i ⟨hi,hn⟩;refine gC 6 (fun h9 p9=>?_) fun h9 p9=>?_
 ·have hlt:i<l.length:=oM;refine go 15 ?_;obtain⟨b14,o14,w14,e14,c14,r14⟩:=RdA.at_ hA (i:=i) hlt;refine go 1 ?_;refine o_v rfl (a0S he rfl c14 (Enc.len r14)) ?_;refine go 1 ?_;refine cV (hp _ (List.getElem_mem hlt) _ r14) ?_;refine gC 2 (fun h16 p16=>?_) fun h16 p16=>?_
  ·refine go 13 ?_;exact q_v (congrArg (Value.int .i64) (a1J hlt p16 hn).symm)
  ·refine go 8 ?_;exact a0w (i+1) ⟨oM,a1W hn hlt p16⟩ oM rfl sb rfl
 ·refine go 12 ?_;exact q_v (congrArg (Value.int .i64) (a2f (fun j x hj=>hn j x oM)).symm)
theorem a9j (I:IMap) (v:Value) (l:List Prp) (hv:RdS I v l) (f:FuncId) (cs:List Value) (p:Prp→Bool) (hp:∀x∈l,∀vs,Enc.rd I vs x→FnV prog f ([Value.agg vs.toArray]++cs).toArray I (.bool (p x))) :
    FnV prog 173 #[v,.func (.func f) #[] cs.toArray] I (.bool (l.any p)):=by
 refine enter func173 call173 rfl ntmps173 rfl fun w0=>?_;refine go 10 ?_;refine cV (b3g I v l hv f cs p hp) ?_;refine go 6 ?_;exact q_v (congrArg Value.bool (a2Q p l))
theorem d1i (I:IMap) (v:Value) (l:List Part) (hv:RdS I v l) (day:Int) (k n:ByteArray) (g1 g2:Nat) (c1:ICells I g1 0 [v,.int .i64 (day)]) (c2:ICells I g2 0 [.string k]) :
    FnV prog 255 #[.string n,.pointer (some ⟨g1,0,none⟩),.pointer (some ⟨g2,0,none⟩)] I (.bool ((fun n=>!decide (((a0e l n).getD zPart).kind=k)) n)):=by
 refine enter func255 call255 rfl ntmps255 rfl fun w0=>?_;refine go 8 ?_;refine o_v rfl (a0S he rfl (c1.sub 0 1) rfl) ?_;refine go 2 ?_;refine a0T (a6K _ _ l hv n) rfl rfl fun v11 q11=>?_;obtain⟨vs11,rfl,s11,rfl,hs11⟩:=q11;refine go 5 fun g5=>?_
 refine go 1 ?_;refine a0Y _ he rfl rfl rfl rfl rfl (Enc.one (α:=Part) (x:=(a0e l n).getD zPart) ⟨s11,rfl,hs11⟩) ?_;refine go 14 ?_;exact q_v (congrArg Value.bool (by simp))
theorem c6L (I:IMap) (v:Value) (l:List Part) (hv:RdS I v l) (hN:b1X l≤12) (day:Int) (p k:ByteArray) :
    FnI prog 176 #[.agg #[v,.int .i64 (day)],.string p,.string k] I (fun u J=>∃ns,RdS J u ns∧ns.Perm (b3j l p k)∧ns.length≤12):=by
 refine enter func176 call176 rfl ntmps176 rfl fun w0=>?_;refine go 4 fun g3=>?_
 refine go 2 fun g5=>?_
 refine go 6 ?_;refine o_v rfl (a1R ([v]) m1 he rfl rfl rfl) ?_;refine go 2 ?_;refine a1X (a7r _ v l hv p hN) rfl rfl fun v10 s10 q10=>?_;obtain⟨ns,rfl,hns,hnl,hnd⟩:=q10;refine a0d ?_;refine a0A fun Ig3 jg3 cg3=>?_;have hv:=hv.le jg3;refine a0b ?_;refine a0A fun Ig5 jg5 cg5=>?_;have hv:=hv.le jg5;have cg3:=cg3.le jg5;refine go 2 ?_;refine b0O (b1z _ _ ns oM 255 [.pointer (some ⟨g3,0,none⟩),.pointer (some ⟨g5,0,none⟩)] (fun n=>!decide (((a0e l n).getD zPart).kind=k)) (fun I2 hI2 x=>d1i I2 v l (hv.le hI2) day k x g3 g5 (cg3.le hI2) (cg5.le hI2))) rfl rfl fun v12 I12 j12 q12=>?_;refine go 5 ?_;have hf:ns.filter (fun x=>!((fun n=>!decide (((a0e l n).getD zPart).kind=k)) x))=ns.filter fun n=>decide (((a0e l n).getD zPart).kind=k):=by simp only[Bool.not_not]
 rw[hf]at q12
 exact q_i ⟨_,q12,b9T hnd hns,Nat.le_trans (List.length_filter_le _ _) hnl⟩
end Go.Proofs.YtgmkjpafapgccaaGreat
namespace Go.Proofs.YtgmkjpafapgccaaGreat
open Go Go.Sx Tryz
set_option linter.all false
set_option maxRecDepth 20000
set_option maxHeartbeats 4000000
instance:Has (a1k prog 172 1) (1,false,1):=hk
instance:Has (tyK prog 172) (true,2):=hk
theorem b8q (I:IMap) (g:FuncId) (join:Int→Int→Int) (hj:∀J a b,FnV prog g #[ci a,ci b] J (ci (join a b))) (f:FuncId) (cs:List Value) (l:List Int) (hl:l.length≤1000000) (hf:∀J,ILe I J→∀(i:Nat) (hi:i<l.length),FnI prog f ([ci i]++cs).toArray J (fun u _=>u=ci l[i])) (z:Int) :
    FnI prog 164 #[.func (.func g) #[] #[],.int .i64 (z),.int .i64 ((l.length:Nat):Int),.func (.func f) #[] cs.toArray] I (fun u J=>u=ci (a6G join z l)):=by
 refine enter func164 call164 rfl ntmps164 rfl fun w0=>?_;refine go 13 ?_
 refine a0B ((0:Nat)) (I) (fun i J=>J)
  (fun i J=>[(0,.func (.func g) #[] #[]),(1,.int .i64 (a6G join z (l.take i))),(3,.func (.func f) #[] cs.toArray),(10,.int .i64 ((l.length:Nat):Int)),(11,.int .i64 ((i:Nat):Int))])
  (fun i J=>[])
  (fun i J=>i≤l.length∧ILe I J)
  (fun i J=>l.length-i) ⟨Nat.zero_le _,ILe.refl _⟩ rfl sb rfl ?_
 intro i J ⟨hi,hJ⟩;refine gC 6 (fun h12 p12=>?_) fun h12 p12=>?_
 ·have hlt:i<l.length:=oM;refine go 16 ?_;refine a0m (hf J hJ i hlt) rfl rfl fun v18 I18 j18 q18=>?_;obtain rfl:=q18;refine go 1 ?_;refine cV (hj _ _ _) ?_;refine go 9 ?_;exact a0o (i+1) (I18) ⟨oM,hJ.trans j18⟩ oM rfl ⟨rfl,congrArg (fun z:Int=>some (Value.int .i64 z)) (b9N hlt),rfl,rfl,rfl,trivial⟩ rfl
 ·obtain rfl:i=l.length:=oM;refine go 13 ?_;exact q_i (by rw[List.take_length])
theorem d1h {A:Option Addr} {c0:Nat} (I:IMap) (v:Value) (l:List Part) (hv:RdS I v l) (day:Int) (N:Nat) (ih:∀I2,ILe I I2→∀(x:Xp),OkXp x→allX a4w x=true→cntX x≤N→∀vs,XpRd I2 vs x→∀p,FnI prog 81 #[.agg #[v,.int .i64 (day)],.agg vs.toArray,.string p] I2 (fun u _=>u=ci (askF l day x p))) (x:Xp) (ho:OkXp x) (hn:allX a4w x=true) (hN:cntX x≤N+1) (g3 g4 g5:Nat) (c3:ICells I g3 0 [v,.int .i64 (day)]) (c4:ICells I g4 0 (x.cs (.slice A x.kids.length c0))) (hA:RdA I A x.kids) (hc:x.kids.length≤c0) (hm:c0≤9223372036854775807) (p:ByteArray) (c5:ICells I g5 0 [.string p]) (i:Nat) (hi:i<x.kids.length) :
    FnI prog 165 #[.int .i64 ((i:Nat):Int),.pointer (some ⟨g3,0,none⟩),.pointer (some ⟨g4,0,none⟩),.pointer (some ⟨g5,0,none⟩)] I (fun u J=>u=ci (askF l day x.kids[i] p)):=by
 refine enter func165 call165 rfl ntmps165 rfl fun w0=>?_;refine go 6 ?_;refine a1P fun hE1 hf1=>?_;refine go 1 ?_;refine dG 0 4 ?_;obtain⟨b10,o10,w10,e10,c10,r10⟩:=RdA.at_ hA (i:=i) hi;refine a0F 4 rfl rfl (by kernel_rfl) rfl .slnil rfl (a0l he rfl rfl e10 (i) oM hi) ?_;refine a0F 5 rfl rfl (by kernel_rfl) rfl .slnil rfl (a0S he rfl c10 (Enc.len r10)) ?_;refine dH 6 1 ?_;refine a0m (ih I (ILe.refl _) x.kids[i] (ho.kid (List.getElem_mem hi)) ((a6v hn).2 _ (List.getElem_mem hi)) (by have:=a7l (List.getElem_mem hi);omega) _ r10 p) rfl rfl fun v13 I13 j13 q13=>?_;obtain rfl:=q13;refine dG 8 1 ?_;refine go 4 ?_;exact q_i rfl
theorem c9e {A:Option Addr} {c0:Nat} (I:IMap) (v:Value) (l:List Part) (hv:RdS I v l) (day:Int) (N:Nat) (ih:∀I2,ILe I I2→∀(x:Xp),OkXp x→allX a4w x=true→cntX x≤N→∀vs,XpRd I2 vs x→∀p,FnI prog 81 #[.agg #[v,.int .i64 (day)],.agg vs.toArray,.string p] I2 (fun u _=>u=ci (askF l day x p))) (x:Xp) (ho:OkXp x) (hn:allX a4w x=true) (hN:cntX x≤N+1) (g3 g4 g16:Nat) (c3:ICells I g3 0 [v,.int .i64 (day)]) (c4:ICells I g4 0 (x.cs (.slice A x.kids.length c0))) (hA:RdA I A x.kids) (hc:x.kids.length≤c0) (hm:c0≤9223372036854775807) (h1:0<x.kids.length) (w:Value) (ns:List ByteArray) (hw:RdS I w ns) (c16:ICells I g16 0 [w]) (i:Nat) (hi:i<ns.length) :
    FnI prog 177 #[.int .i64 ((i:Nat):Int),.pointer (some ⟨g3,0,none⟩),.pointer (some ⟨g4,0,none⟩),.pointer (some ⟨g16,0,none⟩)] I (fun u J=>u=ci (askF l day x.kids[0] ns[i])):=by
 obtain⟨W,cw,rfl,hW,hcw,hmw⟩:=hw;refine enter func177 call177 rfl ntmps177 rfl fun w0=>?_;refine go 6 ?_;refine a1P fun hE1 hf1=>?_;refine go 1 ?_;refine dG 0 3 ?_;obtain⟨b9,o9,w9,e9,c9,r9⟩:=RdA.at_ hA (i:=0) h1;refine a0F 3 rfl rfl (by kernel_rfl) rfl .slnil rfl (a0l he rfl rfl e9 (0) oM h1) ?_;refine a0F 4 rfl rfl (by kernel_rfl) rfl .slnil rfl (a0S he rfl c9 (Enc.len r9)) ?_;refine dG 5 2 ?_;obtain⟨b13,o13,w13,e13,c13,r13⟩:=RdA.at_ hW (i:=i) hi;obtain rfl:=r13;refine a0F 7 rfl rfl (by kernel_rfl) rfl .slnil rfl (a0l he rfl rfl e13 (i) oM hi) ?_;refine dH 8 1 ?_;refine a0m (ih I (ILe.refl _) x.kids[0] (ho.kid (List.getElem_mem h1)) ((a6v hn).2 _ (List.getElem_mem h1)) (by have:=a7l (List.getElem_mem h1);omega) _ r9 ns[i]) rfl rfl fun v15 I15 j15 q15=>?_;obtain rfl:=q15;refine dG 10 1 ?_;refine go 4 ?_;exact q_i rfl
theorem d7I (I:IMap) (q:Prp) (x:Xp) (s:Value) (g4:Nat) (c4:ICells I g4 0 (x.cs s)) :
    FnV prog 174 #[.agg q.cells.toArray,.pointer (some ⟨g4,0,none⟩)] I (.bool (decide (q.key=x.name))):=by
 refine enter func174 call174 rfl ntmps174 rfl fun w0=>?_;refine go 4 fun g2=>?_
 refine go 15 ?_;exact q_v rfl
theorem d8G (I:IMap) (q:Part) (vs:List Value) (hq:Enc.rd I vs q) (x:Xp) (s:Value) (p:ByteArray) (g5 g4:Nat) (c5:ICells I g5 0 [.string p]) (c4:ICells I g4 0 (x.cs s)) :
    FnV prog 175 #[.agg vs.toArray,.pointer (some ⟨g5,0,none⟩),.pointer (some ⟨g4,0,none⟩)] I (.bool ((decide (q.into=p)&&decide (q.slot=x.name))&&decide (q.kind=x.value))):=by
 obtain⟨qx,rfl,hqx⟩:=hq;refine enter func175 call175 rfl ntmps175 rfl fun w0=>?_;refine go 4 fun g3=>?_
 refine gS 10 9 (fun h9 p9=>?_) fun h9 p9=>?_
 ·refine gS 7 16 (fun h16 p16=>?_) fun h16 p16=>?_
  ·refine go 11 ?_;exact q_v (congrArg Value.bool (by simp only[h9,h16,bS]))
  ·refine go 11 ?_;exact q_v (congrArg Value.bool (by simp only[h9,h16,bS]))
 ·refine go 18 ?_;exact q_v (congrArg Value.bool (by simp only[h9,bS]))
theorem c0e (I:IMap) (v:Value) (l:List Part) (hv:RdS I v l) (hf:b1X l≤12) (day:Int) (N:Nat) (ih:∀I2,ILe I I2→∀(x:Xp),OkXp x→allX a4w x=true→cntX x≤N→∀vs,XpRd I2 vs x→∀p,FnI prog 81 #[.agg #[v,.int .i64 (day)],.agg vs.toArray,.string p] I2 (fun u _=>u=ci (askF l day x p))) (x:Xp) (ho:OkXp x) (hn:allX a4w x=true) (hN:cntX x≤N+1) (hcl:x.kids.length≤60) (vs:List Value) (hx:XpRd I vs x) (p:ByteArray) :
    FnI prog 81 #[.agg #[v,.int .i64 (day)],.agg vs.toArray,.string p] I (fun u J=>u=ci (askF l day x p)):=by
 obtain⟨sk,rfl,hk⟩:=b1v hx;obtain⟨A,c0,rfl,hA,hc,hm⟩:=hk;refine enter func81 call81 rfl ntmps81 rfl fun w0=>?_;refine go 4 fun g3=>?_
 refine go 2 fun g4=>?_
 refine go 2 fun g5=>?_
 refine go 6 ?_;refine o_v rfl (a1R ([v]) m2 he rfl rfl rfl) ?_;refine go 2 ?_;refine a0T (a6K _ _ l hv p) rfl rfl fun v22 q22=>?_;obtain⟨vs22,rfl,s22,rfl,hs22⟩:=q22;refine go 5 fun g7=>?_
 refine go 1 ?_;refine a0Y _ he rfl rfl rfl rfl rfl (Enc.one (α:=Part) (x:=((a0e l p).getD zPart)) ⟨s22,rfl,hs22⟩) ?_;refine go 10 ?_;refine a0u ?_;refine a0A fun Ig3 jg3 cg3=>?_;have hv:=hv.le jg3;have hA:=hA.le jg3;have hs22:=hs22.le jg3;refine a0d ?_;refine a0A fun Ig4 jg4 cg4=>?_;have hv:=hv.le jg4;have hA:=hA.le jg4;have hs22:=hs22.le jg4;have cg3:=cg3.le jg4;refine a0b ?_;refine a0A fun Ig5 jg5 cg5=>?_;have hv:=hv.le jg5;have hA:=hA.le jg5;have hs22:=hs22.le jg5;have cg3:=cg3.le jg5;have cg4:=cg4.le jg5;refine go 7 ?_;refine o_v rfl (a0v he rfl (cg4 3 _ rfl)) ?_;refine go 7 ?_;refine o_v rfl (a0v he rfl (cg4 0 _ rfl)) ?_;refine go 10 ?_;refine a7f (α:=Int) (Ix:=(fun more=>Ig5)) (Lx:=(fun more=>[(3,.pointer (some ⟨g3,0,none⟩)),(4,.pointer (some ⟨g4,0,none⟩)),(7,.pointer (some ⟨g7,0,none⟩)),(11,.int .i64 (more))])) (Hx:=(fun more=>[.blk g7 85 (((a0e l p).getD zPart).cells s22)])) (p:=(fun more=>(x.op=5∧more=x.n+x.extra)∨(x.op=6∧more=x.n))) ?_ ?_
 ·refine gC 19 (fun h30 p30=>?_) fun h30 p30=>?_
  ·refine go 32 ?_;exact q_i (congrArg (Value.int .i64) (d6N p30).symm)
  ·refine gC 9 (fun h32 p32=>?_) fun h32 p32=>?_
   ·have hk1:=b0M (a6v hn).1 (.inl p32);refine go 12 ?_;refine a0m (d1h _ v l hv day N (fun I2 hI2=>ih I2 (ILe.trans (jg3.trans (jg4.trans jg5)) hI2)) x ho hn hN g3 g4 g5 cg3 cg4 hA hc hm p cg5 0 oM) rfl rfl fun v49 I49 j49 q49=>?_;obtain rfl:=q49;refine go 1 ?_;refine cV (d4s _ _) ?_;refine go 22 ?_;exact q_i (congrArg (Value.int .i64) (d6O p32 oM).symm)
   ·refine gC 9 (fun h34 p34=>?_) fun h34 p34=>?_
    ·refine go 14 ?_;refine o_v rfl (a0v he rfl (cg4 5 _ rfl)) ?_;refine o_v rfl (OV.cast (u:=.int .i64 (((x.kids.map fun k=>askF l day k p).length:Nat):Int)) (a3M he rfl) (by rw[List.length_map])) ?_;refine go 2 ?_
     refine a0m (b8q _ 167 b3Y (fun J a b=>d4r J a b) 165 [.pointer (some ⟨g3,0,none⟩),.pointer (some ⟨g4,0,none⟩),.pointer (some ⟨g5,0,none⟩)] (x.kids.map fun k=>askF l day k p) (by rw[List.length_map];have:=hcl;omega) (fun J hJ i hi=>by
       have hi':i<x.kids.length:=by rw[List.length_map]at hi;exact hi
       rw[List.getElem_map]
       exact d1h _ v l (hv.le hJ) day N (fun I2 hI2=>ih I2 (ILe.trans (jg3.trans (jg4.trans jg5)) (ILe.trans hJ hI2))) x ho hn hN g3 g4 g5 (cg3.le hJ) (cg4.le hJ) (hA.le hJ) hc hm p (cg5.le hJ) i hi') 2) rfl rfl fun v56 I56 j56 q56=>?_
     obtain rfl:=q56;refine go 20 ?_;exact q_i (congrArg (Value.int .i64) (d6P p34).symm)
    ·refine gC 9 (fun h36 p36=>?_) fun h36 p36=>?_
     ·refine go 16 ?_;refine o_v rfl (a0v he rfl (cg4 5 _ rfl)) ?_;refine o_v rfl (OV.cast (u:=.int .i64 (((x.kids.map fun k=>askF l day k p).length:Nat):Int)) (a3M he rfl) (by rw[List.length_map])) ?_;refine go 2 ?_
      refine a0m (b8q _ 168 orT (fun J a b=>d8r J a b) 165 [.pointer (some ⟨g3,0,none⟩),.pointer (some ⟨g4,0,none⟩),.pointer (some ⟨g5,0,none⟩)] (x.kids.map fun k=>askF l day k p) (by rw[List.length_map];have:=hcl;omega) (fun J hJ i hi=>by
        have hi':i<x.kids.length:=by rw[List.length_map]at hi;exact hi
        rw[List.getElem_map]
        exact d1h _ v l (hv.le hJ) day N (fun I2 hI2=>ih I2 (ILe.trans (jg3.trans (jg4.trans jg5)) (ILe.trans hJ hI2))) x ho hn hN g3 g4 g5 (cg3.le hJ) (cg4.le hJ) (hA.le hJ) hc hm p (cg5.le hJ) i hi') 0) rfl rfl fun v62 I62 j62 q62=>?_
      obtain rfl:=q62;refine go 18 ?_;exact q_i (congrArg (Value.int .i64) (d6Q p36).symm)
     ·refine gC 9 (fun h38 p38=>?_) fun h38 p38=>?_
      ·have hnn:=c6R (a6v hn).1 (.inl p38);refine go 16 ?_;refine o_v rfl (a0v he rfl (cg4 4 _ rfl)) ?_;refine go 5 ?_;exact a2A (x.n+x.extra) (.inl ⟨p38,rfl⟩) sb rfl rfl
      ·refine gC 9 (fun h40 p40=>?_) fun h40 p40=>?_
       ·refine go 15 ?_;exact a2A x.n (.inr ⟨p40,rfl⟩) sb rfl rfl
       ·refine gC 9 (fun h42 p42=>?_) fun h42 p42=>?_
        ·refine go 23 ?_;refine o_v rfl (a0v he rfl (cg4 1 _ rfl)) ?_;refine go 1 ?_;refine o_v rfl (a0v he rfl (cg4 2 _ rfl)) ?_;refine go 2 ?_;refine cV (b4p _ _ ((a0e l p).getD zPart).props hs22 ⟨x.name,x.value⟩) ?_;refine go 1 ?_;refine cV (b3u _ _) ?_;refine go 12 ?_;exact q_i (congrArg (Value.int .i64) (d6T p42).symm)
        ·refine gC 9 (fun h44 p44=>?_) fun h44 p44=>?_
         ·refine go 26 ?_;refine cV (a9j _ _ ((a0e l p).getD zPart).props hs22 174 [.pointer (some ⟨g4,0,none⟩)] (fun q=>decide (q.key=x.name)) (fun q _ vs hq=>by cases hq;exact d7I _ q x _ g4 cg4)) ?_;refine go 1 ?_;refine cV (b3u _ _) ?_;refine go 10 ?_;exact q_i (congrArg (Value.int .i64) (d6U p44).symm)
         ·refine gC 8 (fun h46 p46=>?_) fun h46 p46=>?_
          ·refine go 25 ?_;refine o_v rfl (a0v he rfl (cg3 0 _ rfl)) ?_;refine go 2 ?_;refine cV (a5c _ _ l hv 175 [.pointer (some ⟨g5,0,none⟩),.pointer (some ⟨g4,0,none⟩)] (fun q=>(decide (q.into=p)&&decide (q.slot=x.name))&&decide (q.kind=x.value)) (fun q _ vs hq=>d8G _ q vs hq x _ p g5 g4 cg5 cg4)) ?_;refine go 1 ?_;refine cV (b3u _ _) ?_;refine go 8 ?_;exact q_i (congrArg (Value.int .i64) (d6V p46).symm)
          ·refine go 25 ?_;refine o_v rfl (a0S he rfl cg3 rfl) ?_;refine go 7 ?_;refine o_v rfl (a0v he rfl (cg5 0 _ rfl)) ?_;refine go 1 ?_;refine o_v rfl (a0v he rfl (cg4 1 _ rfl)) ?_;refine go 1 ?_;refine a0m (c6L _ v l hv hf day p x.name) rfl rfl fun v113 I113 j113 q113=>?_;have hv:=hv.le j113;have hA:=hA.le j113;have cg3:=cg3.le j113;have cg4:=cg4.le j113;have cg5:=cg5.le j113;obtain⟨ns,hns,hnp,hnl⟩:=q113;have hns0:=hns;obtain⟨An,cn,rfl,hAn,_,_⟩:=hns0;refine go 2 fun g16=>?_
           refine go 6 ?_;refine a0A fun Ig16 jg16 cg16=>?_;have hv:=hv.le jg16;have hA:=hA.le jg16;have cg3:=cg3.le jg16;have cg4:=cg4.le jg16;have cg5:=cg5.le jg16;have hns:=hns.le jg16;have hAn:=hAn.le jg16;refine go 8 ?_;refine o_v rfl (a0v he rfl (cg4 0 _ rfl)) ?_;refine gC 9 (fun h117 p117=>?_) fun h117 p117=>?_
           ·have hk1:=b0M (a6v hn).1 (.inr (.inl p117));have h1:0<x.kids.length:=oM;refine go 3 ?_;refine o_v rfl (a0v he rfl (cg16 0 _ rfl)) ?_;refine o_v rfl (OV.cast (u:=.int .i64 (((ns.map fun q=>askF l day x.kids[0] q).length:Nat):Int)) (a3M he rfl) (by rw[List.length_map])) ?_;refine go 2 ?_
            refine a0m (b8q _ 167 b3Y (fun J a b=>d4r J a b) 177 [.pointer (some ⟨g3,0,none⟩),.pointer (some ⟨g4,0,none⟩),.pointer (some ⟨g16,0,none⟩)] (ns.map fun q=>askF l day x.kids[0] q) (by rw[List.length_map];omega) (fun J hJ i hi=>by
              have hi':i<ns.length:=by rw[List.length_map]at hi;exact hi
              rw[List.getElem_map]
              exact c9e _ v l (hv.le hJ) day N (fun I2 hI2=>ih I2 (ILe.trans (jg3.trans (jg4.trans jg5)) (ILe.trans (j113.trans jg16) (ILe.trans hJ hI2)))) x ho hn hN g3 g4 g16 (cg3.le hJ) (cg4.le hJ) (hA.le hJ) hc hm h1 _ ns (hns.le hJ) (cg16.le hJ) i hi') 2) rfl rfl fun v123 I123 j123 q123=>?_
            obtain rfl:=q123;refine go 7 ?_;exact q_i (congrArg (Value.int .i64) (d3w p117 h1 hnp).symm)
           ·refine gC 6 (fun h124 p124=>?_) fun h124 p124=>?_
            ·have hk1:=b0M (a6v hn).1 (.inr (.inr p124));have h1:0<x.kids.length:=oM;refine go 3 ?_;refine o_v rfl (a0v he rfl (cg16 0 _ rfl)) ?_;refine o_v rfl (OV.cast (u:=.int .i64 (((ns.map fun q=>askF l day x.kids[0] q).length:Nat):Int)) (a3M he rfl) (by rw[List.length_map])) ?_;refine go 2 ?_
             refine a0m (b8q _ 168 orT (fun J a b=>d8r J a b) 177 [.pointer (some ⟨g3,0,none⟩),.pointer (some ⟨g4,0,none⟩),.pointer (some ⟨g16,0,none⟩)] (ns.map fun q=>askF l day x.kids[0] q) (by rw[List.length_map];omega) (fun J hJ i hi=>by
               have hi':i<ns.length:=by rw[List.length_map]at hi;exact hi
               rw[List.getElem_map]
               exact c9e _ v l (hv.le hJ) day N (fun I2 hI2=>ih I2 (ILe.trans (jg3.trans (jg4.trans jg5)) (ILe.trans (j113.trans jg16) (ILe.trans hJ hI2)))) x ho hn hN g3 g4 g16 (cg3.le hJ) (cg4.le hJ) (hA.le hJ) hc hm h1 _ ns (hns.le hJ) (cg16.le hJ) i hi') 0) rfl rfl fun v130 I130 j130 q130=>?_
             obtain rfl:=q130;refine go 7 ?_;exact q_i (congrArg (Value.int .i64) (d3x p124 h1 hnp).symm)
            ·refine go 5 ?_;refine o_v rfl (a0v he rfl (cg16 0 _ rfl)) ?_;refine go 2 ?_;refine o_v rfl (a0v he rfl (cg4 3 _ rfl)) ?_;refine go 2 ?_;refine cV (b3u _ _) ?_;refine go 5 ?_;exact q_i (congrArg (Value.int .i64) (d3y oM hnp).symm)
 ·intro more hmo;refine go 5 ?_;refine o_v rfl (a0v he rfl (cg4 1 _ rfl)) ?_;refine go 1 ?_;refine o_v rfl (a0v he rfl (cg3 1 _ rfl)) ?_;refine go 1 ?_;refine cV (c2L _ ((a0e l p).getD zPart) s22 (RdS.one hs22) x.name day) ?_;refine go 5 fun g12=>?_
  refine gC 12 (fun h77 p77=>?_) fun h77 p77=>?_
  ·refine go 17 ?_;exact q_i (congrArg (Value.int .i64) (c9I oM p77).symm)
  ·refine go 7 ?_;refine cV (c9b _ _ more) ?_;refine go 7 ?_;refine o_v rfl (a0v he rfl (cg4 0 _ rfl)) ?_;refine gC 3 (fun h83 p83=>?_) fun h83 p83=>?_
   ·refine go 18 ?_
    rcases hmo with ⟨ho5,rfl⟩|⟨ho6,rfl⟩
    · omega
    exact q_i (congrArg (Value.int .i64) (d6S ho6 p77).symm)
   ·refine go 6 ?_;refine cV (d4s _ _) ?_;refine go 14 ?_
    rcases hmo with ⟨ho5,rfl⟩|⟨ho6,rfl⟩
    · exact q_i (congrArg (Value.int .i64) (d6R ho5 p77).symm)
    · exact absurd ho6 p83
end Go.Proofs.YtgmkjpafapgccaaGreat
namespace Go.Proofs.YtgmkjpafapgccaaGreat
open Go Go.Sx Tryz
set_option linter.all false
set_option maxRecDepth 20000
set_option maxHeartbeats 4000000
instance:Has (a2j prog 157) ([.int .i64 0,.string ⟨#[]⟩,.string ⟨#[]⟩],3,40):=hk
instance:Has (a6J prog 46) (157,3):=hk
instance:Has (a1k prog 157 0) (0,false,1):=hk
instance:Has (a1k prog 157 1) (1,false,1):=hk
instance:Has (a1k prog 157 2) (2,false,1):=hk
instance:Has (a1k prog 95 2) (2,false,1):=hk
instance:Has (a1k prog 95 3) (3,false,1):=hk
instance:Has (plK prog 157) [(0,1),(1,1),(2,1)]:=hk
instance:Has (plK prog 172) [(0,1),(1,1)]:=hk
instance:Has (plK prog 36) [(0,1),(1,1),(2,6)]:=hk
instance:Has (tyK prog 146) (false,1):=hk
instance:Has (tyK prog 157) (true,3):=hk
instance:Has (tyK prog 46) (false,1):=hk
instance:Has (prog.underlying 146) (.map 157 4):=hk
instance T.und_46:Has (prog.underlying 46) (.slice 157):=hk
instance:Has (a1o prog 157) [.int .i64 0,.string ⟨#[]⟩,.string ⟨#[]⟩]:=hk
instance:Has (a1o prog 172) [.slice none 0 0,.int .i64 0]:=hk
instance:Has (a1o prog 36) [.string ⟨#[]⟩,.string ⟨#[]⟩,.int .i64 0,.string ⟨#[]⟩,.string ⟨#[]⟩,.int .i64 0,.int .i64 0,.slice none 0 0]:=hk
theorem d7H (I:IMap) (v:Value) (l:List Part) (hv:RdS I v l) (hf:b1X l≤12) (day:Int) (x:Xp) (ho:OkXp x) (hn:allX a4w x=true) (h60:cntX x≤60) (vs:List Value) (hx:XpRd I vs x) (p:ByteArray) :
  FnI prog 81 #[.agg #[v,.int .i64 (day)],.agg vs.toArray,.string p] I (fun u _=>u=ci (askF l day x p)):=by
 have key:∀(N:Nat),N≤60→∀(I:IMap),RdS I v l→∀(x:Xp),OkXp x→allX a4w x=true→cntX x≤N→∀vs,XpRd I vs x→∀p,FnI prog 81 #[.agg #[v,.int .i64 (day)],.agg vs.toArray,.string p] I (fun u _=>u=ci (askF l day x p)):=by
  intro N
  induction N with
  |zero=>intro _ I _ x _ _ h;cases x;simp[cntX]at h
  |succ N ih=>exact fun h6 I hv x ho hn hN vs hx p=>c0e I v l hv hf day N (fun I2 hI2 x ho hn h vs hx p=>ih oM I2 (hv.le hI2) x ho hn h vs hx p) x ho hn hN (by have:=c6A x;omega) vs hx p
 exact key (cntX x) h60 I hv x ho hn (Nat.le_refl _) vs hx p
theorem b3t (I:IMap) (v:Value) (l:List Part) (hv:RdS I v l) (hf:b1X l≤12) (x:Xp) (ho:OkXp x) (vs:List Value) (hx:XpRd I vs x) (p:ByteArray) (day:Int) :
    FnI prog 26 #[.agg #[v],.agg vs.toArray,.string p,.int .i64 (day)] I (fun u J=>u=ci (a8Y l x p day)):=by
 have hx0:=hx;obtain⟨sk,rfl,hk⟩:=b1v hx;refine enter func26 call26 rfl ntmps26 rfl fun w0=>?_;refine go 4 fun g4=>?_
 refine go 2 fun g5=>?_
 refine go 9 ?_;refine cV (d2f _ ⟨⟨#[114]⟩,⟨#[107]⟩,x⟩ ⟨Nat.le_of_ble_eq_true rfl,Nat.le_of_ble_eq_true rfl,ho⟩ _ ⟨_,rfl,hk⟩) ?_;refine gS 2 13 (fun h13 p13=>?_) fun h13 p13=>?_
 ·refine go 16 ?_;exact q_i (congrArg (Value.int .i64) (by unfold a8Y;rw[if_pos (by simp only[h13,bS])]))
 ·refine go 3 ?_;refine a0n rfl rfl h13 (a0y (d4k _ v l hv p) rfl rfl ?_);refine gC 4 (fun h18 p18=>?_) fun h18 p18=>?_
  ·refine go 8 ?_;exact q_i (congrArg (Value.int .i64) (by unfold a8Y;rw[if_pos (by simp only[h13,h18,bS])]))
  ·have hvr:=c6m p13;refine go 10 ?_;refine a0m (d7H _ v l hv hf day x ho hvr.1 hvr.2 _ hx0 p) rfl rfl fun v24 I24 j24 q24=>?_;obtain rfl:=q24;refine go 5 ?_;exact q_i (congrArg (Value.int .i64) (by unfold a8Y;rw[if_neg (by simp only[h13,h18,bS];decide)]))
theorem c2C (I:IMap) (v:Value) (l:List Int) (hv:RdS I v l) (s:Int) :
    FnV prog 230 #[v,.int .i64 (s)] I (.int .i64 (a4G (fun x=>decide (s=x)) l)):=by
 obtain⟨A,c,rfl,hA,hc,hm⟩:=hv;refine enter func230 call230 rfl ntmps230 rfl fun w0=>?_;refine go 14 ?_
 refine a0x (α:=Nat) 0 (fun i=>I)
  (fun i=>[(0,.slice A l.length c),(1,.int .i64 (s)),(7,.int .i64 (l.length:Int)),(8,.int .i64 (i:Int))])
  (fun i=>[])
  (fun i=>i≤l.length∧∀j x,j<i→l[j]? = some x→(fun x=>decide (s=x)) x=false)
  (fun i=>l.length-i) ⟨Nat.zero_le _,fun j x hj=>absurd hj (Nat.not_lt_zero j)⟩ rfl sb rfl ?_
 intro i ⟨hi,hn⟩;refine gC 6 (fun h9 p9=>?_) fun h9 p9=>?_
 ·have hlt:i<l.length:=oM;refine go 15 ?_;obtain⟨b14,o14,w14,e14,c14,r14⟩:=RdA.at_ hA (i:=i) hlt;obtain rfl:=r14;refine gC 5 (fun h16 p16=>?_) fun h16 p16=>?_
  ·refine go 13 ?_;exact q_v (congrArg (Value.int .i64) (a1J hlt h16 hn).symm)
  ·refine go 8 ?_;exact a0w (i+1) ⟨oM,a1W hn hlt h16⟩ oM rfl sb rfl
 ·refine go 12 ?_;exact q_v (congrArg (Value.int .i64) (a2f (fun j x hj=>hn j x oM)).symm)
theorem a5T (I:IMap) (v:Value) (l:List Int) (hv:RdS I v l) (s:Int) :
    FnV prog 153 #[v,.int .i64 (s)] I (.bool (decide (s∈l))):=by
 refine enter func153 call153 rfl ntmps153 rfl fun w0=>?_;refine go 10 ?_;refine cV (c2C I v l hv s) ?_;refine go 6 ?_;exact q_v (congrArg Value.bool ((a2Q _ l).trans (c5w s l)))
theorem b4E (I:IMap) (v:Value) (l:List Int) (hv:RdS I v l) (f:FuncId) (cs:List Value) (p:Int→Bool) (hp:∀x∈l,FnV prog f ([Value.int .i64 x]++cs).toArray I (.bool (p x))) :
    FnV prog 229 #[v,.func (.func f) #[] cs.toArray] I (.int .i64 (a4G p l)):=by
 obtain⟨A,c,rfl,hA,hc,hm⟩:=hv;refine enter func229 call229 rfl ntmps229 rfl fun w0=>?_;refine go 14 ?_
 refine a0x (α:=Nat) 0 (fun i=>I)
  (fun i=>[(0,.slice A l.length c),(1,.func (.func f) #[] cs.toArray),(7,.int .i64 (l.length:Int)),(8,.int .i64 (i:Int))])
  (fun i=>[])
  (fun i=>i≤l.length∧∀j x,j<i→l[j]? = some x→p x=false)
  (fun i=>l.length-i) ⟨Nat.zero_le _,fun j x hj=>absurd hj (Nat.not_lt_zero j)⟩ rfl sb rfl ?_
 intro i ⟨hi,hn⟩;refine gC 6 (fun h9 p9=>?_) fun h9 p9=>?_
 ·have hlt:i<l.length:=oM;refine go 15 ?_;obtain⟨b14,o14,w14,e14,c14,r14⟩:=RdA.at_ hA (i:=i) hlt;obtain rfl:=r14;refine go 3 ?_;refine cV (hp _ (List.getElem_mem hlt)) ?_;refine gC 2 (fun h16 p16=>?_) fun h16 p16=>?_
  ·refine go 13 ?_;exact q_v (congrArg (Value.int .i64) (a1J hlt p16 hn).symm)
  ·refine go 8 ?_;exact a0w (i+1) ⟨oM,a1W hn hlt p16⟩ oM rfl sb rfl
 ·refine go 12 ?_;exact q_v (congrArg (Value.int .i64) (a2f (fun j x hj=>hn j x oM)).symm)
theorem b0n (I:IMap) (v:Value) (l:List Int) (hv:RdS I v l) (f:FuncId) (cs:List Value) (p:Int→Bool) (hp:∀x∈l,FnV prog f ([Value.int .i64 x]++cs).toArray I (.bool (p x))) :
    FnV prog 151 #[v,.func (.func f) #[] cs.toArray] I (.bool (l.any p)):=by
 refine enter func151 call151 rfl ntmps151 rfl fun w0=>?_;refine go 10 ?_;refine cV (b4E I v l hv f cs p hp) ?_;refine go 6 ?_;exact q_v (congrArg Value.bool (a2Q p l))
theorem d4h (I:IMap) (m:Int) (h:Hld) (a b:Value) (hb:RdS I b h.back) (g:Nat) (cg:ICells I g 0 (h.cs a b)) :
    FnV prog 152 #[.int .i64 (m),.pointer (some ⟨g,0,none⟩)] I (.bool (!decide (m∈h.back))):=by
 refine enter func152 call152 rfl ntmps152 rfl fun w0=>?_;refine go 8 ?_;refine o_v rfl (a0v he rfl (cg 3 _ rfl)) ?_;refine go 2 ?_;refine cV (a5T _ _ h.back hb m) ?_;refine go 6 ?_;exact q_v rfl
theorem d7p (I:IMap) (h:Hld) (a b:Value) (ha:RdS I a h.members) (hb:RdS I b h.back) :
    FnV prog 72 #[.agg (h.cs a b).toArray] I (.bool (c3A h)):=by
 refine enter func72 call72 rfl ntmps72 rfl fun w0=>?_;refine go 4 fun g1=>?_
 refine go 7 ?_;refine a0A fun Ig1 jg1 cg1=>?_;have ha:=ha.le jg1;have hb:=hb.le jg1;refine go 2 ?_;refine cV (b0n _ _ h.members ha 152 [.pointer (some ⟨g1,0,none⟩)] (fun m=>!decide (m∈h.back)) (fun m _=>d4h _ m h a b hb g1 cg1)) ?_;refine go 5 ?_;exact a8J rfl
theorem c1Y (a b:Flt):eqV prog 9 157 (.agg a.cells.toArray) (.agg b.cells.toArray)=some (decide (a=b)):=by
 rw[←Flt.eqB_eq]
 kernel_rfl
theorem d4v:KeyOK prog 157 a3W:=a8y (cells:=Flt.cells) (by kernel_rfl) (fun p q=>c1Y p q) (fun p=>by kernel_rfl) (fun p=>by simp[Flt.cells,b2O,b2N])
theorem b9I (I:IMap) (r:Nat) (kvs:List (Flt×Value)) (k:Int) (p:ByteArray) (w:Value) (ns:List ByteArray) (hw:RdS I w ns) :
    FnM prog 68 #[.map (some r),.int .i64 (k),.string p,w] I (.mp r (a1A a3W kvs)) (.mp r (a1A a3W (a8n kvs (ns.map (fun n=>(⟨k,p,n⟩:Flt)))))):=by
 obtain⟨A,c,rfl,hA,hc,hm⟩:=hw;refine enter func68 call68 rfl ntmps68 rfl fun w0=>?_;refine go 8 ?_
 refine a0x (α:=Nat) 0 (fun i=>I)
  (fun i=>[(0,.map (some r)),(1,.int .i64 (k)),(2,.string p),(10,.slice A ns.length c),(11,.int .i64 ((ns.length:Nat):Int)),(12,.int .i64 ((i:Nat):Int))])
  (fun i=>[.mp r (a1A a3W (a8n kvs ((ns.take i).map (fun n=>(⟨k,p,n⟩:Flt)))))])
  (fun i=>i≤ns.length)
  (fun i=>ns.length-i) (Nat.zero_le _) rfl sb rfl ?_
 intro i hi;refine gC 6 (fun h13 p13=>?_) fun h13 p13=>?_
 ·have hlt:i<ns.length:=oM;refine go 6 ?_;obtain⟨b14,o14,w14,e14,c14,r14⟩:=RdA.at_ hA (i:=i) hlt;obtain rfl:=r14;refine go 12 ?_;refine a2S (a8n kvs ((ns.take (i+1)).map (fun n=>(⟨k,p,n⟩:Flt)))) (d4v) he ((fun n=>(⟨k,p,n⟩:Flt)) ns[i]) rfl rfl rfl (c3Q hlt) ?_;refine go 8 ?_;exact a0w (i+1) oM oM rfl sb rfl
 ·obtain rfl:i=ns.length:=oM;rw[List.take_length];refine go 5 ?_;exact q_m
theorem d7o (I:IMap) (a b:Flt) :
    FnV prog 145 #[.agg a.cells.toArray,.agg b.cells.toArray] I (.int .i64 (a8q a b)):=by
 refine enter func145 call145 rfl ntmps145 rfl fun w0=>?_;refine go 4 fun g2=>?_
 refine go 2 fun g3=>?_
 refine go 4 ?_;refine a1P fun hE1 hf1=>?_;refine go 1 ?_;refine dG 0 4 ?_;refine dG 5 4 ?_;refine dG 10 4 ?_;refine dH 4 0 ?_;refine cV (b0m _ a.kind b.kind) ?_;refine dH 9 0 ?_;refine cV (a3Q _ a.part b.part) ?_;refine dH 14 0 ?_;refine cV (a3Q _ a.name b.name) ?_;refine dH 15 0 ?_;refine go 1 fun v20=>?_
 refine a0i (l:=[a9t a.kind b.kind,a9u a.part b.part,a9u a.name b.name]) rfl rfl ((a6u [a9t a.kind b.kind,a9u a.part b.part,a9u a.name b.name])) fun I20 j20 R20=>?_;refine dH 16 0 ?_;refine cV (d7d _ _ _ R20) ?_;refine dG 17 1 ?_;refine go 4 ?_;exact a8J rfl
theorem c7Z (I:IMap) (v:Value) (l:List Flt) (hl:l.length≤1000000) :
  FnX prog 221 #[v,.func (.func 145) #[] #[]] I [.row v 157 3 l.length (l.flatMap Flt.cells)] (fun u r=>u = .tuple #[]∧∃m,c5p a8q l m∧r = .row v 157 3 l.length (m.flatMap Flt.cells)):=
 c8b (k:=3) (cells:=Flt.cells) (cf:=a8q) (fun args w=>call221 args w) (fun args w=>call145 args w)
  (fun blk off cap d w hc hH hb hs=>AnyQ.slices_SortFunc Tryz.layF 3 Tryz.isAgg157 Tryz.sizeOf157 Flt.cells (fun _=>rfl) (fun x v hv=>by simp[Flt.cells]at hv;rcases hv with rfl|rfl|rfl<;>rfl) a8q d0G 145 #[] blk off cap d w (fun args w=>call145 args w) hc hH hb hs)
  (fun w=>AnyF.slices_SortFunc_none { Tryz.layF with } none 0 _ w) (fun x y=>d7o I00 x y) (fun _=>rfl) hl
theorem d0W (I:IMap) (S:ItS) (r:Nat) (kvs:List (Flt×Value)) (hO0:S.Ok a3W kvs) (hT0:S.Todo a3W kvs) (hS0:S.seen=#[]) (g1:Nat) (c1:ICells I g1 0 [.map (some r)]) (hmp:I r=some S.mp) :
    c0W prog 222 [.pointer (some ⟨g1,0,none⟩)] I (fun _ vs (x:Flt)=>vs=[.agg x.cells.toArray]) (fun pre _=>pre.length<kvs.length) (fun pre=>pre.Perm (kvs.map Prod.fst)) (fun _=>True):=by
 intro ly J I1 Hc hI1 hJm hY hJ0;have c1:=c1.le hI1;have hmp:=(hI1) _ _ hmp;refine enter func222 call222 rfl ntmps222 rfl fun w0=>?_;refine go 4 ?_;refine b3A (a8t hmp) hS0 he rfl rfl fun i5=>?_;refine go 3 ?_
 refine a5t (S) (kvs) ([]) (I1) (Hc) (fun S2 todo pre I2 Hc=>I2)
  (fun S2 todo pre I2 Hc=>[(0,.func (.yield ly) #[] #[]),(5,.pointer (some ⟨i5,0,none⟩))])
  (fun S2 todo pre I2 Hc=>.any i5 (S2.it r)::Hc)
  (fun S2 todo pre I2 Hc=>ILe I1 I2∧S2.mp=S.mp∧S2.Ok a3W kvs∧S2.Todo a3W todo∧(pre++todo.map Prod.fst).Perm (kvs.map Prod.fst)∧J true pre I2 Hc)
  (fun S2 todo pre I2 Hc=>todo.length) ⟨ILe.refl _,rfl,hO0,hT0,.refl _,hJ0⟩ rfl sb rfl ?_
 intro S2 todo pre I2 Hc ⟨hI2,hme,hO,hT,hP,hJ⟩;have hmp2:I2 r=some S2.mp:=by rw[hme];exact hI2 _ _ hmp
 refine go 3 ?_;refine b6A (a8t hmp2) hO hT rfl rfl fun q6 S6 t6 hst he6=>?_;refine o_v rfl (a2M rfl (b0K _ _)) ?_;refine gC 3 (fun h7 p7=>?_) fun h7 p7=>?_
 ·obtain⟨e2,a,b,htd,hO1,hT1,hA1,rfl,rfl⟩:=hst.some h7;have hmp3:I2 r=some S6.mp:=by rw[he6];exact hmp2
  refine go 5 ?_;refine o_v rfl (b9i (a8t hmp3) m0 hO1 hA1 rfl) ?_;refine o_v rfl (OV.cast (u:=.agg e2.1.cells.toArray) (a2M rfl rfl) rfl) ?_;refine go 2 fun g3=>?_
  refine go 9 ?_;refine b8C (e2.1) hY (hJm _ _ _ _ _ (ILe.refl _) hJ) (rfl) ((c6y hP htd)) rfl rfl rfl fun b12 I12 Hc12 j12 hJ12=>?_;refine gC 3 (fun h13 p13=>?_) fun h13 p13=>?_
  ·have hb12:b12=false:=by simpa using h13
   refine go 5 ?_;refine a0a ?_;refine a0a ?_;subst hb12;exact c3R false _ hJ12 trivial
  ·have hb12:b12=true:=by simpa using h13
   refine go 3 ?_;refine a0a ?_;exact a2Y (S6) (a++b) (pre++[e2.1]) (I12) (Hc12) ⟨hI2.trans j12,he6.trans hme,hO1,hT1,b9Z hP htd,hb12▸hJ12⟩ (by rw[htd];simp) rfl sb rfl
 ·obtain⟨rfl,rfl,rfl⟩:=hst.none h7;refine go 5 ?_;refine a0a ?_;exact c3R true _ hJ (by simpa using hP)
theorem d4w (I:IMap) (r:Nat) :
    FnI prog 144 #[.map (some r)] I (fun u J=>∃g,u = .func (.func 222) #[] #[.pointer (some ⟨g,0,none⟩)]∧ICells J g 0 [.map (some r)]):=by
 refine enter func144 call144 rfl ntmps144 rfl fun w0=>?_;refine go 4 fun g1=>?_
 refine go 5 ?_;refine a0A fun Ig1 jg1 cg1=>?_;refine go 6 ?_;exact q_i ⟨_,rfl,cg1⟩
theorem b9s (I:IMap) (g:Nat) (Ls:List Flt) (hLs:Ls.length≤1000000) (hit:c0W prog 222 [.pointer (some ⟨g,0,none⟩)] I (fun _ vs (x:Flt)=>vs=[.agg x.cells.toArray]) (fun pre _=>pre.length<Ls.length) (fun pre=>pre.Perm Ls) (fun _=>True)) :
    FnH prog 282 #[.slice none 0 0,.func (.func 222) #[] #[.pointer (some ⟨g,0,none⟩)]] I [] (fun u J H2=>∃m:List Flt,H2=[.row u 157 3 m.length (m.flatMap Flt.cells)]∧m.Perm Ls):=by
 refine enter func282 call282 rfl ntmps282 rfl fun w0=>?_;refine go 4 fun g2=>?_
 refine go 6 ?_;refine a0E 157 3 ?_;refine go 4 ?_;refine a0b ?_;refine b0f (σ:=Value×List Flt) (ps:=[7]) (.slice none 0 0,[]) (fun ⟨v2,m⟩=>[.blk g2 46 [v2],.row v2 157 3 m.length (m.flatMap Flt.cells)]) (fun pre I ⟨v2,m⟩=>m=pre) (fun _ _ _ _=>False) rfl call222 (hit) (fun I vs x h=>by rw[h];rfl) rfl (fun pre I I' s hI h=>by obtain⟨v2,m⟩:=s;exact h) (fun _ _ _ _ _ _ h=>h) (rfl) rfl ?_ ?_ ?_
 ·rintro r E1 pre x vs I1 ⟨v2,m⟩ hI1 rfl rfl hlt;refine c4u ?_;refine go 3 fun g5=>?_
  refine go 3 ?_;refine a0b ?_;refine b1b ?_;refine go 6 fun v10=>?_
  refine go 1 ?_;refine a3w ?_;refine a0O he he rfl rfl rfl rfl rfl oM oM rfl fun v11=>?_;refine a1c fun A11 c11 hv11=>?_;subst hv11;refine go 1 ?_;refine a3w ?_;refine go 3 ?_;refine a0d ?_;refine a0a ?_;refine a0u ?_;refine a0a ?_;refine a0b ?_;refine a0b ?_;refine a0u ?_;refine a0u ?_;exact b5j ((.slice A11 (m.length+1) c11,m++[x])) (hI1) (rfl) (by show _=[Res.blk g2 46 [.slice A11 (m.length+1) c11],Res.row (.slice A11 (m.length+1) c11) 157 3 (m++[x]).length ((m++[x]).flatMap Flt.cells)];rw[List.length_append,List.flatMap_append];rfl)
 ·rintro D pre I1 ⟨v2,m⟩ hI1 hfull rfl;refine c4r ?_;refine go 9 ?_;refine b1a ?_;refine go 1 ?_;refine a0a ?_;refine a0a ?_;exact a2g (fun _ m=>m) ⟨m,rfl,hfull⟩
 ·rintro D pre I1 s cd hI1 hpart h;exact h.elim
theorem c5F (I:IMap) (g:Nat) (Ls:List Flt) (hLs:Ls.length≤1000000) (hit:c0W prog 222 [.pointer (some ⟨g,0,none⟩)] I (fun _ vs (x:Flt)=>vs=[.agg x.cells.toArray]) (fun pre _=>pre.length<Ls.length) (fun pre=>pre.Perm Ls) (fun _=>True)) :
    FnH prog 220 #[.func (.func 222) #[] #[.pointer (some ⟨g,0,none⟩)]] I [] (fun u J H2=>∃m:List Flt,H2=[.row u 157 3 m.length (m.flatMap Flt.cells)]∧m.Perm Ls):=by
 refine enter func220 call220 rfl ntmps220 rfl fun w0=>?_;refine go 9 ?_;refine a6w (b9s _ g Ls hLs hit) rfl rfl fun u4 I4 H4 j4 q4=>?_;obtain⟨m,rfl,hpm⟩:=q4;refine a6B ?_;refine go 5 ?_;exact a2g (fun _ m=>m) ⟨m,rfl,hpm⟩
theorem c8d (I:IMap) (g:Nat) (Ls:List Flt) (hLs:Ls.length≤1000000) (hit:c0W prog 222 [.pointer (some ⟨g,0,none⟩)] I (fun _ vs (x:Flt)=>vs=[.agg x.cells.toArray]) (fun pre _=>pre.length<Ls.length) (fun pre=>pre.Perm Ls) (fun _=>True)) :
    FnI prog 143 #[.func (.func 222) #[] #[.pointer (some ⟨g,0,none⟩)],.func (.func 145) #[] #[]] I (fun u J=>∃m,RdS J u m∧c5p a8q Ls m):=by
 refine enter func143 call143 rfl ntmps143 rfl fun w0=>?_;refine go 9 ?_;refine a6w (c5F _ g Ls hLs hit) rfl rfl fun u7 I7 H7 j7 q7=>?_;obtain⟨m0,rfl,hpm⟩:=q7;have hml:=hpm.length_eq;refine a6B ?_;refine go 8 ?_;refine a0Q (c7Z _ _ m0 oM) rfl rfl fun v10 s10 q10=>?_;obtain⟨rfl,m,hsr,rfl⟩:=q10;refine go 10 ?_;refine a0i (l:=m) rfl hsr.1.length_eq.symm (c6i m) fun I9 j9 R9=>?_;exact q_i ⟨m,R9,c4k hsr hpm⟩
theorem b4w (I:IMap) (r:Nat) (kvs:List (Flt×Value)) (hkl:kvs.length≤1000000) :
    FnD prog 69 #[.map (some r)] I (.mp r (a1A a3W kvs)) (fun u J=>∃m,RdS J u m∧c5p a8q (kvs.map Prod.fst) m):=by
 refine enter func69 call69 rfl ntmps69 rfl fun w0=>?_;refine go 7 ?_;refine a5o fun S1 hO2 hT2 hS2=>?_;refine b5w fun I8 j8 hmp=>?_;refine go 2 ?_;refine a0m (d4w _ r) rfl rfl fun v4 I4 j4 q4=>?_;obtain⟨g4,rfl,cg4⟩:=q4;refine go 1 ?_;refine a0m (c8d _ g4 (kvs.map Prod.fst) (by rw[List.length_map];omega) (by rw[List.length_map];exact d0W _ S1 r kvs hO2 hT2 hS2 g4 cg4 (j4 _ _ hmp))) rfl rfl fun v5 I5 j5 q5=>?_;obtain⟨m,q5,hsr⟩:=q5;refine go 5 ?_;exact q_d ⟨m,q5,hsr⟩
end Go.Proofs.YtgmkjpafapgccaaGreat
namespace Go.Proofs.YtgmkjpafapgccaaGreat
open Go Go.Sx Tryz
set_option linter.all false
set_option maxRecDepth 20000
set_option maxHeartbeats 4000000
instance:Has (a6J prog 50) (36,8):=hk
instance:Has (a6J prog 54) (95,4):=hk
instance:Has (a1k prog 56 0) (0,false,1):=hk
instance:Has (a1k prog 56 1) (1,false,1):=hk
instance:Has (a1k prog 56 2) (2,false,1):=hk
instance:Has (a1k prog 56 3) (3,false,1):=hk
instance:Has (a1k prog 56 4) (4,false,1):=hk
instance:Has (a1k prog 56 5) (5,false,1):=hk
instance:Has (a1k prog 95 0) (0,false,1):=hk
instance:Has (a1k prog 95 1) (1,false,1):=hk
instance:Has (tyK prog 29) (true,4):=hk
instance:Has (tyK prog 36) (true,8):=hk
instance:Has (tyK prog 50) (false,1):=hk
instance:Has (tyK prog 51) (false,1):=hk
instance:Has (tyK prog 52) (false,1):=hk
instance:Has (tyK prog 53) (false,1):=hk
instance:Has (tyK prog 54) (false,1):=hk
instance:Has (tyK prog 95) (true,4):=hk
instance T.und_50:Has (prog.underlying 50) (.slice 36):=hk
instance T.und_54:Has (prog.underlying 54) (.slice 95):=hk
instance:Has (a1o prog 146) [.map none]:=hk
instance:Has (a1o prog 95) [.string ⟨#[]⟩,.string ⟨#[]⟩,.slice none 0 0,.slice none 0 0]:=hk
theorem d4g (I:IMap) (v0 v1 v2 v3 v4 v5:Value) (b:Bok) (hb:BokRd I v0 v1 v2 v3 v4 v5 b) (hok:OkBok b) (vc:Value) (c:List Kind) (hvc:RdS I vc c) (hsc:SmC c) (ve:Value) (e:List Evt) (hve:RdS I ve e) (hel:e.length≤25) (hse:∀x∈e,SmE x) (v:Value) (l:List Part) (hv:RdS I v l) (hf:b1X l≤12) (p:Part) (q:Value) (hpr:RdS I q p.props) (day:Int) (r:Nat) (kvs:List (Flt×Value)) (x1 x2 x3:Value) (gb gd gs gf gx gl:Nat) (kb:ICells I gb 0 [v0,v1,v2,v3,v4,v5]) (kd:ICells I gd 0 [.int .i64 (day)]) (ks:ICells I gs 0 [v]) (kf:ICells I gf 0 [.map (some r)]) (kx:ICells I gx 0 [vc,x1,x2,x3]) (kl:ICells I gl 0 [ve])  :
    FnM prog 70 #[.agg (p.cells q).toArray,.pointer (some ⟨gb,0,none⟩),.pointer (some ⟨gd,0,none⟩),.pointer (some ⟨gs,0,none⟩),.pointer (some ⟨gf,0,none⟩),.pointer (some ⟨gx,0,none⟩),.pointer (some ⟨gl,0,none⟩)] I (.mp r (a1A a3W kvs)) (.mp r (a1A a3W (a8n kvs (a1Y b c e l day p)))):=by
 obtain⟨A0,c0,rfl,hA0,hc0,hm0⟩:=id hb.r0;obtain⟨A4,c4,rfl,hA4,hc4,hm4⟩:=id hb.r4;refine enter func70 call70 rfl ntmps70 rfl fun w0=>?_;refine go 4 fun g7=>?_
 refine go 6 ?_;refine o_v rfl (a0v he rfl (kb 0 _ rfl)) ?_;refine go 5 ?_;refine a0b ?_
 refine a0B ((0:Nat)) (I) (fun i J=>J)
  (fun i J=>[(1,.pointer (some ⟨gb,0,none⟩)),(2,.pointer (some ⟨gd,0,none⟩)),(3,.pointer (some ⟨gs,0,none⟩)),(4,.pointer (some ⟨gf,0,none⟩)),(5,.pointer (some ⟨gx,0,none⟩)),(6,.pointer (some ⟨gl,0,none⟩)),(7,.pointer (some ⟨g7,0,none⟩)),(13,.slice A0 b.rules.length c0),(14,.int .i64 ((b.rules.length:Nat):Int)),(15,.int .i64 ((i:Nat):Int))])
  (fun i J=>[.mp r (a1A a3W (a8n kvs (a3F b l day p (b.rules.take i)))),.blk g7 85 (p.cells q)])
  (fun i J=>i≤b.rules.length∧ILe I J)
  (fun i J=>b.rules.length-i) ⟨Nat.zero_le _,ILe.refl _⟩ rfl sb rfl ?_
 intro i J ⟨hi,hJ⟩;have hb:=hb.le hJ;have hvc:=hvc.le hJ;have hve:=hve.le hJ;have hv:=hv.le hJ;have hpr:=hpr.le hJ;have kb:=kb.le hJ;have kd:=kd.le hJ;have ks:=ks.le hJ;have kf:=kf.le hJ;have kx:=kx.le hJ;have kl:=kl.le hJ;have hA0:=hA0.le hJ;refine gC 6 (fun h16 p16=>?_) fun h16 p16=>?_
 ·have hlt:i<b.rules.length:=oM;have hor:=hok.rules _ (List.getElem_mem hlt);refine go 6 ?_;obtain⟨b17,o17,w17,e17,c17,r17⟩:=RdA.at_ hA0 (i:=i) hlt;obtain⟨s17,rfl,hs17⟩:=r17;refine go 4 fun g9=>?_
  refine go 1 ?_;refine a0Y _ he rfl rfl rfl rfl rfl (Enc.one (α:=Rul) (x:=b.rules[i]) ⟨s17,rfl,hs17⟩) ?_;refine gS 10 24 (fun h24 p24=>?_) fun h24 p24=>?_
  ·refine go 1 ?_;refine a0z (a0n rfl rfl h24 (a0q rfl (a0v he rfl (kb 3 _ rfl)) ?_));refine go 4 ?_;refine a0z (a0n rfl rfl h24 (a0q rfl (a0v he rfl (kd 0 _ rfl)) ?_));refine go 1 ?_;refine a0n rfl rfl h24 (a0y (b7F _ v3 b.conc hb.r3 p.name b.rules[i].name day) rfl rfl ?_);refine gS 3 35 (fun h35 p35=>?_) fun h35 p35=>?_
   ·refine a0z (a0n rfl rfl h35 (a0q rfl (a0S he rfl ks rfl) ?_));refine go 1 ?_;refine a0z (a0n rfl rfl h35 (a0q rfl (a1R (b.rules[i].cond.cs s17) m0 he rfl rfl rfl) ?_));refine go 2 ?_;refine a0z (a0n rfl rfl h35 (a0q rfl (a0v he rfl (kd 0 _ rfl)) ?_));refine go 1 ?_;refine a0n rfl rfl h35 (a0m (b3t _ v l hv hf b.rules[i].cond hor.2.2 _ (a8V hs17) p.name day) rfl rfl (fun v42 I42 j42 q42=>?_))
    try have hb:=hb.le j42
    try have hvc:=hvc.le j42
    try have hve:=hve.le j42
    try have hv:=hv.le j42
    try have hpr:=hpr.le j42
    try have kb:=kb.le j42
    try have kd:=kd.le j42
    try have ks:=ks.le j42
    try have kf:=kf.le j42
    try have kx:=kx.le j42
    try have kl:=kl.le j42
    try have hA0:=hA0.le j42
    try have hA4:=hA4.le j42
    try have hs17:=hs17.le j42
    try have hs58:=hs58.le j42
    obtain rfl:=q42;refine gC 4 (fun h44 p44=>?_) fun h44 p44=>?_
    ·refine go 1 ?_;refine o_v rfl (a0v he rfl (kf 0 _ rfl)) ?_;refine go 6 fun v50=>?_
     refine a0i (l:=[b.rules[i].name]) rfl rfl ((.one rfl)) fun I50 j50 R50=>?_
     try have hb:=hb.le j50
     try have hvc:=hvc.le j50
     try have hve:=hve.le j50
     try have hv:=hv.le j50
     try have hpr:=hpr.le j50
     try have kb:=kb.le j50
     try have kd:=kd.le j50
     try have ks:=ks.le j50
     try have kf:=kf.le j50
     try have kx:=kx.le j50
     try have kl:=kl.le j50
     try have hA0:=hA0.le j50
     try have hA4:=hA4.le j50
     try have hs17:=hs17.le j50
     try have hs58:=hs58.le j50
     refine go 1 ?_;refine a0b ?_;refine a2V (b9I _ r (a8n kvs (a3F b l day p (b.rules.take i))) 1 p.name _ [b.rules[i].name] R50) rfl rfl ?_;refine go 8 ?_;refine a0b ?_;refine a0a ?_;exact a0o (i+1) (I50) ⟨oM,hJ.trans (j42.trans j50)⟩ oM rfl sb (by rw[b6D hlt (by simp only[a4Y,h16,h24,h35,h44,bS]),←a6z];rfl)
    ·refine go 8 ?_;refine a0a ?_;exact a0o (i+1) (I42) ⟨oM,hJ.trans j42⟩ oM rfl sb (by rw[a8D hlt (by simp only[a4Y,h16,h24,h35,h44,bS])])
   ·refine go 20 ?_;refine a0a ?_;exact a0o (i+1) (J) ⟨oM,hJ⟩ oM rfl sb (by rw[a8D hlt (by simp only[a4Y,h16,h24,h35,bS])])
  ·refine go 31 ?_;refine a0a ?_;exact a0o (i+1) (J) ⟨oM,hJ⟩ oM rfl sb (by rw[a8D hlt (by simp only[a4Y,h16,h24,bS])])
 ·obtain rfl:i=b.rules.length:=oM;rw[List.take_length];refine go 9 ?_;refine o_v rfl (a0v he rfl (kb 4 _ rfl)) ?_;refine go 5 ?_
  refine a0B ((0:Nat)) (J) (fun i J2=>J2)
   (fun i J2=>[(1,.pointer (some ⟨gb,0,none⟩)),(2,.pointer (some ⟨gd,0,none⟩)),(3,.pointer (some ⟨gs,0,none⟩)),(4,.pointer (some ⟨gf,0,none⟩)),(5,.pointer (some ⟨gx,0,none⟩)),(6,.pointer (some ⟨gl,0,none⟩)),(7,.pointer (some ⟨g7,0,none⟩)),(54,.slice A4 b.recalls.length c4),(55,.int .i64 ((b.recalls.length:Nat):Int)),(56,.int .i64 ((i:Nat):Int))])
   (fun i J2=>[.mp r (a1A a3W (a8n (a8n kvs (a3F b l day p (b.rules))) (a6b l day p (b.recalls.take i)))),.blk g7 85 (p.cells q)])
   (fun i J2=>i≤b.recalls.length∧ILe J J2)
   (fun i J2=>b.recalls.length-i) ⟨Nat.zero_le _,ILe.refl _⟩ rfl sb rfl ?_
  intro i J2 ⟨hi2,hJ2⟩;have hb:=hb.le hJ2;have hvc:=hvc.le hJ2;have hve:=hve.le hJ2;have hv:=hv.le hJ2;have hpr:=hpr.le hJ2;have kb:=kb.le hJ2;have kd:=kd.le hJ2;have ks:=ks.le hJ2;have kf:=kf.le hJ2;have kx:=kx.le hJ2;have kl:=kl.le hJ2;have hA4:=hA4.le (hJ.trans hJ2);refine gC 6 (fun h57 p57=>?_) fun h57 p57=>?_
  ·have hlt:i<b.recalls.length:=oM;have hor:=hok.recalls _ (List.getElem_mem hlt);refine go 6 ?_;obtain⟨b58,o58,w58,e58,c58,r58⟩:=RdA.at_ hA4 (i:=i) hlt;obtain⟨s58,rfl,hs58⟩:=r58;refine go 4 fun g11=>?_
   refine go 1 ?_;refine a0Y _ he rfl rfl rfl rfl rfl (Enc.one (α:=Rul) (x:=b.recalls[i]) ⟨s58,rfl,hs58⟩) ?_;refine gS 10 65 (fun h65 p65=>?_) fun h65 p65=>?_
   ·refine a0z (a0n rfl rfl h65 (a0q rfl (a0S he rfl ks rfl) ?_));refine go 1 ?_;refine a0z (a0n rfl rfl h65 (a0q rfl (a1R (b.recalls[i].cond.cs s58) m0 he rfl rfl rfl) ?_));refine go 2 ?_;refine a0z (a0n rfl rfl h65 (a0q rfl (a0v he rfl (kd 0 _ rfl)) ?_));refine go 1 ?_;refine a0n rfl rfl h65 (a0m (b3t _ v l hv hf b.recalls[i].cond hor.2.2 _ (a8V hs58) p.name day) rfl rfl (fun v72 I72 j72 q72=>?_))
    try have hb:=hb.le j72
    try have hvc:=hvc.le j72
    try have hve:=hve.le j72
    try have hv:=hv.le j72
    try have hpr:=hpr.le j72
    try have kb:=kb.le j72
    try have kd:=kd.le j72
    try have ks:=ks.le j72
    try have kf:=kf.le j72
    try have kx:=kx.le j72
    try have kl:=kl.le j72
    try have hA0:=hA0.le j72
    try have hA4:=hA4.le j72
    try have hs17:=hs17.le j72
    try have hs58:=hs58.le j72
    obtain rfl:=q72;refine gC 4 (fun h74 p74=>?_) fun h74 p74=>?_
    ·refine go 1 ?_;refine o_v rfl (a0v he rfl (kf 0 _ rfl)) ?_;refine go 6 fun v80=>?_
     refine a0i (l:=[b.recalls[i].name]) rfl rfl ((.one rfl)) fun I80 j80 R80=>?_
     try have hb:=hb.le j80
     try have hvc:=hvc.le j80
     try have hve:=hve.le j80
     try have hv:=hv.le j80
     try have hpr:=hpr.le j80
     try have kb:=kb.le j80
     try have kd:=kd.le j80
     try have ks:=ks.le j80
     try have kf:=kf.le j80
     try have kx:=kx.le j80
     try have kl:=kl.le j80
     try have hA0:=hA0.le j80
     try have hA4:=hA4.le j80
     try have hs17:=hs17.le j80
     try have hs58:=hs58.le j80
     refine go 1 ?_;refine a0b ?_;refine a2V (b9I _ r (a8n (a8n kvs (a3F b l day p (b.rules))) (a6b l day p (b.recalls.take i))) 5 p.name _ [b.recalls[i].name] R80) rfl rfl ?_;refine go 8 ?_;refine a0b ?_;refine a0a ?_;exact a0o (i+1) (I80) ⟨oM,hJ2.trans (j72.trans j80)⟩ oM rfl sb (by rw[c0j hlt (by simp only[a7P,h57,h65,h74,bS]),←a6z];rfl)
    ·refine go 8 ?_;refine a0a ?_;exact a0o (i+1) (I72) ⟨oM,hJ2.trans j72⟩ oM rfl sb (by rw[b4W hlt (by simp only[a7P,h57,h65,h74,bS])])
   ·refine go 20 ?_;refine a0a ?_;exact a0o (i+1) (J2) ⟨oM,hJ2⟩ oM rfl sb (by rw[b4W hlt (by simp only[a7P,h57,h65,bS])])
  ·obtain rfl:i=b.recalls.length:=oM;rw[List.take_length];refine go 6 ?_;refine a1P fun hE13 hf13=>?_;refine ds1 ?_;refine a0F 0 rfl rfl (by kernel_rfl) rfl (.cons _ (.refl _)) rfl (a0v he rfl (kf 0 _ rfl)) ?_;refine dG 1 3 ?_;refine a0F 4 rfl rfl (by kernel_rfl) rfl (.cons _ (.refl _)) rfl (a0v he rfl (kb 2 _ rfl)) ?_;refine dG 5 1 ?_;refine a0F 6 rfl rfl (by kernel_rfl) rfl (.cons _ (.refl _)) rfl (a0S he rfl (kx.sub 0 1) rfl) ?_;refine a0F 7 rfl rfl (by kernel_rfl) rfl (.cons _ (.refl _)) rfl (a0v he rfl (kl 0 _ rfl)) ?_;refine dG 8 2 ?_;refine a0F 10 rfl rfl (by kernel_rfl) rfl (.cons _ (.refl _)) rfl (a0v he rfl (kd 0 _ rfl)) ?_;refine dH 11 0 ?_;refine a0m (c1R _ v2 b.duties hb.r2 hok.dl hok.duties vc c hvc hsc ve e hve oM hse p.name day) rfl rfl fun v94 I94 j94 q94=>?_
   try have hb:=hb.le j94
   try have hvc:=hvc.le j94
   try have hve:=hve.le j94
   try have hv:=hv.le j94
   try have hpr:=hpr.le j94
   try have kb:=kb.le j94
   try have kd:=kd.le j94
   try have ks:=ks.le j94
   try have kf:=kf.le j94
   try have kx:=kx.le j94
   try have kl:=kl.le j94
   try have hA0:=hA0.le j94
   try have hA4:=hA4.le j94
   try have hs17:=hs17.le j94
   try have hs58:=hs58.le j94
   refine dH 12 0 ?_;refine a2V (b9I _ r _ 3 p.name _ (b3q b.duties c e p.name day) q94) rfl rfl ?_;refine go 6 ?_;refine o_v rfl (a0S he rfl (kx.sub 0 1) rfl) ?_;refine go 1 ?_;refine o_v rfl (a0v he rfl (kb 1 _ rfl)) ?_;refine o_v rfl (a0S he rfl ks rfl) ?_;refine go 2 ?_;refine o_v rfl (a0v he rfl (kd 0 _ rfl)) ?_;refine go 1 ?_;refine cV (b0l _ vc c hvc v1 b.subs hb.r1 v l hv p.name day) ?_;refine gC 3 (fun h105 p105=>?_) fun h105 p105=>?_
   ·refine go 1 ?_;refine o_v rfl (a0v he rfl (kf 0 _ rfl)) ?_;refine go 6 fun v111=>?_
    refine a0i (l:=[p.slot]) rfl rfl ((.one rfl)) fun I111 j111 R111=>?_
    try have hb:=hb.le j111
    try have hvc:=hvc.le j111
    try have hve:=hve.le j111
    try have hv:=hv.le j111
    try have hpr:=hpr.le j111
    try have kb:=kb.le j111
    try have kd:=kd.le j111
    try have ks:=ks.le j111
    try have kf:=kf.le j111
    try have kx:=kx.le j111
    try have kl:=kl.le j111
    try have hA0:=hA0.le j111
    try have hA4:=hA4.le j111
    try have hs17:=hs17.le j111
    try have hs58:=hs58.le j111
    refine go 1 ?_;refine a2V (b9I _ r _ 2 p.name _ [p.slot] R111) rfl rfl ?_;refine go 2 ?_;refine a0b ?_;refine a0a ?_;exact b5i (by simp only[a6z,a1Y,b2n,a7I,if_pos p105,List.append_assoc,List.map_cons,List.map_nil])
   ·refine go 2 ?_;refine a0b ?_;refine a0a ?_;exact b5i (by simp only[a6z,a1Y,b2n,a7I,p105,Bool.true_eq_false,if_false,List.append_nil,List.append_assoc])
theorem d8o (I:IMap) (vc:Value) (c:List Kind) (hvc:RdS I vc c) (hsc:SmC c) (f:Fm) (sf:Value) (hfm:FmRd I [ci f.op,ci f.n,sf] f) (v0 v1 v2 v3 v4 v5:Value) (b:Bok) (hb:BokRd I v0 v1 v2 v3 v4 v5 b) (hok:OkBok b) (ve:Value) (e:List Evt) (hve:RdS I ve e) (hel:e.length≤25) (hse:∀x∈e,SmE x) (vn:ByteArray) (day:Int) :
    FnI prog 21 #[.agg #[vc,ci f.op,ci f.n,sf],.agg #[v0,v1,v2,v3,v4,v5],ve,.string vn,.int .i64 (day)] I (fun u J=>RdS J u (ofF f c b e vn day)):=by
 obtain⟨Ae,ce,rfl,hAe,hce,hme⟩:=id hve;refine enter func21 call21 rfl ntmps21 rfl fun w0=>?_;refine go 4 fun g5=>?_
 refine go 2 fun g6=>?_
 refine go 2 fun g7=>?_
 refine go 2 fun g9=>?_
 refine go 6 ?_;refine a5i (a3W) he rfl fun r26=>?_;refine go 2 fun g11=>?_
 refine go 10 ?_;refine a0m (b3r _ vc c hvc hsc f sf hfm (.slice Ae e.length ce) e hve hel hse day) rfl rfl fun v31 I31 j31 q31=>?_
 try have hb:=hb.le j31
 try have hvc:=hvc.le j31
 try have hve:=hve.le j31
 try have hw:=hw.le j31
 try have hfm:=hfm.le j31
 try have hs38:=hs38.le j31
 try have hsk:=hsk.le j31
 try have cg6:=cg6.le j31
 try have cg9:=cg9.le j31
 try have cg12:=cg12.le j31
 try have cg11:=cg11.le j31
 try have cg5:=cg5.le j31
 try have cg7:=cg7.le j31
 try have hAn:=hAn.le j31
 try have hns0:=hns0.le j31
 try have hA5:=hA5.le j31
 try have ha97:=ha97.le j31
 try have hb97:=hb97.le j31
 obtain⟨w,rfl,hw⟩:=q31;refine go 6 fun g12=>?_
 refine go 1 ?_;refine a0Y _ he rfl rfl rfl rfl rfl (by simp[hw.one]) ?_;refine go 9 ?_;refine a0T (a6K _ w (runL f c e day).1 hw vn) rfl rfl fun v38 q38=>?_;obtain⟨vs38,rfl,s38,rfl,hs38⟩:=q38;refine go 5 fun g15=>?_
 refine go 1 ?_;refine a0Y _ he rfl rfl rfl rfl rfl (Enc.one (α:=Part) (x:=((a0e (runL f c e day).1 vn).getD zPart)) ⟨s38,rfl,hs38⟩) ?_;refine go 7 ?_;refine o_v rfl (a1R ([vc]) m7 he rfl rfl rfl) ?_;refine go 3 ?_;refine a0T (b0h _ vc c hvc ((a0e (runL f c e day).1 vn).getD zPart).kind) rfl rfl fun v46 q46=>?_;obtain⟨vk,rfl,sk,rfl,hsk⟩:=q46;refine go 5 fun g17=>?_
 refine go 1 ?_;refine a0Y _ he rfl rfl rfl rfl rfl (by simp[Kind.cells,hsk.one];exact⟨rfl,rfl⟩) ?_;refine go 4 ?_;refine a1V (I':=I31) (L':=[(3,.string vn),(5,.pointer (some ⟨g5,0,none⟩)),(6,.pointer (some ⟨g6,0,none⟩)),(7,.pointer (some ⟨g7,0,none⟩)),(9,.pointer (some ⟨g9,0,none⟩)),(11,.pointer (some ⟨g11,0,none⟩)),(12,.pointer (some ⟨g12,0,none⟩)),(15,.pointer (some ⟨g15,0,none⟩)),(63,.bool (c5j c (runL f c e day).1 (runL f c e day).2.2 vn))]) (H':=[.mp r26 (a1A a3W []),.blk g5 29 [vc,ci f.op,ci f.n,sf],.blk g6 56 [v0,v1,v2,v3,v4,v5],.blk g7 72 [.slice Ae e.length ce],.blk g9 3 [.int .i64 (day)],.blk g11 146 [.map (some r26)],.blk g12 62 [w],.blk g15 85 (((a0e (runL f c e day).1 vn).getD zPart).cells s38)]) ?_ ?_
 ·refine gS 4 51 (fun h51 p51=>?_) fun h51 p51=>?_
  ·refine go 14 ?_;refine a0a ?_;refine a0b ?_;refine a0d ?_;refine a1y ?_;refine a3w ?_;refine a0V ?_;refine a5R ?_;refine a5R ?_;exact a0r ⟨rfl,rfl,rfl,rfl,rfl,rfl,rfl,rfl,(bB (by simp only[c5j,h51,bS])),trivial⟩ rfl rfl
  ·refine gS 4 55 (fun h55 p55=>?_) fun h55 p55=>?_
   ·refine go 10 ?_;refine a0a ?_;refine a0b ?_;refine a0d ?_;refine a1y ?_;refine a3w ?_;refine a0V ?_;refine a5R ?_;refine a5R ?_;exact a0r ⟨rfl,rfl,rfl,rfl,rfl,rfl,rfl,rfl,(bB (by simp only[c5j,h51,h55,bS])),trivial⟩ rfl rfl
   ·refine gS 4 59 (fun h59 p59=>?_) fun h59 p59=>?_
    ·refine go 6 ?_;refine a0a ?_;refine a0b ?_;refine a0d ?_;refine a1y ?_;refine a3w ?_;refine a0V ?_;refine a5R ?_;refine a5R ?_;exact a0r ⟨rfl,rfl,rfl,rfl,rfl,rfl,rfl,rfl,(bB (by simp only[c5j,h51,h55,h59,bS])),trivial⟩ rfl rfl
    ·refine go 6 ?_;refine a0a ?_;refine a0b ?_;refine a0d ?_;refine a1y ?_;refine a3w ?_;refine a0V ?_;refine a5R ?_;refine a5R ?_;exact a0r ⟨rfl,rfl,rfl,rfl,rfl,rfl,rfl,rfl,(bB (by simp only[c5j,h51,h55,h59,bS])),trivial⟩ rfl rfl
 ·refine gC 0 (fun h63 p63=>?_) fun h63 p63=>?_
  ·refine go 6 fun v66=>?_
   refine a0i (l:=[(⟨#[]⟩:ByteArray)]) rfl rfl ((.one rfl)) fun I66 j66 R66=>?_
   try have hb:=hb.le j66
   try have hvc:=hvc.le j66
   try have hve:=hve.le j66
   try have hw:=hw.le j66
   try have hfm:=hfm.le j66
   try have hs38:=hs38.le j66
   try have hsk:=hsk.le j66
   try have cg6:=cg6.le j66
   try have cg9:=cg9.le j66
   try have cg12:=cg12.le j66
   try have cg11:=cg11.le j66
   try have cg5:=cg5.le j66
   try have cg7:=cg7.le j66
   try have hAn:=hAn.le j66
   try have hns0:=hns0.le j66
   try have hA5:=hA5.le j66
   try have ha97:=ha97.le j66
   try have hb97:=hb97.le j66
   refine go 1 ?_;refine a2V (b9I _ r26 [] 4 vn _ [⟨#[]⟩] R66) rfl rfl ?_;refine go 6 ?_;refine b0O (b4w _ r26 _ (Nat.le_of_ble_eq_true rfl)) rfl rfl fun v69 I69 j69 q69=>?_
   try have hb:=hb.le j69
   try have hvc:=hvc.le j69
   try have hve:=hve.le j69
   try have hw:=hw.le j69
   try have hfm:=hfm.le j69
   try have hs38:=hs38.le j69
   try have hsk:=hsk.le j69
   try have cg6:=cg6.le j69
   try have cg9:=cg9.le j69
   try have cg12:=cg12.le j69
   try have cg11:=cg11.le j69
   try have cg5:=cg5.le j69
   try have cg7:=cg7.le j69
   try have hAn:=hAn.le j69
   try have hns0:=hns0.le j69
   try have hA5:=hA5.le j69
   try have ha97:=ha97.le j69
   try have hb97:=hb97.le j69
   obtain⟨m,hm69,hsr⟩:=q69;refine go 6 ?_;refine a0a ?_;refine a0a ?_;refine a0a ?_;refine a0a ?_;refine a0a ?_;refine a0a ?_;refine a0a ?_;have e1:=b5t (a6d [⟨4,vn,⟨#[]⟩⟩] KeysG.nil) hsr;exact q_i (by unfold ofF;rw[if_pos h63,←c8i,←show _=c0K a4o [_] from e1];exact hm69)
  ·refine go 4 ?_;refine a0d ?_;refine a0A fun Ig6 jg6 cg6=>?_;have hb:=hb.le jg6;have hvc:=hvc.le jg6;have hve:=hve.le jg6;have hw:=hw.le jg6;have hfm:=hfm.le jg6;have hs38:=hs38.le jg6;refine a0u ?_;refine a0A fun Ig9 jg9 cg9=>?_;have hb:=hb.le jg9;have hvc:=hvc.le jg9;have hve:=hve.le jg9;have hw:=hw.le jg9;have hfm:=hfm.le jg9;have hs38:=hs38.le jg9;have cg6:=cg6.le jg9;refine a1y ?_;refine a0A fun Ig12 jg12 cg12=>?_;have hb:=hb.le jg12;have hvc:=hvc.le jg12;have hve:=hve.le jg12;have hw:=hw.le jg12;have hfm:=hfm.le jg12;have hs38:=hs38.le jg12;have cg6:=cg6.le jg12;have cg9:=cg9.le jg12;refine a0u ?_;refine a0A fun Ig11 jg11 cg11=>?_;have hb:=hb.le jg11;have hvc:=hvc.le jg11;have hve:=hve.le jg11;have hw:=hw.le jg11;have hfm:=hfm.le jg11;have hs38:=hs38.le jg11;have cg6:=cg6.le jg11;have cg9:=cg9.le jg11;have cg12:=cg12.le jg11;refine a0b ?_;refine a0A fun Ig5 jg5 cg5=>?_;have hb:=hb.le jg5;have hvc:=hvc.le jg5;have hve:=hve.le jg5;have hw:=hw.le jg5;have hfm:=hfm.le jg5;have hs38:=hs38.le jg5;have cg6:=cg6.le jg5;have cg9:=cg9.le jg5;have cg12:=cg12.le jg5;have cg11:=cg11.le jg5;refine a0b ?_;refine a0A fun Ig7 jg7 cg7=>?_;have hb:=hb.le jg7;have hvc:=hvc.le jg7;have hve:=hve.le jg7;have hw:=hw.le jg7;have hfm:=hfm.le jg7;have hs38:=hs38.le jg7;have cg6:=cg6.le jg7;have cg9:=cg9.le jg7;have cg12:=cg12.le jg7;have cg11:=cg11.le jg7;have cg5:=cg5.le jg7;refine go 9 ?_;have hfit:=(c2k (f:=f) (c:=c) (day:=day) hel).1;refine a2V (d4g _ v0 v1 v2 v3 v4 v5 b hb hok vc c hvc hsc (.slice Ae e.length ce) e hve hel hse w (runL f c e day).1 hw hfit ((a0e (runL f c e day).1 vn).getD zPart) s38 hs38 day r26 [] (ci f.op) (ci f.n) sf g6 g9 g12 g11 g5 g7 cg6 cg9 cg12 cg11 cg5 cg7) rfl rfl ?_;refine go 5 ?_;refine o_v rfl (a0S he rfl cg12 rfl) ?_;refine go 2 ?_;refine a1X (a7r _ w (runL f c e day).1 hw vn hfit) rfl rfl fun v76 s76 q76=>?_;obtain⟨ns,rfl,hns,hnl,hnd⟩:=q76;refine a0i (l:=ns) rfl rfl ((a2T _ ns).flat) fun Ip jp Rp=>?_
   try have hb:=hb.le jp
   try have hvc:=hvc.le jp
   try have hve:=hve.le jp
   try have hw:=hw.le jp
   try have hfm:=hfm.le jp
   try have hs38:=hs38.le jp
   try have hsk:=hsk.le jp
   try have cg6:=cg6.le jp
   try have cg9:=cg9.le jp
   try have cg12:=cg12.le jp
   try have cg11:=cg11.le jp
   try have cg5:=cg5.le jp
   try have cg7:=cg7.le jp
   try have hAn:=hAn.le jp
   try have hns0:=hns0.le jp
   try have hA5:=hA5.le jp
   try have ha97:=ha97.le jp
   try have hb97:=hb97.le jp
   have hns0:=Rp;obtain⟨An,cn,rfl,hAn,_,_⟩:=id Rp;refine go 5 ?_;refine a0b ?_;refine a0a ?_
   refine a0B ((0:Nat)) (Ip) (fun i J=>J)
    (fun i J=>[(3,.string vn),(5,.pointer (some ⟨g5,0,none⟩)),(6,.pointer (some ⟨g6,0,none⟩)),(7,.pointer (some ⟨g7,0,none⟩)),(9,.pointer (some ⟨g9,0,none⟩)),(11,.pointer (some ⟨g11,0,none⟩)),(12,.pointer (some ⟨g12,0,none⟩)),(19,.func (.func 70) #[] #[.pointer (some ⟨g6,0,none⟩),.pointer (some ⟨g9,0,none⟩),.pointer (some ⟨g12,0,none⟩),.pointer (some ⟨g11,0,none⟩),.pointer (some ⟨g5,0,none⟩),.pointer (some ⟨g7,0,none⟩)]),(76,.slice An ns.length cn),(77,.int .i64 ((ns.length:Nat):Int)),(78,.int .i64 ((i:Nat):Int))])
    (fun i J=>[.mp r26 (a1A a3W (a8n (a8n [] (a1Y b c e (runL f c e day).1 day ((a0e (runL f c e day).1 vn).getD zPart))) ((ns.take i).flatMap fun n=>a1Y b c e (runL f c e day).1 day ((a0e (runL f c e day).1 n).getD zPart))))])
    (fun i J=>i≤ns.length∧ILe Ip J)
    (fun i J=>ns.length-i) ⟨Nat.zero_le _,ILe.refl _⟩ rfl sb rfl ?_
   intro i J ⟨hi,hJ⟩;have hb:=hb.le hJ;have hvc:=hvc.le hJ;have hve:=hve.le hJ;have hw:=hw.le hJ;have hfm:=hfm.le hJ;have cg5:=cg5.le hJ;have cg6:=cg6.le hJ;have cg7:=cg7.le hJ;have cg9:=cg9.le hJ;have cg11:=cg11.le hJ;have cg12:=cg12.le hJ;have hAn:=hAn.le hJ;refine gC 6 (fun h79 p79=>?_) fun h79 p79=>?_
   ·have hlt:i<ns.length:=oM;refine go 6 ?_;obtain⟨b80,o80,w80,e80,c80,r80⟩:=RdA.at_ hAn (i:=i) hlt;obtain rfl:=r80;refine go 7 ?_;refine o_v rfl (a0S he rfl cg12 rfl) ?_;refine go 2 ?_;refine a0T (a6K _ w (runL f c e day).1 hw ns[i]) rfl rfl fun v85 q85=>?_;obtain⟨vs85,rfl,s85,rfl,hs85⟩:=q85;refine go 5 fun g22=>?_
    refine go 1 ?_;refine a0Y _ he rfl rfl rfl rfl rfl (Enc.one (α:=Part) (x:=((a0e (runL f c e day).1 ns[i]).getD zPart)) ⟨s85,rfl,hs85⟩) ?_;refine go 7 ?_;refine a0b ?_;refine a2V (d4g _ v0 v1 v2 v3 v4 v5 b hb hok vc c hvc hsc (.slice Ae e.length ce) e hve hel hse w (runL f c e day).1 hw hfit ((a0e (runL f c e day).1 ns[i]).getD zPart) s85 hs85 day r26 (a8n (a8n [] (a1Y b c e (runL f c e day).1 day ((a0e (runL f c e day).1 vn).getD zPart))) ((ns.take i).flatMap fun n=>a1Y b c e (runL f c e day).1 day ((a0e (runL f c e day).1 n).getD zPart))) (ci f.op) (ci f.n) sf g6 g9 g12 g11 g5 g7 cg6 cg9 cg12 cg11 cg5 cg7) rfl rfl ?_;refine go 8 ?_;refine a0b ?_;refine a0a ?_;exact a0o (i+1) (J) ⟨oM,hJ⟩ oM rfl sb (by simp only[←a0c hlt,List.flatMap_append,a6z,List.append_assoc,List.flatMap_cons,List.flatMap_nil,List.append_nil])
   ·obtain rfl:i=ns.length:=oM;rw[List.take_length];obtain⟨A5,c5,rfl,hA5,hc5,hm5⟩:=id hb.r5;refine go 9 ?_;refine o_v rfl (a0v he rfl (cg6 5 _ rfl)) ?_;refine go 5 ?_
    refine a0B ((0:Nat)) (J) (fun i J2=>J2)
     (fun i J2=>[(3,.string vn),(5,.pointer (some ⟨g5,0,none⟩)),(6,.pointer (some ⟨g6,0,none⟩)),(7,.pointer (some ⟨g7,0,none⟩)),(9,.pointer (some ⟨g9,0,none⟩)),(11,.pointer (some ⟨g11,0,none⟩)),(12,.pointer (some ⟨g12,0,none⟩)),(93,.slice A5 b.holds.length c5),(94,.int .i64 ((b.holds.length:Nat):Int)),(95,.int .i64 ((i:Nat):Int))])
     (fun i J2=>[.mp r26 (a1A a3W (a8n (a8n (a8n [] (a1Y b c e (runL f c e day).1 day ((a0e (runL f c e day).1 vn).getD zPart))) ((ns).flatMap fun n=>a1Y b c e (runL f c e day).1 day ((a0e (runL f c e day).1 n).getD zPart))) (a2W vn (b.holds.take i))))])
     (fun i J2=>i≤b.holds.length∧ILe J J2)
     (fun i J2=>b.holds.length-i) ⟨Nat.zero_le _,ILe.refl _⟩ rfl sb rfl ?_
    intro i J2 ⟨hi2,hJ2⟩;have hb:=hb.le hJ2;have hvc:=hvc.le hJ2;have hve:=hve.le hJ2;have hw:=hw.le hJ2;have hfm:=hfm.le hJ2;have cg5:=cg5.le hJ2;have cg6:=cg6.le hJ2;have cg7:=cg7.le hJ2;have cg9:=cg9.le hJ2;have cg11:=cg11.le hJ2;have cg12:=cg12.le hJ2;have hA5:=hA5.le hJ2;refine gC 6 (fun h96 p96=>?_) fun h96 p96=>?_
    ·have hlt:i<b.holds.length:=oM;refine go 6 ?_;obtain⟨b97,o97,w97,e97,c97,r97⟩:=RdA.at_ hA5 (i:=i) hlt;obtain⟨a97,b97,rfl,ha97,hb97⟩:=r97;refine go 4 fun g25=>?_
     refine go 1 ?_;refine a0Y _ he rfl rfl rfl rfl rfl (Enc.one (α:=Hld) (x:=b.holds[i]) ⟨a97,b97,rfl,ha97,hb97⟩) ?_;refine gS 9 103 (fun h103 p103=>?_) fun h103 p103=>?_
     ·refine go 2 ?_;refine a0n rfl rfl h103 (a0y (d7p _ b.holds[i] a97 b97 ha97 hb97) rfl rfl ?_);refine gC 3 (fun h106 p106=>?_) fun h106 p106=>?_
      ·refine go 1 ?_;refine o_v rfl (a0v he rfl (cg11 0 _ rfl)) ?_;refine go 5 fun v111=>?_
       refine a0i (l:=[b.holds[i].id]) rfl rfl ((.one rfl)) fun I111 j111 R111=>?_
       try have hb:=hb.le j111
       try have hvc:=hvc.le j111
       try have hve:=hve.le j111
       try have hw:=hw.le j111
       try have hfm:=hfm.le j111
       try have hs38:=hs38.le j111
       try have hsk:=hsk.le j111
       try have cg6:=cg6.le j111
       try have cg9:=cg9.le j111
       try have cg12:=cg12.le j111
       try have cg11:=cg11.le j111
       try have cg5:=cg5.le j111
       try have cg7:=cg7.le j111
       try have hAn:=hAn.le j111
       try have hns0:=hns0.le j111
       try have hA5:=hA5.le j111
       try have ha97:=ha97.le j111
       try have hb97:=hb97.le j111
       refine go 1 ?_;refine a0b ?_;refine a2V (b9I _ r26 (a8n (a8n (a8n [] (a1Y b c e (runL f c e day).1 day ((a0e (runL f c e day).1 vn).getD zPart))) ((ns).flatMap fun n=>a1Y b c e (runL f c e day).1 day ((a0e (runL f c e day).1 n).getD zPart))) (a2W vn (b.holds.take i))) 6 vn _ [b.holds[i].id] R111) rfl rfl ?_;refine go 8 ?_;refine a0b ?_;refine a0a ?_;exact a0o (i+1) (I111) ⟨oM,hJ2.trans j111⟩ oM rfl sb (by rw[b6C hlt (by simp only[h96,h103,h106,bS]),←a6z];rfl)
      ·refine go 8 ?_;refine a0a ?_;exact a0o (i+1) (J2) ⟨oM,hJ2⟩ oM rfl sb (by rw[b2l hlt (by simp only[h96,h103,h106,bS])])
     ·refine go 14 ?_;refine a0a ?_;exact a0o (i+1) (J2) ⟨oM,hJ2⟩ oM rfl sb (by rw[b2l hlt (by simp only[h96,h103,bS])])
    ·obtain rfl:i=b.holds.length:=oM;rw[List.take_length];have hK:=a6d (a2W vn b.holds) (a6d (ns.flatMap fun n=>a1Y b c e (runL f c e day).1 day ((a0e (runL f c e day).1 n).getD zPart)) (a6d (a1Y b c e (runL f c e day).1 day ((a0e (runL f c e day).1 vn).getD zPart)) (KeysG.nil (κ:=Flt))));refine go 7 ?_;refine o_v rfl (a0v he rfl (cg11 0 _ rfl)) ?_;refine go 1 ?_;refine b0O (b4w _ r26 _ (d4y hok hnl hK)) rfl rfl fun v115 I115 j115 q115=>?_
     try have hb:=hb.le j115
     try have hvc:=hvc.le j115
     try have hve:=hve.le j115
     try have hw:=hw.le j115
     try have hfm:=hfm.le j115
     try have hs38:=hs38.le j115
     try have hsk:=hsk.le j115
     try have cg6:=cg6.le j115
     try have cg9:=cg9.le j115
     try have cg12:=cg12.le j115
     try have cg11:=cg11.le j115
     try have cg5:=cg5.le j115
     try have cg7:=cg7.le j115
     try have hAn:=hAn.le j115
     try have hns0:=hns0.le j115
     try have hA5:=hA5.le j115
     try have ha97:=ha97.le j115
     try have hb97:=hb97.le j115
     obtain⟨m,hm115,hsr⟩:=q115;refine go 5 ?_;have e1:=b5t hK hsr
     exact q_i (by
       unfold ofF;rw[if_neg (by rw[h63];decide)];rw[c8h (m:=([]++(a1Y b c e (runL f c e day).1 day ((a0e (runL f c e day).1 vn).getD zPart))++(ns.flatMap fun n=>a1Y b c e (runL f c e day).1 day ((a0e (runL f c e day).1 n).getD zPart)))++a2W vn b.holds) ?_,←e1]
       · exact hm115
       · intro z
         simp only[List.mem_append,List.mem_flatMap,List.not_mem_nil,false_or,b3i,hns])
end Go.Proofs.YtgmkjpafapgccaaGreat
set_option linter.all false
namespace Go.Sx
open Go
section
variable {P:Program} {I:IMap} {H:List Res} {f:FuncId}
theorem d0r {fn:Func} {c2:Code} {args:List Value} {k id d ty:Nat} {pos:String} {af:Array Edge} {ats:Array TypeId} {post:IMap→List Res→Prop} (hf:P.funcs[f]? = some fn)
  (hb:fn.body=some (Code.seq (Code.region id #[⟨some d,.call { callee:=.builtin .recover,args:=#[],argTypes:=ats },ty,pos,af,none⟩] false) c2)) (hn:fn.ntmps=k) (hd:Nat.blt d k=true)
  (hl:Nat.ble args.length k=true) (h:∀w,SX ⟨k,[]⟩ ⟨a2c H,I,w⟩ I ((d,.nilIface)::a9V args 0) H (c2.wq none P (d8j P fn (a9p ⟨a2c H,I,w⟩ fun _ I' H'=>post I' H')))):FnDf P f args.toArray I H post:=by
 refine⟨fun w m=>?_⟩;refine callsDIn_of_wpSIn (F:=Fence.wide) hf hb trivial fun c₀ cs hu=>?_
 apply wpSIn_seq
 apply wpSIn_region
 have s0:St ⟨k,[]⟩ { tmps:=args.toArray++Array.replicate (fn.ntmps-args.toArray.size) undef,defers:=[] } (a9V args 0):=by
  refine⟨?_,rfl,?_⟩
  ·simp only[List.size_toArray,Array.size_append,Array.size_replicate,hn]
   have:args.length≤k:=by simpa using hl
   omega
  ·intro i v hv;obtain⟨_,h2⟩:=b2e args 0 i v hv
   have hlt:i<args.length:=by
    rcases Nat.lt_or_ge i args.length with h|h
    ·exact h
    ·simp[List.getElem?_eq_none h]at h2
   rw[Array.getElem?_append_left (by simpa using hlt)]
   simpa using h2
 have key:=h w _ w (s0.put (d:=d) (v:=.nilIface) hd) m;have hrec:recoverD (c₀::cs)=none:=by simp[recoverD,hu]
 have hr:List.range (#[(⟨some d,.call { callee:=.builtin .recover,args:=#[],argTypes:=ats },ty,pos,af,none⟩:Oper)]).size=[0]:=rfl;rw[hr]
 simp only[wpOpsSIn]
 refine⟨fun _ _=>trivial,?_⟩
 simp only[Region.wanted,if_true]
 have hx:(execOp (Act.eval { tmps:=args.toArray++Array.replicate (fn.ntmps-args.toArray.size) undef,defers:=[] }) ⟨some d,.call { callee:=.builtin .recover,args:=#[],argTypes:=ats },ty,pos,af,none⟩).run P w = .ok .recover w:=by
  simp[execOp,go_sem]
 simp only[List.getElem?_toArray,List.getElem?_cons_zero,hx,hrec]
 refine wpSIn_of_wpIn rfl ?_;refine Go.wpIn_mono key ?_;intro e a w' hq
 cases e<;>first
  |exact hq.elim
  |(obtain⟨h1,v,h2,h3⟩:=hq;exact⟨h1,_,rfl,v,h2,by rw[hu];obtain⟨v',I',H',he,hm,hp⟩:=h3;exact⟨rfl,v',I',H',he,hm,hp⟩⟩)
  |(obtain⟨v',I',H',he,_⟩:=hq;exact nomatch he)
  |(obtain⟨_,v',I',H',he,_⟩:=hq;exact nomatch he)
end
section
variable {P:Program} {n:Sz} {E:Ent} {I:IMap} {L:LL} {H:List Res} {ty d:Nat} {pos:String} {af:Array Edge} {x:Operand}
theorem d5Q {tt tyy:Nat} {ms:Array (String×TypeId)} (ht:P.underlying tt=some (.interface ms)) (hx:ev L x=some .nilIface):OV P n E I L H ⟨some d,.binOp .eql tt x (.const .nilIface) tyy,ty,pos,af,none⟩ (.bool true):=fun a w st _=>by
 have hy:a.eval (.const .nilIface) = .nilIface:=rfl
 have he:(Op.equalIn (9999+1) tt .nilIface .nilIface).run P w = .ok true w:=by
  rw[Op.equalIn]
  simp[run_underlying ht]
 have hb:(binOp .eql tt .nilIface .nilIface).run P w = .ok (.bool true) w:=by
  have h1:binOp .eql tt .nilIface .nilIface=(do Pure.pure (.bool (←Op.equal tt .nilIface .nilIface))):=rfl;rw[h1]
  simp only[Sem.run_bind,Op.equal,Op.maxDepth]
  rw[he]
  rfl
 have hg:(eqGuard .eql tt x (.const .nilIface) .nilIface .nilIface).run P w = .ok () w:=by cases x<;>rfl
 simp only[execOp,st.ev hx,hy,Sem.run_bind,hg,hb,Result.andThen_ok,Sem.run_pure]
end
end Go.Sx
namespace Go.Proofs.YtgmkjpafapgccaaGreat
open Go Go.Sx Tryz
set_option linter.all false
set_option maxRecDepth 20000
set_option maxHeartbeats 4000000
instance:Has (a2j prog 44) ([.int .i64 0,.int .i64 0,.slice none 0 0],3,40):=hk
instance:Has (a6J prog 42) (44,3):=hk
instance:Has (a1k prog 206 0) (0,true,1):=hk
instance:Has (a1k prog 206 1) (1,false,1):=hk
instance:Has (a1k prog 206 2) (2,false,1):=hk
instance:Has (a1k prog 44 2) (2,false,1):=hk
instance:Has (plK prog 44) [(0,1),(1,1),(2,1)]:=hk
instance:Has (tyK prog 42) (false,1):=hk
instance:Has (tyK prog 44) (true,3):=hk
instance T.und_42:Has (prog.underlying 42) (.slice 44):=hk
instance:Has (a1o prog 44) [.int .i64 0,.int .i64 0,.slice none 0 0]:=hk
theorem d7Q (I:IMap) (r:Rep) (S:Option Addr) (d:Nat) (hr:RdS I (.slice S r.options.length d) r.options) (hs:∀e∈r.options,SmE e) :
    FnV prog 193 #[.agg (r.cells (.slice S r.options.length d)).toArray] I (.bool (!a0g r)):=by
 refine enter func193 call193 rfl ntmps193 rfl fun w0=>?_;refine go 4 fun g1=>?_
 refine go 7 ?_;refine cV (a7R _ r S d hr hs) ?_;refine go 6 ?_;exact q_v rfl
theorem b3h (I:IMap) (v:Value) (l:List Rep) (hv:RdS I v l) (f:FuncId) (cs:List Value) (p:Rep→Bool) (hp:∀x∈l,∀vs,Enc.rd I vs x→FnV prog f ([Value.agg vs.toArray]++cs).toArray I (.bool (p x))) :
    FnV prog 99 #[v,.func (.func f) #[] cs.toArray] I (.int .i64 (a4G p l)):=by
 obtain⟨A,c,rfl,hA,hc,hm⟩:=hv;refine enter func99 call99 rfl ntmps99 rfl fun w0=>?_;refine go 14 ?_
 refine a0x (α:=Nat) 0 (fun i=>I)
  (fun i=>[(0,.slice A l.length c),(1,.func (.func f) #[] cs.toArray),(7,.int .i64 (l.length:Int)),(8,.int .i64 (i:Int))])
  (fun i=>[])
  (fun i=>i≤l.length∧∀j x,j<i→l[j]? = some x→p x=false)
  (fun i=>l.length-i) ⟨Nat.zero_le _,fun j x hj=>absurd hj (Nat.not_lt_zero j)⟩ rfl sb rfl ?_
 intro i ⟨hi,hn⟩;refine gC 6 (fun h9 p9=>?_) fun h9 p9=>?_
 ·have hlt:i<l.length:=oM;refine go 15 ?_;obtain⟨b14,o14,w14,e14,c14,r14⟩:=RdA.at_ hA (i:=i) hlt;refine go 1 ?_;refine o_v rfl (a0S he rfl c14 (Enc.len r14)) ?_;refine go 1 ?_;refine cV (hp _ (List.getElem_mem hlt) _ r14) ?_;refine gC 2 (fun h16 p16=>?_) fun h16 p16=>?_
  ·refine go 13 ?_;exact q_v (congrArg (Value.int .i64) (a1J hlt p16 hn).symm)
  ·refine go 8 ?_;exact a0w (i+1) ⟨oM,a1W hn hlt p16⟩ oM rfl sb rfl
 ·refine go 12 ?_;exact q_v (congrArg (Value.int .i64) (a2f (fun j x hj=>hn j x oM)).symm)
theorem a4f (I:IMap) (v:Value) (l:List Rep) (hv:RdS I v l) (f:FuncId) (cs:List Value) (p:Rep→Bool) (hp:∀x∈l,∀vs,Enc.rd I vs x→FnV prog f ([Value.agg vs.toArray]++cs).toArray I (.bool (p x))) :
    FnV prog 38 #[v,.func (.func f) #[] cs.toArray] I (.bool (l.any p)):=by
 refine enter func38 call38 rfl ntmps38 rfl fun w0=>?_;refine go 10 ?_;refine cV (b3h I v l hv f cs p hp) ?_;refine go 6 ?_;exact q_v (congrArg Value.bool (a2Q p l))
theorem c3L (I:IMap) (v:Value) (l:List Rep) (hv:RdS I v l) (hl:l.length≤1000000) (hsl:∀r∈l,∀e∈r.options,SmE e)  :
    FnV prog 103 #[v] I (.bool (!l.any fun r=>!a0g r)):=by
 refine enter func103 call103 rfl ntmps103 rfl fun w0=>?_;refine go 9 ?_;refine cV (a4f _ v l hv 193 [] (fun r=>!a0g r) (fun x hx vs hr=>by obtain⟨q,rfl,S,d,rfl,hS,hd,hm⟩:=hr;exact d7Q I x S d ⟨_,_,rfl,hS,hd,hm⟩ (hsl _ hx))) ?_;refine go 6 ?_;exact q_v rfl
theorem d4T (I:IMap) (r:Rep) (S:Option Addr) (d:Nat) (hr:RdS I (.slice S r.options.length d) r.options)  :
    FnV prog 263 #[.agg (r.cells (.slice S r.options.length d)).toArray] I (.int .i64 (b9D r)):=by
 have hSA:RdA I S r.options:=(by obtain⟨_,_,e,h,_⟩:=hr;cases e;exact h);have hl5:=hr.lenLe;refine enter func263 call263 rfl ntmps263 rfl fun w0=>?_;refine go 4 fun g1=>?_
 refine go 18 ?_
 refine a0x (α:=Nat) 0 (fun i=>I)
  (fun i=>[(3,.int .i64 (d3h r i)),(7,.slice S r.options.length d),(8,.int .i64 ((r.options.length:Nat):Int)),(9,.int .i64 ((i:Nat):Int))])
  (fun i=>[.blk g1 109 (r.cells (.slice S r.options.length d))])
  (fun i=>i≤r.options.length)
  (fun i=>r.options.length-i) (Nat.zero_le _) rfl sb rfl ?_
 intro i hi;refine gC 6 (fun h10 p10=>?_) fun h10 p10=>?_
 ·have hlt:i<r.options.length:=oM;refine go 6 ?_;obtain⟨b11,o11,w11,e11,c11,r11⟩:=RdA.at_ hSA (i:=i) hlt;obtain rfl:=r11;refine go 4 fun g5=>?_
  refine go 8 ?_;refine o_v rfl (OV.cast (u:=.int .i64 (d3h r (i+1))) (a8h rfl rfl) (congrArg (Value.int .i64) (by have:=c1L hlt;omega))) ?_;refine go 9 ?_;refine a0a ?_;exact a0w (i+1) oM oM rfl sb rfl
 ·obtain rfl:i=r.options.length:=oM;refine go 13 ?_;exact q_v rfl
theorem c3J (I:IMap) (v:Value) (l:List Rep) (hv:RdS I v l) (hl:l.length≤1000000) (hsl:∀r∈l,∀e∈r.options,SmE e)  :
    FnI prog 104 #[v] I (fun u J=>∃w,u = .tuple #[w,.int .i64 (c0Y l)]∧RdS J w (l.map b3V)):=by
 obtain⟨A,c0,rfl,hA,hc,hm⟩:=hv;refine enter func104 call104 rfl ntmps104 rfl fun w0=>?_;refine go 11 ?_;refine a4x he he rfl rfl rfl oM oM rfl fun g8=>?_;refine a3S _ (b0A _) ?_;refine go 12 ?_
 refine a0x (α:=Nat) 0 (fun i=>I)
  (fun i=>[(2,.slice (some ⟨g8,0,none⟩) l.length l.length),(3,.int .i64 (c0Y (l.take i))),(9,.slice A l.length c0),(10,.int .i64 ((l.length:Nat):Int)),(11,.int .i64 ((i:Nat):Int))])
  (fun i=>[.blk g8 3 (a2p (b4e l i))])
  (fun i=>i≤l.length)
  (fun i=>l.length-i) (Nat.zero_le _) rfl sb rfl ?_
 intro i hi;refine gC 6 (fun h12 p12=>?_) fun h12 p12=>?_
 ·have hlt:i<l.length:=oM;have hol:=c9i (l:=l) (i:=i);refine go 7 ?_;obtain⟨b14,o14,w14,e14,c14,r14⟩:=RdA.at_ hA (i:=i) hlt;obtain⟨q14,rfl,S14,d14,rfl,hS14,hd14,hm14⟩:=r14;refine go 4 fun g5=>?_
  refine go 9 ?_;refine cV (a3I _ l[i] S14 d14 ⟨_,_,rfl,hS14,hd14,hm14⟩ (hsl _ (List.getElem_mem hlt))) ?_;refine o_v rfl (OV.cast (u:=.bool (a8F l[i])) (b7n rfl rfl) rfl) ?_;refine gC 2 (fun h18 p18=>?_) fun h18 p18=>?_
  ·refine go 4 ?_;refine o_v rfl (a0l he rfl rfl rfl (i) oM oM) ?_;refine go 1 ?_;refine a0b ?_;refine a8C he rfl rfl rfl (by rw[a5Y,b2M oM,Nat.blt_eq];omega) ?_;refine a3S (a2p ((b4e l i).set i (-1))) (by rw[Nat.zero_add,Nat.mul_one];exact a5Z _ _ _) ?_;refine go 4 ?_;refine o_v rfl (OV.cast (u:=.int .i64 (c0Y (l.take (i+1)))) (a2u rfl rfl ⟨oM,oM⟩) (congrArg (Value.int .i64) (d1y hlt h18).symm)) ?_;refine go 9 ?_;refine a0b ?_;refine a0a ?_;exact a0w (i+1) oM oM rfl sb (by rw[b7x hlt h18])
  ·rw[←d4L hlt h18];refine go 8 ?_;refine a0a ?_;exact a0w (i+1) oM oM rfl sb (by rw[c1l hlt h18])
 ·obtain rfl:i=l.length:=oM;rw[List.take_length,b7w];refine go 8 ?_;refine a0A fun Ig8 jg8 cg8=>?_;refine go 7 ?_;exact q_i ⟨_,rfl,a5g cg8 (by simp) hl⟩
theorem d1N (I:IMap) (v:Value) (l:List Rep) (hv:RdS I v l) (hl:l.length≤1000000) (w:Value) (ch:List Int) (hw:RdS I w ch) (hlc:ch.length=l.length)  :
    FnV prog 195 #[v,w] I (.int .i64 (a1C l ch)):=by
 obtain⟨A,c0,rfl,hA,hc,hm⟩:=hv;obtain⟨B,c1,rfl,hB,hc1,hm1⟩:=hw;refine enter func195 call195 rfl ntmps195 rfl fun w0=>?_;refine go 19 ?_
 refine a0x (α:=Nat) 0 (fun i=>I)
  (fun i=>[(0,.slice A l.length c0),(5,.int .i64 ((a7b l ch i))),(8,.slice B ch.length c1),(9,.int .i64 ((ch.length:Nat):Int)),(10,.int .i64 ((i:Nat):Int))])
  (fun i=>[])
  (fun i=>i≤ch.length)
  (fun i=>ch.length-i) (Nat.zero_le _) rfl sb rfl ?_
 intro i hi;refine gC 6 (fun h11 p11=>?_) fun h11 p11=>?_
 ·have hlt2:i<ch.length:=oM;have hlt:i<l.length:=oM;have hsp:=b7b l ch i;refine go 7 ?_;obtain⟨b13,o13,w13,e13,c13,r13⟩:=RdA.at_ hB (i:=i) hlt2;obtain rfl:=r13;refine o_v rfl (a0l he rfl rfl e13 (i) oM hlt2) ?_;refine go 6 ?_;refine a1V (I':=I) (L':=[(0,.slice A l.length c0),(5,.int .i64 ((a7b l ch i))),(8,.slice B ch.length c1),(9,.int .i64 ((ch.length:Nat):Int)),(10,.int .i64 ((i:Nat):Int)),(6,.int .i64 ((i:Nat):Int)),(33,.bool (decide (ch[i]<0)&&(decide ((a7b l ch i)<0)||decide (b9D l[i]<b9D (l.getD (a7b l ch i).toNat ⟨[],false⟩)))))]) (H':=[]) ?_ ?_
  ·refine go 1 ?_;refine dG 0 3 ?_;refine gS 0 17 (fun h17 p17=>?_) fun h17 p17=>?_
   ·refine dG 3 3 ?_;refine gS 0 20 (fun h20 p20=>?_) fun h20 p20=>?_
    ·refine dG 6 13 ?_;refine go 2 ?_;exact a0r ⟨rfl,rfl,rfl,rfl,rfl,rfl,(bB (by simp only[h11,h17,h20,bS])),trivial⟩ rfl rfl
    ·refine dG 6 2 ?_;obtain⟨b23,o23,w23,e23,c23,r23⟩:=RdA.at_ hA (i:=i) hlt;obtain⟨q23,rfl,S23,d23,rfl,hS23,hd23,hm23⟩:=r23;refine dG 8 2 ?_;refine dG 11 1 ?_;refine d_t 12 rfl rfl (by kernel_rfl) rfl (fun _ m=>m.keeps .slnil) (a1O rfl rfl h20 (OV.cast (u:=.int .i64 (((a7b l ch i).toNat:Nat):Int)) (b5D rfl) (congrArg (Value.int .i64) (d6K h20 oM).2))) ?_;obtain⟨b28,o28,w28,e28,c28,r28⟩:=RdA.at_ hA (i:=(a7b l ch i).toNat) (d6K h20 oM).1;obtain⟨q28,rfl,S28,d28,rfl,hS28,hd28,hm28⟩:=r28;refine d_t 13 rfl rfl (by kernel_rfl) rfl (fun _ m=>m.keeps .slnil) (a1O rfl rfl h20 (a0l he rfl rfl e28 ((a7b l ch i).toNat) oM (d6K h20 oM).1)) ?_;refine dG 14 1 ?_;refine dH 10 0 ?_;refine a0n rfl rfl h20 (a0y (d4T _ l[i] S23 d23 ⟨_,_,rfl,hS23,hd23,hm23⟩) rfl rfl ?_);refine dH 15 0 ?_;refine a0n rfl rfl h20 (a0y (d4T _ _ S28 d28 ⟨_,_,rfl,hS28,hd28,hm28⟩) rfl rfl ?_);refine go 1 ?_;refine d_t 16 rfl rfl (by kernel_rfl) rfl (fun _ m=>m.keeps .slnil) (a1O rfl rfl h20 (OV.cast (u:=.bool (decide (b9D l[i]<b9D (l.getD (a7b l ch i).toNat ⟨[],false⟩)))) (b7m rfl rfl) (by rw[a5E (d6K h20 oM).1]))) ?_;refine dG 17 2 ?_;refine go 2 ?_;exact a0r ⟨rfl,rfl,rfl,rfl,rfl,rfl,(bB (by simp only[h11,h17,h20,bS])),trivial⟩ rfl rfl
   ·refine dG 3 16 ?_;refine go 2 ?_;exact a0r ⟨rfl,rfl,rfl,rfl,rfl,rfl,(bB (by simp only[h11,h17,bS])),trivial⟩ rfl rfl
  ·refine gC 0 (fun h33 p33=>?_) fun h33 p33=>?_
   ·refine go 1 ?_;refine o_v rfl (OV.cast (u:=.int .i64 (a7b l ch (i+1))) (b5D rfl) (congrArg (Value.int .i64) (d5H h33).symm)) ?_;refine go 9 ?_;exact a0w (i+1) oM oM rfl sb rfl
   ·rw[←d7Y h33];refine go 8 ?_;exact a0w (i+1) oM oM rfl sb rfl
 ·obtain rfl:i=ch.length:=oM;refine go 13 ?_;exact q_v rfl
theorem c3M (I:IMap) (w:Value) (ch:List Int) (hw:RdS I w ch) (hl:ch.length≤1000000) (at_:Nat) (hat:at_<ch.length) (k:Int) :
    FnI prog 196 #[w,.int .i64 ((at_:Nat):Int),.int .i64 (k)] I (fun u J=>RdS J u (ch.set at_ k)):=by
 obtain⟨B,c1,rfl,hB,hc1,hm1⟩:=hw;refine enter func196 call196 rfl ntmps196 rfl fun w0=>?_;refine go 10 ?_;refine a4x he he rfl rfl rfl oM oM rfl fun g10=>?_;refine go 8 ?_;obtain⟨xss,hx,hcell⟩:=hB.pieces;obtain rfl:=c6o hx;refine a6L (b1G ch) 0 he rfl rfl (by rw[a7v];simp) (Uk.rep (c:=[.int .i64 0]) rfl _) (c6p ch) hx.one (fun _=>by rw[Nat.zero_mul]) (fun hp=>by rw[a7v]at hp;obtain⟨b,o,e,h⟩:=hcell hp;exact⟨b,o,e,fun w mm j u hu=>(h j u hu).at_ mm.con⟩) (by rw[a7v];simp) rfl ?_;refine a3S _ (b9W (by simp)) ?_;refine go 7 ?_;refine o_v rfl (a0l he rfl rfl rfl (at_) oM oM) ?_;refine go 1 ?_;refine a8C he rfl rfl rfl (by rw[a5Y,Nat.blt_eq];omega) ?_;refine a3S (a2p (ch.set at_ k)) (by rw[Nat.zero_add,Nat.mul_one];exact a5Z _ _ _) ?_;refine go 4 ?_;refine a0A fun Ig10 jg10 cg10=>?_;refine go 6 ?_;exact q_i (a5g cg10 (by simp) hl)
theorem b0Z (I:IMap) (vc:Value) (c:List Kind) (hvc:RdS I vc c) (hsc:SmC c) (v:Value) (l:List Rep) (hv:RdS I v l) (hl:l.length≤1000000) (hsl:∀r∈l,∀e∈r.options,SmE e) (gb:Nat) (N:Nat) (ih:∀n,N=n+1→∀J,ILe I J→∀w ch,RdS J w ch→ch.length=l.length→a9m ch≤n→∀m:Int,((cntN (a2i c l n ch):Nat):Int)≤m→m≤4096→FnG prog 106 #[.pointer (some ⟨gb,0,none⟩),w] J (.blk gb 206 [vc,v,.int .i64 (m)]) (fun u J' r=>r = .blk gb 206 [vc,v,.int .i64 (m-(cntN (a2i c l n ch):Nat))]∧∃vs,u = .agg vs.toArray∧FmRd J' vs (a2i c l n ch))) (w:Value) (ch:List Int) (hw:RdS I w ch) (hlc:ch.length=l.length) (hn:a9m ch≤N) (m:Int) (hm1:((cntN (a2i c l N ch):Nat):Int)≤m) (hm:m≤4096) :
    FnG prog 106 #[.pointer (some ⟨gb,0,none⟩),w] I (.blk gb 206 [vc,v,.int .i64 (m)]) (fun u J r=>r = .blk gb 206 [vc,v,.int .i64 (m-(cntN (a2i c l N ch):Nat))]∧∃vs,u = .agg vs.toArray∧FmRd J vs (a2i c l N ch)):=by
 have hcp:=c5D (a2i c l N ch);obtain⟨A0,c0,rfl,hA,_,_⟩:=id hv;refine enter func106 call106 rfl ntmps106 rfl fun w0=>?_;refine go 4 fun g4=>?_
 refine gC 12 (fun h12 p12=>?_) fun h12 p12=>?_
 ·exact absurd p12 oM
 ·refine go 12 ?_;refine a0b ?_;refine go 5 ?_;refine a1P fun hE4 hf4=>?_;refine go 1 ?_;refine dG 0 3 ?_;refine a0F 3 rfl rfl (by kernel_rfl) rfl (.refl _) rfl (a1R ([vc]) m0 he rfl rfl rfl) ?_;refine dH 4 5 ?_;refine a0m (c2u _ vc c hvc hsc _ l hv hl hsl w ch hw) rfl rfl fun v31 I31 j31 q31=>?_;have hvc:=hvc.le j31;have hv:=hv.le j31;have hw:=hw.le j31;have hA:=hA.le j31;obtain rfl:=q31;refine gC 3 (fun h31 p31=>?_) fun h31 p31=>?_
  ·refine go 4 ?_;refine a0b ?_;refine go 6 ?_;refine a0a ?_;exact q_g ⟨by rw[a3e h31,b4l];rfl,_,rfl,by rw[a3e h31];exact fm_in 2 0 RdS.nil'⟩
  ·refine go 10 ?_;refine cV (d1N _ _ l hv hl w ch hw hlc) ?_;refine gC 10 (fun h40 p40=>?_) fun h40 p40=>?_
   ·refine go 4 ?_;refine a0b ?_;refine go 6 ?_;refine a0a ?_;exact q_g ⟨by rw[a3f h31 p40,b4l];rfl,_,rfl,by rw[a3f h31 p40];exact fm_in 3 0 RdS.nil'⟩
   ·obtain⟨a,ha,hal,hac,hneg⟩:=b8X p40 hlc
    obtain⟨n,rfl⟩:∃n,N=n+1:=by
      cases N with
      |zero=>exact absurd hneg (c6N oM hac)
      |succ n=>exact⟨n,rfl⟩
    rw[a2s h31 ha,b2Q]at hm1
    have ih:=ih n rfl;have hc5:=a6m l[a];have hkl:=a7z (c:=c) (l:=l) (n:=n) (ch:=ch) (a:=a) (b0i _);rw[a5E hal]at hkl
    rw[ha];refine go 5 ?_;refine a0E 44 3 ?_;refine go 3 fun g6=>?_
    refine go 12 ?_;obtain⟨b49,o49,w49,e49,c49,r49⟩:=RdA.at_ hA (i:=a) hal;obtain⟨q49,rfl,S49,d49,rfl,hS49,hd49,hm49⟩:=r49;refine o_v rfl (a0l he rfl rfl e49 (a) oM hal) ?_;refine go 2 ?_;refine cV (a3I _ l[a] S49 d49 ⟨_,_,rfl,hS49,hd49,hm49⟩ (hsl _ (List.getElem_mem hal))) ?_;refine go 4 ?_;refine a0u ?_;refine a0u ?_;refine a0d ?_;refine a0u ?_
    refine a5t ((0:Nat)) (I31) (none) ((0:Nat)) ([]) (fun k J A1 k1 xs=>J)
     (fun k J A1 k1 xs=>[(0,.pointer (some ⟨gb,0,none⟩)),(1,w),(4,.pointer (some ⟨g4,0,none⟩)),(5,.int .i64 ((a:Nat):Int)),(6,.pointer (some ⟨g6,0,none⟩)),(51,.int .i64 (chs l[a])),(52,.int .i64 ((k:Nat):Int))])
     (fun k J A1 k1 xs=>[.row (.slice A1 k k1) 44 3 k xs,.blk g6 44 [.int .i64 (1),.int .i64 ((a:Nat):Int),.slice A1 k k1],.blk gb 206 [vc,.slice A0 l.length c0,.int .i64 (m-1-(cntNL (List.take k (a2w c l n ch a)):Nat))],.blk g4 44 [.int .i64 (0),.int .i64 (0),.slice none 0 0]])
     (fun k J A1 k1 xs=>k≤List.length (a2w c l n ch a)∧ILe I31 J∧Flat J xs (List.take k (a2w c l n ch a)))
     (fun k J A1 k1 xs=>List.length (a2w c l n ch a)-k) ⟨Nat.zero_le _,ILe.refl _,.nil⟩ rfl sb (by rw[b9y];rfl) ?_
    intro k J A1 k1 xs ⟨hk,hJ,hF⟩;have hvc:=hvc.le hJ;have hv:=hv.le hJ;have hw:=hw.le hJ;have hA:=hA.le hJ;refine gC 6 (fun h53 p53=>?_) fun h53 p53=>?_
    ·have hlt:k<List.length (a2w c l n ch a):=oM;have hcl:=b7D hlt;rw[a2D hlt]at hcl
     have hng:=a5y (k:=((k:Nat):Int)) hac hneg oM;refine go 10 ?_;refine a0b ?_;refine a0b ?_;refine a0d ?_;refine a1P fun hE13 hf13=>?_;refine b7I T.mixed ?_;refine dG 0 1 ?_;refine dG 2 4 ?_;refine dT2 1 6 ?_ ?_
     ·refine a0q rfl (b1m m2 he rfl rfl) ?_;refine dH 6 0 ?_;refine a0m (c3M _ w ch hw oM a hac ((k:Nat):Int)) rfl rfl fun v61 I61 j61 q61=>?_;have hvc:=hvc.le j61;have hv:=hv.le j61;have hw:=hw.le j61;have hA:=hA.le j61;obtain q61:=q61;refine dH 7 0 ?_;refine a1m (ih _ (j31.trans (hJ.trans j61)) _ _ q61 (by simp[hlc]) oM _ oM oM) rfl rfl fun v62 I62 s62 j62 q62=>?_;have hvc:=hvc.le j62;have hv:=hv.le j62;have hw:=hw.le j62;have hA:=hA.le j62;obtain⟨rfl,vs62,rfl,hk62⟩:=q62;obtain⟨s62,rfl,hs62⟩:=a2k hk62;refine dH 8 0 ?_;refine go 1 fun v63=>?_
      refine dH 9 0 ?_;refine a0d ?_;refine a0O he he rfl rfl (Enc.one (α:=Fm) hk62) rfl rfl oM oM rfl fun v64=>?_;refine a1c fun A64 c64 hv64=>?_;subst hv64;refine dH 10 1 ?_;refine a0u ?_;refine go 10 ?_;refine a0d ?_;refine a0a ?_;refine a0u ?_;refine a0u ?_;refine a0d ?_;refine a0u ?_;exact a2Y (k+1) (I62) (A64) (c64) (_) ⟨oM,hJ.trans (j61.trans j62),by rw[←a0c hlt];exact (hF.le (j61.trans j62)).append (.one (by rw[a2D hlt];exact hk62))⟩ oM rfl sb (by rw[a4t hlt,a2D hlt,a7H];rfl)
     ·refine a0m (c3M _ w ch hw oM a hac ((k:Nat):Int)) rfl rfl fun v61 I61 j61 q61=>?_;have hvc:=hvc.le j61;have hv:=hv.le j61;have hw:=hw.le j61;have hA:=hA.le j61;obtain q61:=q61;refine go 1 ?_;refine dT2 1 7 ?_ ?_
      ·refine a0q rfl (b1m m2 he rfl rfl) ?_;refine dH 7 0 ?_;refine a1m (ih _ (j31.trans (hJ.trans j61)) _ _ q61 (by simp[hlc]) oM _ oM oM) rfl rfl fun v62 I62 s62 j62 q62=>?_;have hvc:=hvc.le j62;have hv:=hv.le j62;have hw:=hw.le j62;have hA:=hA.le j62;obtain⟨rfl,vs62,rfl,hk62⟩:=q62;obtain⟨s62,rfl,hs62⟩:=a2k hk62;refine dH 8 0 ?_;refine go 1 fun v63=>?_
       refine dH 9 0 ?_;refine a0d ?_;refine a0O he he rfl rfl (Enc.one (α:=Fm) hk62) rfl rfl oM oM rfl fun v64=>?_;refine a1c fun A64 c64 hv64=>?_;subst hv64;refine dH 10 1 ?_;refine a0u ?_;refine go 10 ?_;refine a0d ?_;refine a0a ?_;refine a0u ?_;refine a0u ?_;refine a0d ?_;refine a0u ?_;exact a2Y (k+1) (I62) (A64) (c64) (_) ⟨oM,hJ.trans (j61.trans j62),by rw[←a0c hlt];exact (hF.le (j61.trans j62)).append (.one (by rw[a2D hlt];exact hk62))⟩ oM rfl sb (by rw[a4t hlt,a2D hlt,a7H];rfl)
      ·refine a1m (ih _ (j31.trans (hJ.trans j61)) _ _ q61 (by simp[hlc]) oM _ oM oM) rfl rfl fun v62 I62 s62 j62 q62=>?_;have hvc:=hvc.le j62;have hv:=hv.le j62;have hw:=hw.le j62;have hA:=hA.le j62;obtain⟨rfl,vs62,rfl,hk62⟩:=q62;obtain⟨s62,rfl,hs62⟩:=a2k hk62;refine go 1 ?_;refine dT2 1 8 ?_ ?_
       ·refine a0q rfl (b1m m2 he rfl rfl) ?_;refine dH 8 0 ?_;refine go 1 fun v63=>?_
        refine dH 9 0 ?_;refine a0d ?_;refine a0O he he rfl rfl (Enc.one (α:=Fm) hk62) rfl rfl oM oM rfl fun v64=>?_;refine a1c fun A64 c64 hv64=>?_;subst hv64;refine dH 10 1 ?_;refine a0u ?_;refine go 10 ?_;refine a0d ?_;refine a0a ?_;refine a0u ?_;refine a0u ?_;refine a0d ?_;refine a0u ?_;exact a2Y (k+1) (I62) (A64) (c64) (_) ⟨oM,hJ.trans (j61.trans j62),by rw[←a0c hlt];exact (hF.le (j61.trans j62)).append (.one (by rw[a2D hlt];exact hk62))⟩ oM rfl sb (by rw[a4t hlt,a2D hlt,a7H];rfl)
       ·refine go 1 fun v63=>?_
        refine dH 1 0 ?_;refine a0q rfl (b1m m3 he rfl rfl) ?_;refine dH 9 0 ?_;refine a0d ?_;refine a0O he he rfl rfl (Enc.one (α:=Fm) hk62) rfl rfl oM oM rfl fun v64=>?_;refine a1c fun A64 c64 hv64=>?_;subst hv64;refine dH 10 1 ?_;refine a0u ?_;refine go 10 ?_;refine a0d ?_;refine a0a ?_;refine a0u ?_;refine a0u ?_;refine a0d ?_;refine a0u ?_;exact a2Y (k+1) (I62) (A64) (c64) (_) ⟨oM,hJ.trans (j61.trans j62),by rw[←a0c hlt];exact (hF.le (j61.trans j62)).append (.one (by rw[a2D hlt];exact hk62))⟩ oM rfl sb (by rw[a4t hlt,a2D hlt,a7H];rfl)
    ·refine go 7 ?_;obtain rfl:k=List.length (a2w c l n ch a):=oM;rw[List.take_length]at hF
     rw[List.take_length];refine a0i (l:=(a2w c l n ch a)) rfl rfl hF fun J9 j9 R9=>?_;refine go 2 ?_;refine a0d ?_;refine go 5 ?_;refine a0a ?_;refine a0a ?_;exact q_g ⟨by rw[a2s h31 ha,b2Q,c3c],_,rfl,by rw[a2s h31 ha];exact fm_in 1 a R9⟩
end Go.Proofs.YtgmkjpafapgccaaGreat
namespace Go.Proofs.YtgmkjpafapgccaaGreat
open Go Go.Sx Tryz
set_option linter.all false
set_option maxRecDepth 20000
set_option maxHeartbeats 4000000
instance:Has (a2j prog 45) ([.slice none 0 0],1,24):=hk
instance:Has (a6J prog 70) (45,1):=hk
instance:Has (a1k prog 44 0) (0,false,1):=hk
instance:Has (a1k prog 44 1) (1,false,1):=hk
instance:Has (plK prog 206) [(0,1),(1,1),(2,1)]:=hk
instance:Has (tyK prog 303) (false,1):=hk
instance:Has (tyK prog 70) (false,1):=hk
instance:Has (prog.underlying 70) (.slice 45):=hk
instance:Has (prog.underlying 20) (.interface [].toArray):=hk
instance:Has (a1o prog 206) [.slice none 0 0,.slice none 0 0,.int .i64 0]:=hk
instance:Has (a1o prog 45) [.slice none 0 0]:=hk
instance:Has (a1o prog 70) [.slice none 0 0]:=hk
theorem c2z {σ:Type} (I:IMap) (v:Value) (l:List Fm) (hv:RdS I v l) (f:FuncId) (cs:List Value) (R:σ→Res) (fo:σ→Fm→Bool×σ) (hp:∀I2,ILe I I2→∀(s:σ) (x:Fm),x∈l→∀vs,Enc.rd I2 vs x→FnG prog f ([Value.agg vs.toArray]++cs).toArray I2 (R s) fun u J r'=>u = .bool (fo s x).1∧r'=R (fo s x).2) (s:σ) :
    FnG prog 338 #[v,.func (.func f) #[] cs.toArray] I (R s) (fun u J r'=>u=ci (a2I fo s l 0).1∧r'=R (a2I fo s l 0).2):=by
 obtain⟨A,c,rfl,hA,hc,hm⟩:=hv;refine enter func338 call338 rfl ntmps338 rfl fun w0=>?_;refine go 14 ?_
 refine a4d ((0:Nat)) (s) (I) (fun i t J=>J)
  (fun i t J=>[(0,.slice A l.length c),(1,.func (.func f) #[] cs.toArray),(7,.int .i64 (l.length:Int)),(8,.int .i64 (i:Int))])
  (fun i t J=>[R t])
  (fun i t J=>i≤l.length∧ILe I J∧a2I fo s l 0=a2I fo t (l.drop i) i)
  (fun i t J=>l.length-i) ⟨Nat.zero_le _,ILe.refl _,rfl⟩ rfl sb rfl ?_
 intro i t J ⟨hi,hJ,hq⟩;have hA:=hA.le hJ;refine gC 6 (fun h9 p9=>?_) fun h9 p9=>?_
 ·have hlt:i<l.length:=oM;refine go 15 ?_;obtain⟨b14,o14,w14,e14,c14,r14⟩:=RdA.at_ hA (i:=i) hlt;refine go 1 ?_;refine o_v rfl (a0S he rfl c14 (Enc.len r14)) ?_;refine go 1 ?_;refine a1m (hp J hJ t l[i] (List.getElem_mem hlt) _ r14) rfl rfl fun v16 I16 s16 j16 q16=>?_;obtain⟨rfl,rfl⟩:=q16;refine gC 2 (fun h16 p16=>?_) fun h16 p16=>?_
  ·refine go 13 ?_;exact q_g ⟨congrArg (Value.int .i64) (by rw[hq,a9E hlt h16]),by rw[hq,a9E hlt h16]⟩
  ·refine go 8 ?_;exact a2n (i+1) ((fo t l[i]).2) (I16) ⟨oM,hJ.trans j16,hq.trans (b5r hlt h16)⟩ oM rfl sb rfl
 ·refine go 12 ?_;exact q_g ⟨congrArg (Value.int .i64) (by rw[hq,a9D oM]),by rw[hq,a9D oM]⟩
theorem b4n {σ:Type} (I:IMap) (v:Value) (l:List Fm) (hv:RdS I v l) (f:FuncId) (cs:List Value) (R:σ→Res) (fo:σ→Fm→Bool×σ) (hp:∀I2,ILe I I2→∀(s:σ) (x:Fm),x∈l→∀vs,Enc.rd I2 vs x→FnG prog f ([Value.agg vs.toArray]++cs).toArray I2 (R s) fun u J r'=>u = .bool (fo s x).1∧r'=R (fo s x).2) (s:σ) :
    FnG prog 312 #[v,.func (.func f) #[] cs.toArray] I (R s) (fun u J r'=>u = .bool (decide (0≤(a2I fo s l 0).1))∧r'=R (a2I fo s l 0).2):=by
 refine enter func312 call312 rfl ntmps312 rfl fun w0=>?_;refine go 10 ?_;refine a1m (c2z I v l hv f cs R fo hp s) rfl rfl fun v7 I7 s7 j7 q7=>?_;obtain⟨rfl,rfl⟩:=q7;refine go 6 ?_;exact q_g ⟨rfl,rfl⟩
theorem d1O {σ:Type} (I:IMap) (N:Nat) (f:FuncId) (cs:List Value) (R:σ→Res) (out:σ→Fm→Bool) (nx:σ→Fm→σ) (ih:∀I2,ILe I I2→∀(x:Fm),cntN x≤N→∀vs,FmRd I2 vs x→∀s,FnG prog 265 #[.agg vs.toArray,.func (.func f) #[] cs.toArray] I2 (R s) fun u J r'=>u = .bool (wmS out nx x s).1∧r'=R (wmS out nx x s).2) (x:Fm) (hN:cntN x≤N) (vs:List Value) (hx:FmRd I vs x) (g:Nat) (cg:ICells I g 0 [.func (.func f) #[] cs.toArray]) (s:σ) :
    FnG prog 313 #[.agg vs.toArray,.pointer (some ⟨g,0,none⟩)] I (R s) (fun u J r'=>u = .bool (!(wmS out nx x s).1)∧r'=R (wmS out nx x s).2):=by
 refine enter func313 call313 rfl ntmps313 rfl fun w0=>?_;refine go 4 fun g2=>?_
 refine go 5 ?_;refine o_v rfl (a2N m0 he rfl (Enc.len (α:=Fm) hx)) ?_;refine o_v rfl (a0v he rfl (cg 0 _ rfl)) ?_;refine go 1 ?_;refine a0b ?_;refine a1m (ih I (ILe.refl _) x hN vs hx s) rfl rfl fun v6 I6 s6 j6 q6=>?_;obtain⟨rfl,rfl⟩:=q6;refine go 6 ?_;refine a0b ?_;refine a0a ?_;exact q_g ⟨rfl,rfl⟩
theorem b6K {σ:Type} (I:IMap) (N:Nat) (f:FuncId) (cs:List Value) (R:σ→Res) (out:σ→Fm→Bool) (nx:σ→Fm→σ) (hV:∀I2,ILe I I2→∀(s:σ) (x:Fm) vs,FmRd I2 vs x→FnG prog f ([Value.agg vs.toArray]++cs).toArray I2 (R s) fun u J r'=>u = .bool (out s x)∧r'=R (nx s x)) (ih:∀I2,ILe I I2→∀(x:Fm),cntN x≤N→∀vs,FmRd I2 vs x→∀s,FnG prog 265 #[.agg vs.toArray,.func (.func f) #[] cs.toArray] I2 (R s) fun u J r'=>u = .bool (wmS out nx x s).1∧r'=R (wmS out nx x s).2) (x:Fm) (hN:cntN x≤N+1) (vs:List Value) (hx:FmRd I vs x) (s:σ) :
    FnG prog 265 #[.agg vs.toArray,.func (.func f) #[] cs.toArray] I (R s) (fun u J r'=>u = .bool (wmS out nx x s).1∧r'=R (wmS out nx x s).2):=by
 have hx0:=hx;obtain⟨sk,rfl,hk⟩:=a2k hx;refine enter func265 call265 rfl ntmps265 rfl fun w0=>?_;refine go 4 fun g2=>?_
 refine go 2 fun g3=>?_
 refine go 8 ?_;refine a0d ?_;refine a1m (hV I (ILe.refl _) s x _ hx0) rfl rfl fun v7 I7 s7 j7 q7=>?_;have hk:=hk.le j7;obtain⟨rfl,rfl⟩:=q7;refine gS 1 8 (fun h8 p8=>?_) fun h8 p8=>?_
 ·refine go 2 ?_;refine a0b ?_;refine a0A fun Ig3 jg3 cg3=>?_;have hk:=hk.le jg3;refine go 2 ?_;refine a0n rfl rfl h8 (a1m (b4n _ _ x.kids hk 313 [.pointer (some ⟨g3,0,none⟩)] R (wmF out nx) (fun I2 hI2 t k hk2 vs2 hx2=>d1O I2 N f cs R out nx (fun I3 hI3=>ih I3 ((j7.trans (jg3.trans hI2)).trans hI3)) k (by have:=a4e hk2;omega) vs2 hx2 g3 (cg3.le hI2) t) (nx s x)) rfl rfl (fun v12 I12 s12 j12 q12=>?_));obtain⟨rfl,rfl⟩:=q12;refine go 7 ?_;refine a0b ?_;refine a0a ?_;exact q_g ⟨congrArg Value.bool (by rw[c4Z h8]),by rw[c4Z h8]⟩
 ·refine go 11 ?_;refine a0b ?_;refine a0a ?_;refine a0b ?_;refine a0a ?_;exact q_g ⟨congrArg Value.bool (by rw[c9y h8]),by rw[c9y h8]⟩
theorem c9l {σ:Type} (I:IMap) (f:FuncId) (cs:List Value) (R:σ→Res) (out:σ→Fm→Bool) (nx:σ→Fm→σ) (hV:∀I2,ILe I I2→∀(s:σ) (x:Fm) vs,FmRd I2 vs x→FnG prog f ([Value.agg vs.toArray]++cs).toArray I2 (R s) fun u J r'=>u = .bool (out s x)∧r'=R (nx s x)) (x:Fm) (vs:List Value) (hx:FmRd I vs x) (s:σ) :
  FnG prog 265 #[.agg vs.toArray,.func (.func f) #[] cs.toArray] I (R s) fun u J r'=>u = .bool (wmS out nx x s).1∧r'=R (wmS out nx x s).2:=by
 have key:∀(N:Nat) (I:IMap),(∀I2,ILe I I2→∀(s:σ) (x:Fm) vs,FmRd I2 vs x→FnG prog f ([Value.agg vs.toArray]++cs).toArray I2 (R s) fun u J r'=>u = .bool (out s x)∧r'=R (nx s x))→∀(x:Fm),cntN x≤N→∀vs,FmRd I vs x→∀s,FnG prog 265 #[.agg vs.toArray,.func (.func f) #[] cs.toArray] I (R s) fun u J r'=>u = .bool (wmS out nx x s).1∧r'=R (wmS out nx x s).2:=by
  intro N
  induction N with
  |zero=>intro I _ x h;cases x;simp[cntN]at h
  |succ N ih=>exact fun I hV x hN vs hx s=>b6K I N f cs R out nx hV (fun I2 hI2 x h vs hx s=>ih I2 (fun I3 hI3=>hV I3 (hI2.trans hI3)) x h vs hx s) x hN vs hx s
 exact key (cntN x) I hV x (Nat.le_refl _) vs hx s
theorem d1M (I:IMap) (x:Fm) (vs:List Value) (hx:FmRd I vs x) (g:Nat) (n:Int) :
    FnG prog 311 #[.agg vs.toArray,.pointer (some ⟨g,0,none⟩)] I (.blk g 3 [ci n]) (fun u J r'=>u = .bool (smO n x)∧r' = .blk g 3 [ci (smN n x)]):=by
 refine enter func311 call311 rfl ntmps311 rfl fun w0=>?_;refine go 4 fun g2=>?_
 refine go 6 ?_;refine o_v rfl (b2D rfl rfl) ?_;refine go 1 ?_;refine a0b ?_;refine go 12 ?_;refine a0b ?_;refine a0a ?_;exact q_g ⟨rfl,rfl⟩
theorem d5a (I:IMap) (x:Fm) (vs:List Value) (hx:FmRd I vs x) :
    FnI prog 264 #[.agg vs.toArray] I (fun u J=>u=ci (d6J x)):=by
 refine enter func264 call264 rfl ntmps264 rfl fun w0=>?_;refine go 4 fun g1=>?_
 refine go 7 fun g3=>?_
 refine go 6 ?_;refine o_v rfl (a2N m1 he rfl (Enc.len (α:=Fm) hx)) ?_;refine go 2 ?_;refine a1m (c9l I 311 [.pointer (some ⟨g3,0,none⟩)] (fun n=>.blk g3 3 [ci n]) smO smN (fun I2 hI2 s x vs hx=>d1M I2 x vs hx g3 s) x vs hx 0) rfl rfl fun v6 I6 s6 j6 q6=>?_;obtain⟨rfl,rfl⟩:=q6;refine go 10 ?_;refine a0a ?_;refine a0a ?_;exact q_i rfl
theorem d1L (I:IMap) (x:Fm) (vs:List Value) (hx:FmRd I vs x) :
    FnV prog 266 #[.agg vs.toArray] I (.bool (prN x)):=by
 obtain⟨sk,rfl,hk⟩:=a2k hx;obtain⟨A,c0,rfl,hA,hc,hm⟩:=hk;refine enter func266 call266 rfl ntmps266 rfl fun w0=>?_;refine go 4 fun g1=>?_
 refine gC 17 (fun h5 p5=>?_) fun h5 p5=>?_
 ·refine gS 6 10 (fun h10 p10=>?_) fun h10 p10=>?_
  ·refine gS 5 15 (fun h15 p15=>?_) fun h15 p15=>?_
   ·refine gS 6 21 (fun h21 p21=>?_) fun h21 p21=>?_
    ·refine go 12 ?_;exact q_v (congrArg Value.bool (by rw[c3K p5];simp only[h5,h10,h15,h21,bS]))
    ·refine go 12 ?_;exact q_v (congrArg Value.bool (by rw[c3K p5];simp only[h5,h10,h15,h21,bS]))
   ·refine go 18 ?_;exact q_v (congrArg Value.bool (by rw[c3K p5];simp only[h5,h10,h15,bS]))
  ·refine go 23 ?_;exact q_v (congrArg Value.bool (by rw[c3K p5];simp only[h5,h10,bS]))
 ·refine go 1 ?_;refine a1V (I':=I) (L':=[(1,.pointer (some ⟨g1,0,none⟩)),(27,.bool (decide (x.op=2)||decide (x.op=3)))]) (H':=[.blk g1 44 [ci x.op,ci x.n,.slice A x.kids.length c0]]) ?_ ?_
  ·refine gC 6 (fun h27 p27=>?_) fun h27 p27=>?_
   ·refine go 2 ?_;exact a0r ⟨rfl,(bB (by simp only[h5,h27,bS])),trivial⟩ rfl rfl
   ·refine go 5 ?_;exact a0r ⟨rfl,(bB (by simp only[h5,h27,bS])),trivial⟩ rfl rfl
  ·refine gC 0 (fun h27 p27=>?_) fun h27 p27=>?_
   ·refine gS 6 33 (fun h33 p33=>?_) fun h33 p33=>?_
    ·refine go 12 ?_;exact q_v (congrArg Value.bool (by rw[d4X p5 p27];simp only[h27,h33,bS]))
    ·refine go 12 ?_;exact q_v (congrArg Value.bool (by rw[d4X p5 p27];simp only[h27,h33,bS]))
   ·refine go 10 ?_;exact q_v (congrArg Value.bool (d4Y p5 oM).symm)
theorem c7m (I:IMap) (x:Fm) (vs:List Value) (hx:FmRd I vs x) :
    FnI prog 197 #[.agg vs.toArray] I (fun u J=>u = .bool (c3O x)):=by
 refine enter func197 call197 rfl ntmps197 rfl fun w0=>?_;refine go 4 fun g1=>?_
 refine go 5 ?_;refine o_v rfl (a2N m0 he rfl (Enc.len (α:=Fm) hx)) ?_;refine go 1 ?_;refine a0m (d5a _ x vs hx) rfl rfl fun v4 I4 j4 q4=>?_;have hx:=hx.le j4;obtain rfl:=q4;refine gS 2 6 (fun h6 p6=>?_) fun h6 p6=>?_
 ·refine a0z (a0n rfl rfl h6 (a0q rfl (a2N m0 he rfl (Enc.len (α:=Fm) hx)) ?_));refine go 1 ?_;refine a0E 0 0 ?_;refine a0n rfl rfl h6 (a1m (c9l _ 266 [] (fun (_:Unit)=>.row (.slice none 0 0) 0 0 0 []) (fun _ x=>prN x) (fun s _=>s) (fun I2 hI2 s x vs hx=>FnG.of_V (d1L I2 x vs hx)) x vs hx ()) rfl rfl (fun v8 I8 s8 j8 q8=>?_));obtain⟨rfl,rfl⟩:=q8;refine go 6 ?_;refine a0a ?_;refine a0a ?_;exact q_i (congrArg Value.bool (by simp only[c3O,←wm_all _ _ (),h6,bS]))
 ·refine go 8 ?_;refine a0a ?_;exact q_i (congrArg Value.bool (by simp only[c3O,←wm_all _ _ (),h6,bS]))
theorem b0Y (I:IMap) (v:Value) (l:List Rep) (hv:RdS I v l) (hl:l.length≤1000000) (hsl:∀r∈l,∀e∈r.options,SmE e) (c:List Kind) (gz:Nat) (N:Nat) (ih:∀n,N=n+1→∀J,ILe I J→∀w ch,RdS J w ch→Opn l ch→a9m ch≤n→∀vs,FmRd J vs (a2i c l n ch)→∀A1 k1 xs (dn:List (List Int)),Flat J xs dn→(dn++(a2m c l n ch)).length≤1000000→FnH prog 198 #[v,.agg vs.toArray,w,.pointer (some ⟨gz,0,none⟩)] J [.row (.slice A1 dn.length k1) 45 1 dn.length xs,.blk gz 70 [.slice A1 dn.length k1]] (fun u J H'=>u = .bool true∧∃A2 k2 xs2,H'=[.row (.slice A2 (dn++(a2m c l n ch)).length k2) 45 1 (dn++(a2m c l n ch)).length xs2,.blk gz 70 [.slice A2 (dn++(a2m c l n ch)).length k2]]∧Flat J xs2 (dn++(a2m c l n ch)))) (w:Value) (ch:List Int) (hw:RdS I w ch) (ho:Opn l ch) (hn:a9m ch≤N) (vs:List Value) (hx:FmRd I vs (a2i c l N ch)) (A1:Option Addr) (k1:Nat) (xs:List Value) (dn:List (List Int)) (hF:Flat I xs dn) (hlen:(dn++(a2m c l N ch)).length≤1000000) :
    FnH prog 198 #[v,.agg vs.toArray,w,.pointer (some ⟨gz,0,none⟩)] I [.row (.slice A1 dn.length k1) 45 1 dn.length xs,.blk gz 70 [.slice A1 dn.length k1]] (fun u J H'=>u = .bool true∧∃A2 k2 xs2,H'=[.row (.slice A2 (dn++(a2m c l N ch)).length k2) 45 1 (dn++(a2m c l N ch)).length xs2,.blk gz 70 [.slice A2 (dn++(a2m c l N ch)).length k2]]∧Flat J xs2 (dn++(a2m c l N ch))):=by
 have hcl:=ho.len;obtain⟨A0,c0,rfl,hA0,hc0,hm0⟩:=id hv;obtain⟨B0,d0,rfl,hB,hd0,hn0⟩:=id hw;obtain⟨sk,rfl,hk⟩:=a2k hx;obtain⟨K0,kc,rfl,hK,hkc,hkm⟩:=id hk;refine enter func198 call198 rfl ntmps198 rfl fun w0=>?_;refine go 4 fun g5=>?_
 refine gC 13 (fun h11 p11=>?_) fun h11 p11=>?_
 ·have e1:=d5M ho hn p11;refine go 9 ?_;refine a0a ?_;rw[e1,List.append_nil];exact a2g (fun _ m=>m) ⟨rfl,A1,k1,xs,rfl,hF⟩
 ·skip
  refine gC 8 (fun h15 p15=>?_) fun h15 p15=>?_
  ·obtain⟨e1,hpos⟩:=d5N ho hn p15;rw[e1]at hlen
   rw[List.length_append,List.length_singleton]at hlen
   refine go 9 fun v24=>?_
   refine go 1 ?_;refine a0d ?_;refine a0O he he rfl rfl (Enc.one (α:=List Int) ⟨_,rfl,hw⟩) rfl rfl oM oM rfl fun v25=>?_;refine a1c fun A25 c25 hv25=>?_;subst hv25;refine go 2 ?_;refine a0u ?_;refine go 7 ?_;refine cV (a5T _ _ ch hw (-1)) ?_;refine o_v rfl (OV.cast (u:=.bool true) (b1O rfl) (congrArg Value.bool (by rw[decide_eq_false (fun hm=>by have:=hpos _ hm;omega)];rfl))) ?_;refine go 7 ?_;refine a0d ?_;refine a0a ?_;refine a0d ?_;refine a0a ?_;refine a0b ?_;rw[e1];exact a2g (fun _ m=>m) ⟨rfl,_,_,_,by rw[List.length_append];rfl,hF.append (.one ⟨_,rfl,hw⟩)⟩
  ·obtain⟨n,a,rfl,ha,hb,hna,hca,hxn,hxk,hkl,e1⟩:=d5L ho hn p11 p15;rw[e1]at hlen
   rw[hxk]at hK hkc
   rw[hxn,hxk];have hc5:=a6m l[a];have ih:=ih n rfl;refine go 1 ?_;refine a0A fun Ig5 jg5 cg5=>?_
   try have hw:=hw.le jg5
   try have hv:=hv.le jg5
   try have hA0:=hA0.le jg5
   try have hB:=hB.le jg5
   try have hK:=hK.le jg5
   try have hF:=hF.le jg5
   try have cg5:=cg5.le jg5
   refine go 1 ?_;refine dG 0 1 ?_;refine a0F 1 rfl rfl (by kernel_rfl) rfl (.refl _) rfl (a0v he rfl (cg5 1 _ rfl)) ?_;refine dG 2 2 ?_;refine a0F 4 rfl rfl (by kernel_rfl) rfl (.refl _) rfl (OV.cast (u:=.bool false) (b7l rfl rfl) (congrArg Value.bool (decide_eq_false oM))) ?_;refine dG 5 3 ?_;refine d_t 8 rfl rfl (by kernel_rfl) rfl (fun _ m=>m.keeps (.refl _)) (a1O rfl rfl rfl (a0v he rfl (cg5 1 _ rfl))) ?_;obtain⟨b40,o40,w40,e40,c40,r40⟩:=RdA.at_ hB (i:=a) hb;obtain rfl:=r40;refine d_t 9 rfl rfl (by kernel_rfl) rfl (fun _ m=>m.keeps (.refl _)) (a1O rfl rfl rfl (a0l he rfl rfl e40 (a) oM hb)) ?_;refine dG 10 1 ?_;refine d_t 11 rfl rfl (by kernel_rfl) rfl (fun _ m=>m.keeps (.refl _)) (a1O rfl rfl rfl (OV.cast (u:=.bool false) (b7l rfl rfl) (congrArg Value.bool (decide_eq_false oM)))) ?_;refine dG 12 3 ?_;refine d_t 15 rfl rfl (by kernel_rfl) rfl (fun _ m=>m.keeps (.refl _)) (a1O rfl rfl rfl (a0v he rfl (cg5 2 _ rfl))) ?_;refine dG 16 3 ?_;refine d_t 19 rfl rfl (by kernel_rfl) rfl (fun _ m=>m.keeps (.refl _)) (a1O rfl rfl rfl (a0v he rfl (cg5 1 _ rfl))) ?_;obtain⟨b51,o51,w51,e51,c51,r51⟩:=RdA.at_ hA0 (i:=a) ha;obtain⟨q51,rfl,S51,d51,rfl,hS51,hd51,hm51⟩:=r51;refine d_t 20 rfl rfl (by kernel_rfl) rfl (fun _ m=>m.keeps (.refl _)) (a1O rfl rfl rfl (a0l he rfl rfl e51 (a) oM ha)) ?_;refine dH 21 1 ?_;refine a0n rfl rfl rfl (a0y (a3I _ l[a] S51 d51 ⟨_,_,rfl,hS51,hd51,hm51⟩ (hsl _ (List.getElem_mem ha))) rfl rfl ?_);refine go 1 ?_;refine d_t 23 rfl rfl (by kernel_rfl) rfl (fun _ m=>m.keeps (.refl _)) (a1O rfl rfl rfl (OV.cast (u:=.bool false) (b7n rfl rfl) (congrArg Value.bool (by rw[decide_eq_true hkl];rfl)))) ?_;refine dG 24 2 ?_;refine go 10 ?_;refine o_v rfl (a0v he rfl (cg5 2 _ rfl)) ?_;refine go 5 ?_
   refine a5t ((0:Nat)) (Ig5) (A1) (k1) (xs) (fun k J A2 k2 ys=>J)
    (fun k J A2 k2 ys=>[(0,.slice A0 l.length c0),(2,.slice B0 ch.length d0),(3,.pointer (some ⟨gz,0,none⟩)),(5,.pointer (some ⟨g5,0,none⟩)),(57,.slice K0 (a2w c l n ch a).length kc),(58,.int .i64 (((a2w c l n ch a).length:Nat):Int)),(59,.int .i64 ((k:Nat):Int))])
    (fun k J A2 k2 ys=>[.row (.slice A2 (dn++a5x c l n ch a k).length k2) 45 1 (dn++a5x c l n ch a k).length ys,.blk gz 70 [.slice A2 (dn++a5x c l n ch a k).length k2]])
    (fun k J A2 k2 ys=>k≤(a2w c l n ch a).length∧ILe Ig5 J∧Flat J ys (dn++a5x c l n ch a k))
    (fun k J A2 k2 ys=>(a2w c l n ch a).length-k) ⟨Nat.zero_le _,ILe.refl _,by rw[a8z,List.append_nil];exact hF⟩ rfl sb (by rw[a8z,List.append_nil]) ?_
   intro k J A2 k2 ys ⟨hk2,hJ,hF2⟩;have hv:=hv.le hJ;have hw:=hw.le hJ;have hA0:=hA0.le hJ;have hK:=hK.le hJ;have cg5:=cg5.le hJ;refine gC 6 (fun h60 p60=>?_) fun h60 p60=>?_
   ·have hlt:k<(a2w c l n ch a).length:=oM;have hle:=c6z (c:=c) (l:=l) (n:=n) (ch:=ch) (a:=a) (show k+1≤(a2w c l n ch a).length from oM);rw[a5h]at hle
    simp only[List.length_append]at hle hlen
    refine go 7 ?_;obtain⟨b62,o62,w62,e62,c62,r62⟩:=RdA.at_ hK (i:=k) hlt;rw[a2D hlt]at r62
    refine go 1 ?_;refine o_v rfl (a0S he rfl c62 (Enc.len r62)) ?_;refine go 2 fun g10=>?_
    refine go 2 ?_;refine a0Y _ he rfl rfl rfl (Enc.len (α:=Fm) r62) rfl (Enc.one (α:=Fm) r62) ?_;refine go 3 ?_;refine a0A fun Ig10 jg10 cg10=>?_
    try have hw:=hw.le jg10
    try have hv:=hv.le jg10
    try have hA0:=hA0.le jg10
    try have hB:=hB.le jg10
    try have hK:=hK.le jg10
    try have hF:=hF.le jg10
    try have cg5:=cg5.le jg10
    refine a0b ?_;refine a0b ?_;refine a1P fun hE11 hf11=>?_;refine ds2 ?_;refine dG 0 1 ?_;refine a0F 1 rfl rfl (by kernel_rfl) rfl (.cons _ (.cons _ .slnil)) rfl (a0S he rfl cg10 (Enc.len (α:=Fm) r62)) ?_;refine dG 2 2 ?_;refine a0F 4 rfl rfl (by kernel_rfl) rfl (.cons _ (.cons _ .slnil)) rfl (a0v he rfl (cg5 1 _ rfl)) ?_;refine dG 5 1 ?_;refine dG 7 1 ?_;refine dH 6 0 ?_;refine a0m (c3M _ _ ch hw oM a hb ((k:Nat):Int)) rfl rfl fun v70 I70 j70 q70=>?_
    try have hw:=hw.le j70
    try have hv:=hv.le j70
    try have hA0:=hA0.le j70
    try have hB:=hB.le j70
    try have hK:=hK.le j70
    try have hF:=hF.le j70
    try have cg5:=cg5.le j70
    obtain q70:=q70;refine dH 8 0 ?_;refine a0b ?_;refine a0b ?_;refine a2H (Hc:=[_,_]) (ih _ (jg5.trans (hJ.trans (jg10.trans j70))) _ _ q70 (ho.set ha oM oM) (by have:=a5y (k:=((k:Nat):Int)) hb hna oM;omega) _ (r62.le (jg10.trans j70)) A2 k2 ys (dn++a5x c l n ch a k) (hF2.le (jg10.trans j70)) (by simp only[List.length_append];omega)) rfl rfl fun u72 I72 H72 j72 q72=>?_;obtain⟨rfl,A72,k72,xs72,rfl,hF72⟩:=q72;refine b3M ?_
    try have hw:=hw.le j72
    try have hv:=hv.le j72
    try have hA0:=hA0.le j72
    try have hB:=hB.le j72
    try have hK:=hK.le j72
    try have hF:=hF.le j72
    try have cg5:=cg5.le j72
    refine dG 9 1 ?_;refine go 11 ?_;exact a2Y (k+1) (I72) (A72) (k72) (xs72) ⟨oM,hJ.trans (jg10.trans (j70.trans j72)),by rw[a5h,←List.append_assoc];exact hF72⟩ oM rfl sb (by rw[a5h,←List.append_assoc])
   ·refine go 12 ?_;obtain rfl:k=(a2w c l n ch a).length:=oM;rw[e1];exact a2g (fun _ m=>m) ⟨rfl,A2,k2,ys,rfl,hF2⟩
theorem d4U (v:Value) (l:List Rep) (hl:l.length≤1000000) (hsl:∀r∈l,∀e∈r.options,SmE e) (c:List Kind) (gz:Nat):∀(N:Nat) (I:IMap),RdS I v l→∀w ch,RdS I w ch→Opn l ch→a9m ch≤N→∀vs,FmRd I vs (a2i c l N ch)→∀A1 k1 xs (dn:List (List Int)),Flat I xs dn→(dn++(a2m c l N ch)).length≤1000000→FnH prog 198 #[v,.agg vs.toArray,w,.pointer (some ⟨gz,0,none⟩)] I [.row (.slice A1 dn.length k1) 45 1 dn.length xs,.blk gz 70 [.slice A1 dn.length k1]] (fun u J H'=>u = .bool true∧∃A2 k2 xs2,H'=[.row (.slice A2 (dn++(a2m c l N ch)).length k2) 45 1 (dn++(a2m c l N ch)).length xs2,.blk gz 70 [.slice A2 (dn++(a2m c l N ch)).length k2]]∧Flat J xs2 (dn++(a2m c l N ch))):=by
 intro N
 induction N with
 |zero=>exact fun I hv w ch hw ho hn vs hx A1 k1 xs dn hF hlen=>b0Y I v l hv hl hsl c gz 0 (fun n h=>oM) w ch hw ho hn vs hx A1 k1 xs dn hF hlen
 |succ N ih=>exact fun I hv w ch hw ho hn vs hx A1 k1 xs dn hF hlen=>b0Y I v l hv hl hsl c gz (N+1) (fun n h J hJ w ch hw ho hn vs hx A1 k1 xs dn hF hlen=>by
  obtain rfl:N=n:=oM
  exact ih J (hv.le hJ) w ch hw ho hn vs hx A1 k1 xs dn hF hlen) w ch hw ho hn vs hx A1 k1 xs dn hF hlen
theorem d4V (I:IMap) (v:Value) (l:List Rep) (hv:RdS I v l) (hl:l.length≤1000000) (hsl:∀r∈l,∀e∈r.options,SmE e) (c:List Kind) (hva:(l.any fun r=>!a0g r)=false) (vs:List Value) (hx:FmRd I vs (a3k c l)) (h96:cntN (a3k c l)≤4096) (hed:(a2o c l).length≤1000000) (hl5:l.length≤5000) :
    FnI prog 108 #[v,.agg vs.toArray] I (fun u J=>RdS J u (a2o c l)):=by
 refine enter func108 call108 rfl ntmps108 rfl fun w0=>?_;refine go 4 fun g3=>?_
 refine go 7 fun g5=>?_
 refine go 4 ?_;refine a0E 45 1 ?_;refine go 2 ?_;refine a0m (c3J _ v l hv hl hsl) rfl rfl fun v10 I10 j10 q10=>?_;have hv:=hv.le j10;have hx:=hx.le j10
 try have hw:=hw.le j10
 obtain⟨w,rfl,hw⟩:=q10;refine go 12 ?_;refine cV (c3L _ v l hv hl hsl) ?_;refine o_v rfl (OV.cast (u:=.bool false) (b1O rfl) (congrArg Value.bool (by rw[hva];rfl))) ?_;refine go 1 ?_;refine a0z (a0n rfl rfl rfl (a0q rfl (a2N m2 he rfl (Enc.len (α:=Fm) hx)) ?_));refine go 1 ?_;refine a0n rfl rfl rfl (a0m (c7m _ _ vs hx) rfl rfl (fun v18 I18 j18 q18=>?_));have hv:=hv.le j18;have hx:=hx.le j18
 try have hw:=hw.le j18
 obtain rfl:=q18;refine a0z (a0n rfl rfl rfl (a0q rfl (OV.cast (u:=.bool false) (b1O rfl) (congrArg Value.bool (by rw[b7h hva hl5 h96];rfl))) ?_));refine go 3 ?_;refine a0z (a0n rfl rfl rfl (a0q rfl (a2N m2 he rfl (Enc.len (α:=Fm) hx)) ?_));refine go 2 ?_;refine a0b ?_;refine a0b ?_;refine a0n rfl rfl rfl (a2H (Hc:=[_,_]) (d4U v l hl hsl c g5 _ _ hv w _ hw (Opn.beg (b5Q.1 hva)) (Nat.le_refl _) vs hx none 0 [] [] .nil hed) rfl rfl (fun u25 I25 H25 j25 q25=>?_));obtain⟨rfl,A25,k25,xs25,rfl,hF25⟩:=q25;refine b3M ?_;have hv:=hv.le j25;have hx:=hx.le j25
 try have hw:=hw.le j25
 refine go 15 ?_;refine a0b ?_;refine a0a ?_;refine a0b ?_;refine a0a ?_;refine a0i (l:=a2o c l) rfl rfl hF25 fun I9 j9 R9=>?_;exact q_i R9
theorem d4Z (vc:Value) (c:List Kind) (hsc:SmC c) (v:Value) (l:List Rep) (hl:l.length≤1000000) (hsl:∀r∈l,∀e∈r.options,SmE e) (gb:Nat):∀(N:Nat) (I:IMap),RdS I vc c→RdS I v l→∀w ch,RdS I w ch→ch.length=l.length→a9m ch≤N→∀m:Int,((cntN (a2i c l N ch):Nat):Int)≤m→m≤4096→FnG prog 106 #[.pointer (some ⟨gb,0,none⟩),w] I (.blk gb 206 [vc,v,.int .i64 (m)]) (fun u J r=>r = .blk gb 206 [vc,v,.int .i64 (m-(cntN (a2i c l N ch):Nat))]∧∃vs,u = .agg vs.toArray∧FmRd J vs (a2i c l N ch)):=by
 intro N
 induction N with
 |zero=>exact fun I hvc hv w ch hw hlc hn m hm1 hm=>b0Z I vc c hvc hsc v l hv hl hsl gb 0 (fun n h=>oM) w ch hw hlc hn m hm1 hm
 |succ N ih=>
  exact fun I hvc hv w ch hw hlc hn m hm1 hm=>b0Z I vc c hvc hsc v l hv hl hsl gb (N+1) (fun n h J hJ w ch hw hlc hn m hm1 hm=>by
   obtain rfl:N=n:=oM
   exact ih J (hvc.le hJ) (hv.le hJ) w ch hw hlc hn m hm1 hm) w ch hw hlc hn m hm1 hm
theorem d4S (I:IMap) (g6 g7:Nat) (vs:List Value) (e:Int) :
    FnDf prog 105 #[.pointer (some ⟨g6,0,none⟩),.pointer (some ⟨g7,0,none⟩)] I [.blk g6 44 vs,.blk g7 63 [.int .i64 (e)]] (fun I' H'=>I'=I∧H'=[.blk g6 44 vs,.blk g7 63 [.int .i64 (e)]]):=by
 refine d0r func105 rfl ntmps105 rfl rfl fun w0=>?_;refine go 3 ?_;refine o_v rfl (d5Q (he) rfl) ?_;refine go 7 ?_;refine d7n rfl ?_;exact a2g (fun _ m=>m) ⟨rfl,rfl⟩
theorem d1K (I:IMap) (vc:Value) (c:List Kind) (hvc:RdS I vc c) (hsc:SmC c) (v:Value) (l:List Rep) (hv:RdS I v l) (hl:l.length≤30) (hsl:∀r∈l,∀e∈r.options,SmE e) (hcv:a1I c=true) (hva:(l.any fun r=>!a0g r)=false) (h96:cntN (a3k c l)≤4096) :
    FnI prog 42 #[.agg #[vc],v,.int .i64 (4096)] I (fun u J=>∃vs,u = .tuple #[.agg vs.toArray,.int .i64 0]∧FmRd J vs (a3k c l)):=by
 obtain⟨A0,c0,rfl,hA0,hc0,hm0⟩:=id hv;refine enter func42 call42 rfl ntmps42 rfl fun w0=>?_;refine go 4 fun g3=>?_
 refine go 2 fun g6=>?_
 refine go 2 fun g7=>?_
 refine go 7 ?_;refine cV (a7g _ vc c hvc hsc) ?_;refine o_v rfl (OV.cast (u:=.bool false) (b1O rfl) (congrArg Value.bool (by rw[hcv];rfl))) ?_;refine go 3 ?_;refine a0n rfl rfl rfl (a0y (c3L _ _ l hv oM hsl) rfl rfl ?_);refine a0z (a0n rfl rfl rfl (a0q rfl (OV.cast (u:=.bool false) (b1O rfl) (congrArg Value.bool (by rw[hva];rfl))) ?_));refine go 4 ?_;refine a0z (a0n rfl rfl rfl (a0q rfl (OV.cast (u:=.bool false) (c4M rfl rfl) (congrArg Value.bool (decide_eq_false oM))) ?_));refine go 3 ?_;refine a0z (a0n rfl rfl rfl (a0q rfl (OV.cast (u:=.bool false) (b7m rfl rfl) rfl) ?_));refine go 3 ?_;refine a0z (a0n rfl rfl rfl (a0q rfl (OV.cast (u:=.bool false) (c4M rfl rfl) rfl) ?_));refine go 10 ?_;refine a0m (c3J _ _ l hv oM hsl) rfl rfl fun v34 I34 j34 q34=>?_;have hvc:=hvc.le j34;have hv:=hv.le j34
 try have hw:=hw.le j34
 obtain⟨w,rfl,hw⟩:=q34;have hon:=c9i (l:=l) (i:=l.length);rw[List.take_length]at hon
 refine go 11 ?_;refine o_v rfl (OV.cast (u:=.bool false) (c4M rfl rfl) (congrArg Value.bool (decide_eq_false oM))) ?_;refine go 6 ?_;refine b9w rfl rfl ?_;refine go 2 ?_;refine d5s rfl rfl ?_;refine go 9 fun g45=>?_
 refine go 2 ?_;refine a1m (d4Z vc c hsc _ l oM hsl g45 _ _ hvc hv w _ hw (by rw[List.length_map]) (Nat.le_refl _) 4096 (by exact_mod_cast h96) (Int.le_refl _)) rfl rfl fun v47 I47 s47 j47 q47=>?_;have hvc:=hvc.le j47;have hv:=hv.le j47
 try have hw:=hw.le j47
 obtain⟨rfl,vs47,rfl,hk47⟩:=q47;obtain⟨s47,rfl,hs47⟩:=a2k hk47;refine go 1 ?_;refine a0d ?_;refine a0Y _ he rfl rfl rfl rfl rfl (Enc.one (α:=Fm) hk47) ?_;refine go 1 ?_;refine a0d ?_;refine go 4 ?_;refine a0b ?_;refine c7u (Hc:=[_,_]) call105 (d4S _ g6 g7 _ _) fun I6 H6 j6 q6=>?_;obtain⟨rfl,rfl⟩:=q6;refine b3M ?_;refine go 1 ?_;refine a0a ?_;refine a0a ?_;refine a0a ?_;refine a0a ?_;exact q_i ⟨_,rfl,hk47⟩
end Go.Proofs.YtgmkjpafapgccaaGreat
namespace Go.Proofs.YtgmkjpafapgccaaGreat
open Go Go.Sx Tryz
set_option linter.all false
set_option maxRecDepth 20000
set_option maxHeartbeats 4000000
instance:Has (a2j prog 109) ([.slice none 0 0,.bool false],2,32):=hk
instance:Has (a1k prog 48 0) (0,false,1):=hk
instance:Has (plK prog 48) [(0,1),(1,3),(4,1),(5,1)]:=hk
instance:Has (tyK prog 117) (false,1):=hk
instance:Has (tyK prog 48) (true,6):=hk
instance:Has (tyK prog 56) (true,6):=hk
instance:Has (a1o prog 48) [.int .i64 0,.int .i64 0,.int .i64 0,.slice none 0 0,.slice none 0 0,.slice none 0 0]:=hk
theorem d7T (I:IMap) (vc:Value) (c:List Kind) (hvc:RdS I vc c) (hsc:SmC c) (f:Fm) (sf:Value) (hfm:FmRd I [ci f.op,ci f.n,sf] f) (v0 v1 v2 v3 v4 v5:Value) (b:Bok) (hb:BokRd I v0 v1 v2 v3 v4 v5 b) (hok:OkBok b) (ve:Value) (e:List Evt) (hve:RdS I ve e) (hel:e.length≤25) (hse:∀x∈e,SmE x) (vn:ByteArray) (day:Int) (gx gb gv gd:Nat) (kx:ICells I gx 0 [vc,ci f.op,ci f.n,sf]) (kb:ICells I gb 0 [v0,v1,v2,v3,v4,v5]) (kv:ICells I gv 0 [.string vn]) (kd:ICells I gd 0 [.int .i64 (day)]) :
    FnI prog 44 #[ve,.pointer (some ⟨gx,0,none⟩),.pointer (some ⟨gb,0,none⟩),.pointer (some ⟨gv,0,none⟩),.pointer (some ⟨gd,0,none⟩)] I (fun u J=>RdS J u (ofF f c b e vn day)):=by
 refine enter func44 call44 rfl ntmps44 rfl fun w0=>?_;refine go 7 ?_;refine o_v rfl (a0S he rfl kx rfl) ?_;refine o_v rfl (a0S he rfl kb rfl) ?_;refine go 1 ?_;refine o_v rfl (a0v he rfl (kv 0 _ rfl)) ?_;refine o_v rfl (a0v he rfl (kd 0 _ rfl)) ?_;refine go 1 ?_;refine a0m (d8o _ vc c hvc hsc f sf hfm v0 v1 v2 v3 v4 v5 b hb hok ve e hve hel hse vn day) rfl rfl fun v12 I12 j12 q12=>?_;refine go 5 ?_;exact q_i q12
theorem d7U (I:IMap) (r:Rep) (S:Option Addr) (d:Nat) (hr:RdS I (.slice S r.options.length d) r.options) (hs:∀e∈r.options,SmE e) :
    FnV prog 39 #[.agg (r.cells (.slice S r.options.length d)).toArray] I (.bool (!a0g r)):=by
 refine enter func39 call39 rfl ntmps39 rfl fun w0=>?_;refine go 4 fun g1=>?_
 refine go 7 ?_;refine cV (a7R _ r S d hr hs) ?_;refine go 6 ?_;exact q_v rfl
theorem d8O (I:IMap) (c:List Kind) (v:Value) (l:List Rep) (hv:RdS I v l) (hl:l.length≤25) (hsl:∀r∈l,∀e∈r.options,SmE e) (hva:(l.any fun r=>!a0g r)=false) (vs:List Value) (hx:FmRd I vs (a3k c l)) (h96:cntN (a3k c l)≤4096) (hed:(a2o c l).length≤1000000) (F:FuncId) (cs:List Value) (fe:List Evt→List Flt) (hF:∀J,ILe I J→∀u e,RdS J u e→e.length≤25→(∀x∈e,SmE x)→FnI prog F ([u]++cs).toArray J fun r J2=>RdS J2 r (fe e)) (gl gp gf:Nat) (kl:ICells I gl 0 [v]) (kp:ICells I gp 0 vs) (kf:ICells I gf 0 [.func (.func F) #[] cs.toArray]) :
    c0W prog 107 [.pointer (some ⟨gl,0,none⟩),.pointer (some ⟨gp,0,none⟩),.pointer (some ⟨gf,0,none⟩)] I (fun I vs (x:List Int×List Flt)=>∃w u,vs=[w,u]∧RdS I w x.1∧RdS I u x.2) (fun pre x=>pre++[x] <+: ((a2o c l).map fun t=>(t,fe (a0J l t).1))) (fun pre=>pre=((a2o c l).map fun t=>(t,fe (a0J l t).1))) (fun _=>True):=by
 have hF0:=hF;intro ly J I1 Hc hI1 hJm hY hJ0;have hv:=hv.le hI1;have hx:=hx.le hI1;have kl:=kl.le hI1;have kp:=kp.le hI1;have kf:=kf.le hI1;refine enter func107 call107 rfl ntmps107 rfl fun w0=>?_;refine go 2 ?_;refine o_v rfl (a0v he rfl (kl 0 _ rfl)) ?_;refine o_v rfl (a0S he rfl kp (Enc.len (α:=Fm) hx)) ?_;refine go 1 ?_;refine a0m (d4V _ v l hv oM hsl c hva vs hx h96 hed oM) rfl rfl fun v11 I11 j11 q11=>?_
 try have hv:=hv.le j11
 try have hx:=hx.le j11
 try have kl:=kl.le j11
 try have kp:=kp.le j11
 try have kf:=kf.le j11
 have hJ:=hJm _ _ _ _ _ j11 hJ0;have hF:=fun J h=>hF J (ILe.trans hI1 (ILe.trans j11 h))
 obtain⟨AA,ca,rfl,hE,hca,hma⟩:=q11;refine go 5 ?_
 refine a3A ((0:Nat)) ([]) (I11) (Hc) (fun i pre I2 Hc=>I2)
  (fun i pre I2 Hc=>[(0,.func (.yield ly) #[] #[]),(1,.pointer (some ⟨gl,0,none⟩)),(2,.pointer (some ⟨gp,0,none⟩)),(3,.pointer (some ⟨gf,0,none⟩)),(11,.slice AA (a2o c l).length ca),(12,.int .i64 (((a2o c l).length:Nat):Int)),(13,.int .i64 ((i:Nat):Int))])
  (fun i pre I2 Hc=>Hc)
  (fun i pre I2 Hc=>i≤(a2o c l).length∧ILe I11 I2∧pre=((a2o c l).map fun t=>(t,fe (a0J l t).1)).take i∧J true pre I2 Hc)
  (fun i pre I2 Hc=>(a2o c l).length-i) ⟨Nat.zero_le _,ILe.refl _,rfl,hJ⟩ rfl sb rfl ?_
 intro i pre I2 Hc ⟨hi,hI2,hpre,hJ⟩;have hv:=hv.le hI2;have hx:=hx.le hI2;have hE:=hE.le hI2;have kl:=kl.le hI2;have kp:=kp.le hI2;have kf:=kf.le hI2;have hF:=fun J (h:ILe I2 J)=>hF J (hI2.trans h)
 refine gC 6 (fun h14 p14=>?_) fun h14 p14=>?_
 ·have hlt:i<(a2o c l).length:=oM;have hpl:=b0W l (a2o c l)[i];refine go 6 ?_;obtain⟨b15,o15,w15,e15,c15,r15⟩:=RdA.at_ hE (i:=i) oM;obtain⟨q15,rfl,S15,d15,rfl,hS15,hd15,hm15⟩:=r15;refine go 7 ?_;refine o_v rfl (a0v he rfl (kl 0 _ rfl)) ?_;refine go 2 ?_;refine a0m (b1f _ _ l hv oM hsl _ (a2o c l)[i] ⟨_,_,rfl,hS15,hd15,hm15⟩) rfl rfl fun v20 I20 j20 q20=>?_
  try have hv:=hv.le j20
  try have hx:=hx.le j20
  try have hE:=hE.le j20
  try have kl:=kl.le j20
  try have kp:=kp.le j20
  try have kf:=kf.le j20
  try have hz20:=hz20.le j20
  try have q27:=q27.le j20
  have hJ:=hJm _ _ _ _ _ j20 hJ;have hF:=fun J h=>hF J (ILe.trans j20 h)
  try have hS15:=hS15.le j20
  obtain⟨z20,rfl,hz20⟩:=q20;refine go 11 ?_;refine o_v rfl (a0v he rfl (kf 0 _ rfl)) ?_;refine go 2 ?_;refine a0m (hF _ (ILe.refl _) _ _ hz20 oM (b0X hsl)) rfl rfl fun v27 I27 j27 q27=>?_
  try have hv:=hv.le j27
  try have hx:=hx.le j27
  try have hE:=hE.le j27
  try have kl:=kl.le j27
  try have kp:=kp.le j27
  try have kf:=kf.le j27
  try have hz20:=hz20.le j27
  try have q27:=q27.le j27
  have hJ:=hJm _ _ _ _ _ j27 hJ;have hF:=fun J h=>hF J (ILe.trans j27 h)
  try have hS15:=hS15.le j27
  refine go 1 ?_;refine c6S (((a2o c l)[i],fe (a0J l (a2o c l)[i]).1)) hY (hJm _ _ _ _ _ (ILe.refl _) hJ) (⟨_,_,rfl,⟨_,_,rfl,hS15,hd15,hm15⟩,q27⟩) ((by rw[hpre,c1V hlt];exact List.take_prefix _ _)) rfl rfl rfl fun b28 I28 Hc28 j28 hJ28=>?_
  try have hv:=hv.le j28
  try have hx:=hx.le j28
  try have hE:=hE.le j28
  try have kl:=kl.le j28
  try have kp:=kp.le j28
  try have kf:=kf.le j28
  try have hz20:=hz20.le j28
  try have q27:=q27.le j28
  have hJ:=hJm _ _ _ _ _ j28 hJ;have hF:=fun J h=>hF J (ILe.trans j28 h)
  refine gC 3 (fun h29 p29=>?_) fun h29 p29=>?_
  ·have hb28:b28=false:=by simpa using h29
   refine go 6 ?_;subst hb28;exact c3R false _ hJ28 trivial
  ·have hb28:b28=true:=by simpa using h29
   refine go 8 ?_;exact a1G (i+1) (pre++[((a2o c l)[i],fe (a0J l (a2o c l)[i]).1)]) (I28) (Hc28) ⟨oM,hI2.trans (j20.trans (j27.trans j28)),by rw[hpre];exact c1V hlt,hb28▸hJ28⟩ oM rfl sb rfl
 ·have e:i=(a2o c l).length:=oM;subst e;rw[d4a]at hpre
  refine go 5 ?_;exact c3R true _ hJ hpre
theorem d5v (I:IMap) (v:Value) (l:List Rep) (hv:RdS I v l) (x:Fm) (vs:List Value) (hx:FmRd I vs x) (F:FuncId) (cs:List Value) :
    FnI prog 43 #[v,.agg vs.toArray,.func (.func F) #[] cs.toArray] I (fun u J=>∃gl gp gf,u = .func (.func 107) #[] #[.pointer (some ⟨gl,0,none⟩),.pointer (some ⟨gp,0,none⟩),.pointer (some ⟨gf,0,none⟩)]∧ICells J gl 0 [v]∧ICells J gp 0 vs∧ICells J gf 0 [.func (.func F) #[] cs.toArray]):=by
 obtain⟨A,c0,rfl,_,_,_⟩:=id hv;obtain⟨sk,rfl,hk⟩:=a2k hx;refine enter func43 call43 rfl ntmps43 rfl fun w0=>?_;refine go 4 fun g3=>?_
 refine go 2 fun g4=>?_
 refine go 2 fun g5=>?_
 refine go 5 ?_;refine a0d ?_;refine a0A fun Ig3 jg3 cg3=>?_;refine a0b ?_;refine a0A fun Ig4 jg4 cg4=>?_;have cg3:=cg3.le jg4;refine a0A fun Ig5 jg5 cg5=>?_;have cg3:=cg3.le jg5;have cg4:=cg4.le jg5;refine go 6 ?_;exact q_i ⟨g3,g4,g5,rfl,cg3,cg4,cg5⟩
theorem a4P (I:IMap) (vc:Value) (c:List Kind) (hvc:RdS I vc c) (hsc:SmC c) (f:Fm) (sf:Value) (hfm:FmRd I [ci f.op,ci f.n,sf] f) (v:Value) (l:List Rep) (hv:RdS I v l) (hl:l.length≤25) (hsl:∀r∈l,∀e∈r.options,SmE e) (hw:a3O l≤2000) (R:Nat→Nat) (hRt:Rts l R) (v0 v1 v2 v3 v4 v5:Value) (b:Bok) (hb:BokRd I v0 v1 v2 v3 v4 v5 b) (hok:OkBok b) (vn:ByteArray) (day:Int) :
    FnI prog 10 #[.agg #[vc,ci f.op,ci f.n,sf],.agg #[v0,v1,v2,v3,v4,v5],v,.string vn,.int .i64 (day)] I (fun w J=>∃k h u,w = .agg ((decR f c b l (a0D l R vn) vn day).cs k h u).toArray∧VdRd J k h u (decR f c b l (a0D l R vn) vn day)):=by
 have hv0:=hv;obtain⟨A,c0,rfl,hA,hc,hm⟩:=hv;refine enter func10 call10 rfl ntmps10 rfl fun w0=>?_;refine go 4 fun g5=>?_
 refine go 2 fun g6=>?_
 refine go 2 fun g8=>?_
 refine go 2 fun g9=>?_
 refine go 2 fun g10=>?_
 refine go 2 ?_;refine c1u ?_;refine go 12 ?_;refine a0m (b3r _ vc c hvc hsc f sf hfm _ [] RdS.nil' (by simp) (fun e he=>by cases he) 0) rfl rfl fun v24 I24 j24 q24=>?_
 try have hvc:=hvc.le j24
 try have hfm:=hfm.le j24
 try have hb:=hb.le j24
 try have hv0:=hv0.le j24
 try have hA:=hA.le j24
 try have Ro:=Ro.le j24
 try have hs55:=hs55.le j24
 try have hk55:=hk55.le j24
 try have kl:=kl.le j24
 try have kp:=kp.le j24
 try have kf:=kf.le j24
 try have cg5:=cg5.le j24
 try have cg6:=cg6.le j24
 try have cg8:=cg8.le j24
 try have cg9:=cg9.le j24
 obtain⟨w24,rfl,hw24⟩:=q24;refine go 6 fun g11=>?_
 refine go 1 ?_;refine a0Y _ he rfl rfl rfl rfl rfl (by simp[RdS.one hw24]) ?_;refine gS 9 30 (fun h30 p30=>?_) fun h30 p30=>?_
 ·refine go 10 ?_;refine a0b ?_;refine go 5 ?_;refine a4O ?_;refine go 1 ?_;have e:(decR f c b l (a0D l R vn) vn day)=b3Q:=b7L (by simp only[h30,bS]);rw[e];exact q_i ⟨_,_,_,rfl,RdS.nil',RdS.nil',RdS.nil'⟩
 ·refine go 2 ?_;refine a0n rfl rfl h30 (a0y (a4f _ _ l hv0 39 [] (fun r=>!a0g r) (fun x hx vs hr=>by obtain⟨q,rfl,S,d,rfl,hS,hd,hm⟩:=hr;exact d7U _ x S d ⟨_,_,rfl,hS,hd,hm⟩ (hsl _ hx))) rfl rfl ?_);refine gC 3 (fun h33 p33=>?_) fun h33 p33=>?_
  ·refine go 4 ?_;refine a0b ?_;refine go 5 ?_;refine a4O ?_;refine go 1 ?_;have e:(decR f c b l (a0D l R vn) vn day)=b3Q:=b7L (by simp only[h30,h33,bS]);rw[e];exact q_i ⟨_,_,_,rfl,RdS.nil',RdS.nil',RdS.nil'⟩
  ·have hrun:(runL f c [] 0).2.2=0:=by simpa using h30
   have hva:(l.any fun r=>!a0g r)=false:=h33;have hcf:=a7V hrun;have hvl:=a3N hva;have hcl2:=b0T (l:=l) (R:=R) (p:=vn);refine go 4 ?_;refine a0E 109 2 ?_;refine go 9 ?_;refine a0m (c2M _ _ l hv0 oM hsl vn R hRt) rfl rfl fun v37 I37 j37 q37=>?_
   try have hvc:=hvc.le j37
   try have hfm:=hfm.le j37
   try have hb:=hb.le j37
   try have hv0:=hv0.le j37
   try have hA:=hA.le j37
   try have Ro:=Ro.le j37
   try have hs55:=hs55.le j37
   try have hk55:=hk55.le j37
   try have kl:=kl.le j37
   try have kp:=kp.le j37
   try have kf:=kf.le j37
   try have cg5:=cg5.le j37
   try have cg6:=cg6.le j37
   try have cg8:=cg8.le j37
   try have cg9:=cg9.le j37
   obtain⟨CA,cc,rfl,hCA,hcc,hcm⟩:=q37;rw[a4L]at hcc ⊢
   refine go 5 ?_;refine a0b ?_;refine a0a ?_
   refine a3A ((0:Nat)) (none) (0) ([]) (fun i A16 c16 xs=>I37)
    (fun i A16 c16 xs=>[(2,.slice A l.length c0),(5,.pointer (some ⟨g5,0,none⟩)),(6,.pointer (some ⟨g6,0,none⟩)),(8,.pointer (some ⟨g8,0,none⟩)),(9,.pointer (some ⟨g9,0,none⟩)),(10,.pointer (some ⟨g10,0,none⟩)),(14,.slice A16 i c16),(37,.slice CA (ofN l R vn).length cc),(38,.int .i64 (((ofN l R vn).length:Nat):Int)),(39,.int .i64 ((i:Nat):Int))])
    (fun i A16 c16 xs=>[.row (.slice A16 i c16) 109 2 i xs,.blk g10 48 [.int .i64 (4),.int .i64 (0),.int .i64 (0),.slice none 0 0,.slice none 0 0,.slice none 0 0],.blk g9 3 [.int .i64 (day)],.blk g8 9 [.string vn],.blk g6 56 [v0,v1,v2,v3,v4,v5],.blk g5 29 [vc,ci f.op,ci f.n,sf]])
    (fun i A16 c16 xs=>i≤(ofN l R vn).length∧Flat I37 xs (a5l l ((ofN l R vn).take i)))
    (fun i A16 c16 xs=>(ofN l R vn).length-i) ⟨Nat.zero_le _,.nil⟩ rfl sb rfl ?_
   intro i A16 c16 xs ⟨hi,hF⟩;have hcl3:(a0D l R vn).length=(ofN l R vn).length:=a5m fun i hi=>b4X hi
   refine gC 6 (fun h40 p40=>?_) fun h40 p40=>?_
   ·have hlt:i<(ofN l R vn).length:=oM;have hcl:(ofN l R vn)[i]<l.length:=b4X (List.getElem_mem hlt);refine go 6 ?_;obtain⟨b41,o41,w41,e41,c41,r41⟩:=RdA.at_ hCA (i:=i) (by first|exact hlt|(rw[a4L];exact hlt));rw[c2V hlt]at r41
    obtain rfl:=r41;refine o_v rfl (a0l he rfl rfl e41 (i) oM (by first|exact hlt|(rw[a4L];exact hlt))) ?_;refine go 8 ?_;obtain⟨b46,o46,w46,e46,c46,r46⟩:=RdA.at_ hA (i:=(ofN l R vn)[i]) hcl;obtain⟨q46,rfl,S46,d46,rfl,hS46,hd46,hm46⟩:=r46;refine o_v rfl (a0l he rfl rfl e46 ((ofN l R vn)[i]) oM hcl) ?_;refine go 3 fun v48=>?_
    refine go 1 ?_;refine a0b ?_;refine a0O he he rfl rfl rfl rfl rfl oM oM rfl fun v49=>?_;refine a1c fun A49 c49 hv49=>?_;subst hv49;refine go 9 ?_;refine a0b ?_;refine a0a ?_;exact a1G (i+1) (_) (_) (_) ⟨oM,by rw[a7N hlt hcl];exact hF.append (.one ⟨_,rfl,⟨_,_,rfl,hS46,hd46,hm46⟩⟩)⟩ oM rfl sb rfl
   ·obtain rfl:i=(ofN l R vn).length:=oM;rw[List.take_length]at hF
    refine a0i (l:=(a0D l R vn)) rfl hcl3.symm hF fun I9 j9 Ro=>?_;have hvc:=hvc.le j9;have hfm:=hfm.le j9;have hb:=hb.le j9;rw[←hcl3]at Ro ⊢
    have hvo:((a0D l R vn).any fun r=>!a0g r)=false:=b5Q.2 (a4c hvl);have h96:cntN (a3k c (a0D l R vn))≤4096:=by have h1:=b5A (c:=c) (a4c hvl (R:=R) (p:=vn));have h2:=a7L (R:=R) (p:=vn) hvl;omega
    have he6:(a2o c (a0D l R vn)).length≤1000000:=by have h1:=b4v (c:=c) (a4c hvl (R:=R) (p:=vn));have h2:=a7L (R:=R) (p:=vn) hvl;omega
    have hD:=b2T (f:=f) (c:=c) (b:=b) (l:=l) (own:=(a0D l R vn)) (vn:=vn) (day:=day) hrun hva;refine go 8 ?_;refine o_v rfl (a1R ([vc]) m4 he rfl rfl rfl) ?_;refine go 2 ?_;refine a0m (d1K _ vc c hvc hsc _ (a0D l R vn) Ro oM (fun r hr=>hsl r (a6Z hr)) hcf hvo h96) rfl rfl fun v55 I55 j55 q55=>?_
    try have hvc:=hvc.le j55
    try have hfm:=hfm.le j55
    try have hb:=hb.le j55
    try have hv0:=hv0.le j55
    try have hA:=hA.le j55
    try have Ro:=Ro.le j55
    try have hs55:=hs55.le j55
    try have hk55:=hk55.le j55
    try have kl:=kl.le j55
    try have kp:=kp.le j55
    try have kf:=kf.le j55
    try have cg5:=cg5.le j55
    try have cg6:=cg6.le j55
    try have cg8:=cg8.le j55
    try have cg9:=cg9.le j55
    obtain⟨vs55,rfl,hk55⟩:=q55;obtain⟨s55,rfl,hs55⟩:=a2k hk55;refine go 5 fun g17=>?_
    refine go 1 ?_;refine a0Y _ he rfl rfl rfl rfl rfl (Enc.one (α:=Fm) hk55) ?_;refine go 7 ?_;refine o_v rfl (OV.cast (u:=.bool false) (b7n rfl rfl) rfl) ?_;refine go 10 ?_;refine a0b ?_;refine a0Y _ he rfl rfl rfl rfl rfl (show [(.int .i64 (3):Value),ci (a3k c (a0D l R vn)).op,ci (a3k c (a0D l R vn)).n,s55,.slice none 0 0,.slice none 0 0].all (·.oneCell')=true by simp[hs55.one,b1Q,c2Z]) ?_;refine go 3 ?_;refine c1s ?_;refine go 6 ?_;refine a3w ?_;refine a0A fun Ig5 jg5 cg5=>?_
    try have hvc:=hvc.le jg5
    try have hfm:=hfm.le jg5
    try have hb:=hb.le jg5
    try have hv0:=hv0.le jg5
    try have hA:=hA.le jg5
    try have Ro:=Ro.le jg5
    try have hs55:=hs55.le jg5
    try have hk55:=hk55.le jg5
    try have kl:=kl.le jg5
    try have kp:=kp.le jg5
    try have kf:=kf.le jg5
    try have cg5:=cg5.le jg5
    try have cg6:=cg6.le jg5
    try have cg8:=cg8.le jg5
    try have cg9:=cg9.le jg5
    refine a1y ?_;refine a0A fun Ig6 jg6 cg6=>?_
    try have hvc:=hvc.le jg6
    try have hfm:=hfm.le jg6
    try have hb:=hb.le jg6
    try have hv0:=hv0.le jg6
    try have hA:=hA.le jg6
    try have Ro:=Ro.le jg6
    try have hs55:=hs55.le jg6
    try have hk55:=hk55.le jg6
    try have kl:=kl.le jg6
    try have kp:=kp.le jg6
    try have kf:=kf.le jg6
    try have cg5:=cg5.le jg6
    try have cg6:=cg6.le jg6
    try have cg8:=cg8.le jg6
    try have cg9:=cg9.le jg6
    refine a0u ?_;refine a0A fun Ig8 jg8 cg8=>?_
    try have hvc:=hvc.le jg8
    try have hfm:=hfm.le jg8
    try have hb:=hb.le jg8
    try have hv0:=hv0.le jg8
    try have hA:=hA.le jg8
    try have Ro:=Ro.le jg8
    try have hs55:=hs55.le jg8
    try have hk55:=hk55.le jg8
    try have kl:=kl.le jg8
    try have kp:=kp.le jg8
    try have kf:=kf.le jg8
    try have cg5:=cg5.le jg8
    try have cg6:=cg6.le jg8
    try have cg8:=cg8.le jg8
    try have cg9:=cg9.le jg8
    refine a0d ?_;refine a0A fun Ig9 jg9 cg9=>?_
    try have hvc:=hvc.le jg9
    try have hfm:=hfm.le jg9
    try have hb:=hb.le jg9
    try have hv0:=hv0.le jg9
    try have hA:=hA.le jg9
    try have Ro:=Ro.le jg9
    try have hs55:=hs55.le jg9
    try have hk55:=hk55.le jg9
    try have kl:=kl.le jg9
    try have kp:=kp.le jg9
    try have kf:=kf.le jg9
    try have cg5:=cg5.le jg9
    try have cg6:=cg6.le jg9
    try have cg8:=cg8.le jg9
    try have cg9:=cg9.le jg9
    refine go 2 ?_;refine a0m (d5v _ _ (a0D l R vn) Ro (a3k c (a0D l R vn)) _ hk55 44 [.pointer (some ⟨g5,0,none⟩),.pointer (some ⟨g6,0,none⟩),.pointer (some ⟨g8,0,none⟩),.pointer (some ⟨g9,0,none⟩)]) rfl rfl fun v66 I66 j66 q66=>?_
    try have hvc:=hvc.le j66
    try have hfm:=hfm.le j66
    try have hb:=hb.le j66
    try have hv0:=hv0.le j66
    try have hA:=hA.le j66
    try have Ro:=Ro.le j66
    try have hs55:=hs55.le j66
    try have hk55:=hk55.le j66
    try have kl:=kl.le j66
    try have kp:=kp.le j66
    try have kf:=kf.le j66
    try have cg5:=cg5.le j66
    try have cg6:=cg6.le j66
    try have cg8:=cg8.le j66
    try have cg9:=cg9.le j66
    obtain⟨gl,gp,gf,rfl,kl,kp,kf⟩:=q66;refine go 3 ?_;refine b0f (σ:=Vdt×Value×Value×Value) (ps:=[67,68]) (⟨3,(a3k c (a0D l R vn)),[],[]⟩,s55,.slice none 0 0,.slice none 0 0) (fun ⟨vd,k,h,u⟩=>[.blk g10 48 [ci vd.kind,ci vd.proof.op,ci vd.proof.n,k,h,u]]) (fun pre I ⟨vd,k,h,u⟩=>vd=⟨if pre.isEmpty=true then 3 else 1,(a3k c (a0D l R vn)),[],[]⟩∧(∀x∈pre,x.2=[])∧VdRd I k h u vd) (fun pre I ⟨vd,k,h,u⟩ cd=>cd = .exit 2∧vd=(decR f c b l (a0D l R vn) vn day)∧VdRd I k h u vd) rfl call107 (d8O _ c _ (a0D l R vn) Ro oM (fun r hr=>hsl r (a6Z hr)) hvo _ hk55 h96 he6 44 [.pointer (some ⟨g5,0,none⟩),.pointer (some ⟨g6,0,none⟩),.pointer (some ⟨g8,0,none⟩),.pointer (some ⟨g9,0,none⟩)] (fun e=>ofF f c b e vn day) (fun J hJ u e hu h1 h2=>d7T J vc c (hvc.le hJ) hsc f sf (hfm.le hJ) v0 v1 v2 v3 v4 v5 b (hb.le hJ) hok u e hu h1 h2 vn day g5 g6 g8 g9 (cg5.le hJ) (cg6.le hJ) (cg8.le hJ) (cg9.le hJ)) gl gp gf kl kp kf) (fun I vs x h=>by obtain⟨w,u,rfl,_⟩:=h;rfl) rfl (fun pre I I' s hI h=>by obtain⟨vd,k,h,u⟩:=s;exact⟨h.1,h.2.1,h.2.2.le hI⟩) (fun pre I I' s cd hI h=>by obtain⟨vd,k,h,u⟩:=s;exact⟨h.1,h.2.1,h.2.2.le hI⟩) (⟨rfl,(fun _ h=>by cases h),hs55,RdS.nil',RdS.nil'⟩) rfl ?_ ?_ ?_
    ·rintro r E1 pre x vs I1 ⟨vd,k,h,u⟩ hI1 ⟨rfl,hcl,hvd⟩ ⟨w,y,rfl,hw1,hy1⟩ hpf;obtain⟨FA,fk,rfl,hFA,hfk,hfm9⟩:=id hy1;obtain⟨HA,hk9,rfl,hHA,hhk,hhm⟩:=id hw1;refine c4t ?_;refine go 8 ?_;refine b1b ?_;refine gC 10 (fun h70 p70=>?_) fun h70 p70=>?_
     ·refine go 6 ?_;refine a0d ?_;refine a0Y _ he rfl rfl rfl rfl rfl (show [(.int .i64 (2):Value),.int .i64 (0),.int .i64 (0),.slice none 0 0,.slice HA x.1.length hk9,.slice FA x.2.length fk].all (·.oneCell')=true by simp[hw1.one,hy1.one,b1Q,c2Z]) ?_;refine go 5 ?_;refine a0d ?_;refine a0d ?_;exact d5u ((⟨2,d1l,x.1,x.2⟩,.slice none 0 0,.slice HA x.1.length hk9,.slice FA x.2.length fk)) (hI1) (⟨rfl,(hD.trans (c1P hpf hcl (fun e=>by rw[e]at p70;simp at p70))).symm,RdS.nil',hw1,hy1⟩) rfl
     ·refine go 3 ?_;refine a0d ?_;refine go 4 ?_;refine a0d ?_;refine a0d ?_;exact b5j ((⟨1,(a3k c (a0D l R vn)),[],[]⟩,k,h,u)) (hI1) (⟨by simp,(fun y hy=>(List.mem_append.1 hy).elim (hcl y) (fun h=>by rw[List.mem_singleton.1 h];exact List.eq_nil_of_length_eq_zero oM)),hvd.k,hvd.h,hvd.f⟩) rfl
    ·rintro D pre I1 ⟨vd,k,h,u⟩ hI1 hfull ⟨hvd,hcl,hVd⟩;have hDD:vd=(decR f c b l (a0D l R vn) vn day):=hvd.trans (hD.trans (c1O hfull hcl)).symm;refine b7g ?_;refine go 6 ?_;refine a0b ?_;refine a0Y _ he rfl rfl rfl rfl rfl (by simp[hVd.k.one,hVd.h.one,hVd.f.one,b1Q]) ?_;refine go 3 ?_;refine a4O ?_;refine a0b ?_;refine b1a ?_;refine go 1 ?_;rw[←hDD];exact q_i ⟨k,h,u,rfl,hVd⟩
    ·rintro D pre I1 ⟨vd,k,h,u⟩ cd hI1 hpart ⟨rfl,hDD,hVd⟩;refine b7g ?_;refine go 7 ?_;refine a0b ?_;refine a0Y _ he rfl rfl rfl rfl rfl (by simp[hVd.k.one,hVd.h.one,hVd.f.one,b1Q]) ?_;refine go 3 ?_;refine a4O ?_;refine a0b ?_;refine b1a ?_;refine go 1 ?_;rw[←hDD];exact q_i ⟨k,h,u,rfl,hVd⟩
end Go.Proofs.YtgmkjpafapgccaaGreat
set_option linter.all false
namespace Go.Sx
open Go
theorem d6X {cs:List Value} {v:Value} (i:Nat) (h:cs[i]? = some v):cs[0+i * 1]? = some v:=by rw[Nat.zero_add,Nat.mul_one];exact h
theorem b5M {a b:Nat} (ha:a≤9223372036854775807) (hb:b≤9223372036854775807):Value.bool (decide (IntKind.i64.wrap (((a:Nat):Int)+((b:Nat):Int))=0)) = .bool (decide (((a:Nat):Int)+((b:Nat):Int)=0)):=
 congrArg Value.bool (decide_eq_decide.2 (by rw[IntKind.wrap_i64];omega))
def a8M (l:List Rep) (ch:List Int) (m:Int) (len:Nat):Bool:=
 ((decide (m<0)||decide ((l.length:Int)≤m))||decide (0≤ch.getD m.toNat 0)) || !decide ((len:Int)=chs (l.getD m.toNat ⟨[],false⟩))
def a7A (op m:Int) (len:Nat):Bool:=!decide (op=1)&&(!decide (m=0)||decide (0<(len:Int)))
mutual
def visF {σ:Type} (c:List Kind) (l:List Rep) (E:σ→List Int→Bool×σ):Fm→List Int→Int→σ→Option (Int×σ)
 |.mk op m ks,ch,n,s=>
  if n+1>4096 then none
  else if a7A op m ks.length=true then none
  else if op=2 then (if a1B c l ch=true then some (n+1,s) else none)
  else if op=3 then (if (-1:Int)∈ch then none else if (E s ch).1=true then some (n+1,(E s ch).2) else none)
  else if op=1 then (if a8M l ch m ks.length=true then none else visL c l E ks m.toNat 0 ch (n+1) s)
  else none
def visL {σ:Type} (c:List Kind) (l:List Rep) (E:σ→List Int→Bool×σ):List Fm→Nat→Nat→List Int→Int→σ→Option (Int×σ)
 | [],_,_,_,n,s=>some (n,s)
 |k::ks,a,i,ch,n,s=>match visF c l E k (ch.set a (i:Int)) n s with
  |none=>none
  |some q=>visL c l E ks a (i+1) ch q.1 q.2
end
section
variable {σ:Type} {c:List Kind} {l:List Rep} {E:σ→List Int→Bool×σ} {x:Fm} {ch:List Int} {n:Int} {s:σ} {q:Int×σ} {a i:Nat} {ks:List Fm}
theorem b2G (x:Fm):visF c l E x ch n s=if n+1>4096 then none
  else if a7A x.op x.n x.kids.length=true then none
  else if x.op=2 then (if a1B c l ch=true then some (n+1,s) else none)
  else if x.op=3 then (if (-1:Int)∈ch then none else if (E s ch).1=true then some (n+1,(E s ch).2) else none)
  else if x.op=1 then (if a8M l ch x.n x.kids.length=true then none else visL c l E x.kids x.n.toNat 0 ch (n+1) s)
  else none:=by cases x;simp only[visF];rfl
theorem d2X (h:n+1>4096):visF c l E x ch n s=none:=by rw[b2G,if_pos h]
theorem d2Y (h0:¬n+1>4096) (h:a7A x.op x.n x.kids.length=true):visF c l E x ch n s=none:=by rw[b2G,if_neg h0,if_pos h]
theorem c0S (h0:¬n+1>4096) (hb:a7A x.op x.n x.kids.length=false) (h:x.op=2):visF c l E x ch n s=if a1B c l ch=true then some (n+1,s) else none:=by
 rw[b2G,if_neg h0,if_neg (by rw[hb];decide),if_pos h]
theorem b7o (h0:¬n+1>4096) (hb:a7A x.op x.n x.kids.length=false) (h:x.op=3):visF c l E x ch n s=if (-1:Int)∈ch then none else if (E s ch).1=true then some (n+1,(E s ch).2) else none:=by
 rw[b2G,if_neg h0,if_neg (by rw[hb];decide),if_neg oM,if_pos h]
theorem c4V (h0:¬n+1>4096) (hb:a7A x.op x.n x.kids.length=false) (h:x.op=1):visF c l E x ch n s=if a8M l ch x.n x.kids.length=true then none else visL c l E x.kids x.n.toNat 0 ch (n+1) s:=by
 rw[b2G,if_neg h0,if_neg (by rw[hb];decide),if_neg oM,if_neg oM,if_pos h]
theorem d3a (h0:¬n+1>4096) (hb:a7A x.op x.n x.kids.length=false) (h2:¬x.op=2) (h3:¬x.op=3) (h1:¬x.op=1):visF c l E x ch n s=none:=by
 rw[b2G,if_neg h0,if_neg (by rw[hb];decide),if_neg h2,if_neg h3,if_neg h1]
theorem b5H (h:i<ks.length) (hq:visF c l E ks[i] (ch.set a (i:Int)) n s=some q):visL c l E (ks.drop i) a i ch n s=visL c l E (ks.drop (i+1)) a (i+1) ch q.1 q.2:=by
 rw[List.drop_eq_getElem_cons h,visL,hq]
theorem c4U (h:i<ks.length) (hq:visF c l E ks[i] (ch.set a (i:Int)) n s=none):visL c l E (ks.drop i) a i ch n s=none:=by
 rw[List.drop_eq_getElem_cons h,visL,hq]
theorem b9l (h:¬i<ks.length):visL c l E (ks.drop i) a i ch n s=some (n,s):=by
 rw[List.drop_eq_nil_of_le oM,visL]
theorem c4i (h:a8M l ch x.n x.kids.length=false) (hl:ch.length=l.length):∃(a:Nat),x.n=(a:Int)∧∃(ha:a<l.length) (hb:a<ch.length),ch[a]<0∧(x.kids.length:Int)=chs l[a]:=by
 simp only[a8M,Bool.or_eq_false_iff,decide_eq_false_iff_not,Bool.not_eq_false',decide_eq_true_eq]at h
 obtain⟨⟨⟨h1,h2⟩,h3⟩,h4⟩:=h;have ha:x.n.toNat<l.length:=oM;refine⟨x.n.toNat,oM,ha,oM,?_,?_⟩
 ·rw[b7c oM]at h3;omega
 ·rw[h4,a5E ha]
theorem b9k:∀{ks:List Fm} {i:Nat} {n:Int} {s:σ} {q:Int×σ},visL c l E ks a i ch n s=some q→∀j (hj:j<ks.length),∃n' s' q',visF c l E ks[j] (ch.set a ((i+j:Nat):Int)) n' s'=some q'
 | [],_,_,_,_,_,j,hj=>absurd hj (by simp)
 |k::ks,i,n,s,q,h,j,hj=>by
  rw[visL]at h
  cases hk:visF c l E k (ch.set a (i:Int)) n s with
  |none=>rw[hk]at h;cases h
  |some q1=>
   rw[hk]at h
   cases j with
   |zero=>exact⟨n,s,q1,hk⟩
   |succ j=>
    obtain⟨n',s',q',h'⟩:=b9k (ks:=ks) h j (by simpa using hj);exact⟨n',s',q',by rw[show i+(j+1)=i+1+j by omega];exact h'⟩
theorem b9m {e:List Int→Bool} (hE:∀s t,(E s t).1=e t):∀(N:Nat) (x:Fm),cntN x≤N→∀ch n s q,Opn l ch→visF c l E x ch n s=some q→∀t,Agr ch t→isF c l t=true→e t=true:=by
 intro N
 induction N with
 |zero=>intro x hx;cases x;simp[cntN]at hx
 |succ N ih=>
  intro x hx ch n s q ho hv t ha ht
  by_cases h0:n+1>4096
  ·rw[d2X h0]at hv;cases hv
  cases hb:a7A x.op x.n x.kids.length with
  |true=>rw[d2Y h0 hb]at hv;cases hv
  |false=>
   by_cases h2:x.op=2
   ·rw[c0S h0 hb h2,b7Q ho ha ht]at hv
    simp at hv
   by_cases h3:x.op=3
   ·rw[b7o h0 hb h3]at hv
    split at hv
    ·cases hv
    rename_i hm
    have hpos:∀i (h1:i<ch.length),0≤ch[i]:=fun i h1=>by
     rcases Int.lt_or_le ch[i] 0 with h|h
     ·exact absurd ((ho.neg i (by rw[←ho.len];exact h1) h1 h).1▸List.getElem_mem h1) hm
     ·exact h
    have e1:t=ch:=List.ext_getElem ha.1 fun i h1 h2=>ha.2 i h2 h1 (hpos i h2)
    split at hv
    ·rename_i he;rw[hE]at he;rw[e1];exact he
    ·cases hv
   by_cases h1:x.op=1
   ·rw[c4V h0 hb h1]at hv
    cases hs:a8M l ch x.n x.kids.length with
    |true=>rw[hs]at hv;simp at hv
    |false=>
     rw[hs]at hv
     simp only[Bool.false_eq_true,if_false]at hv
     obtain⟨a,hxa,hal,hac,hneg,hkl⟩:=c4i hs ho.len;rw[hxa]at hv
     have hta:a<t.length:=by rw[ha.1];exact hac
     obtain⟨_,h5,h6⟩:=a4p (a7x ht) hal hta;have hj:t[a].toNat<x.kids.length:=oM;obtain⟨n',s',q',h7⟩:=b9k hv t[a].toNat hj;have e2:((0+t[a].toNat:Nat):Int)=t[a]:=oM;rw[show ((a:Int)).toNat=a from rfl,e2]at h7
     refine ih x.kids[t[a].toNat] ?_ _ n' s' q' (ho.set hal h5 h6) h7 t ⟨by rw[List.length_set];exact ha.1,fun i h8 h9 h10=>?_⟩ ht
     ·have:=a4e (f:=x) (List.getElem_mem hj);omega
     ·rw[List.getElem_set]at h10 ⊢
      split
      ·rename_i e3;subst e3;rfl
      ·rename_i hne;rw[if_neg hne]at h10;exact ha.2 i (by rw[List.length_set]at h8;exact h8) h9 h10
   ·rw[d3a h0 hb h2 h3 h1]at hv;cases hv
end
theorem b0j {I:IMap} {vc sf v0 v1 v2 v3 v4 v5 w:Value} {c:List Kind} {f:Fm} {b:Bok} {l:List Rep} (h1:RdS I vc c) (h2:FmRd I [ci f.op,ci f.n,sf] f) (h3:BokRd I v0 v1 v2 v3 v4 v5 b) (h4:RdS I w l) (vn:ByteArray) (day:Int) :
  [vc,ci f.op,ci f.n,sf,v0,v1,v2,v3,v4,v5,w,.string vn,.int .i64 day].all Value.oneCell'=true:=by
 obtain⟨s,e,h5⟩:=a2k h2
 cases e
 simp[h1.one,h5.one,h3.r0.one,h3.r1.one,h3.r2.one,h3.r3.one,h3.r4.one,h3.r5.one,h4.one,b1Q]
 rfl
section
variable (c:List Kind) (own:List Rep) (fts:List Int→List Flt) (v:Vdt)
def c0E (s:Int) (t:List Int):Bool×Int:=(isF c own t&&decide (((fts t).length:Int)=0),IntKind.i64.wrap (s+1))
def d1q (s:Unit) (_:List Int):Bool×Unit:=(false,s)
def c7G:Bool:=match visF c own (c0E c own fts) v.proof (b4d own) 0 0 with
 |none=>false
 |some q=>decide (0<q.2)&&decide ((v.hist.length:Int)+(v.faults.length:Int)=0)
def c9g:Bool:=decide ((v.hist.length:Int)+(v.faults.length:Int)=0)&&(visF c own d1q v.proof (b4d own) 0 ()).isSome
def c0X:Bool:=((((isF c own v.hist&&decide (0<((fts v.hist).length:Int)))&&decide (fts v.hist=v.faults))&&decide (v.proof.op=0))&&decide (v.proof.n=0))&&decide ((v.proof.kids.length:Int)=0)
def b3o:Bool:=if v.kind=1 then c7G c own fts v else if v.kind=3 then c9g c own v else if v.kind=2 then c0X c own fts v else false
end
noncomputable def accF (f:Fm) (c:List Kind) (b:Bok) (l own:List Rep) (vn:ByteArray) (day:Int) (v:Vdt):Bool:=
 if (!decide ((runL f c [] 0).2.2=0)||l.any fun r=>!a0g r)=true then false else b3o c own (ftsF f c b own vn day) v
section
variable {f:Fm} {c:List Kind} {b:Bok} {l own:List Rep} {vn:ByteArray} {day:Int} {v:Vdt}
theorem b2K (h:(!decide ((runL f c [] 0).2.2=0)||l.any fun r=>!a0g r)=true):accF f c b l own vn day v=false:=if_pos h
theorem a9O (h:(runL f c [] 0).2.2=0) (hv:(l.any fun r=>!a0g r)=false):accF f c b l own vn day v=b3o c own (ftsF f c b own vn day) v:=if_neg (by rw[h,hv];simp)
end
def d6z (a b c:Nat) (q:Value):List (Int×Value):=[(1,.func (.func a) #[q] #[]),(3,.func (.func b) #[q] #[]),(2,.func (.func c) #[q] #[])]
theorem b7s (a b c:Nat) (q:Value) (k:Int):a4h (d6z a b c q) k=if k=1 then some (.func (.func a) #[q] #[]) else if k=3 then some (.func (.func b) #[q] #[]) else if k=2 then some (.func (.func c) #[q] #[]) else none:=by
 unfold d6z
 simp only[a4h]
 simp only[eq_comm (b:=k)]
end Go.Sx
