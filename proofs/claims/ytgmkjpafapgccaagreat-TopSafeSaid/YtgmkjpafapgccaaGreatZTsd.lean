
import Derived.Test.YtgmkjpafapgccaaGreatZTsc
namespace Go.Proofs.YtgmkjpafapgccaaGreat
open Go Go.Sx Tryz
set_option linter.all false
set_option maxRecDepth 20000
set_option maxHeartbeats 4000000
instance:Has (a6J prog 147) (189,3):=hk
instance:Has (a6J prog 22) (149,3):=hk
instance:Has (a6J prog 60) (85,14):=hk
instance:Has (a6J prog 72) (130,14):=hk
instance:Has (a6J prog 88) (9,1):=hk
instance:Has (a1k prog 149 0) (0,false,1):=hk
instance:Has (a1k prog 149 1) (1,false,1):=hk
instance:Has (a1k prog 149 2) (2,false,1):=hk
instance:Has (a1k prog 189 0) (0,false,1):=hk
instance:Has (a1k prog 189 1) (1,false,1):=hk
instance:Has (a1k prog 189 2) (2,false,1):=hk
instance:Has (a1k prog 24 0) (0,false,1):=hk
theorem T.mixed:prog.follows .mixedOrders=true:=by kernel_rfl
instance:Has (plK prog 149) [(0,1),(1,1),(2,1)]:=hk
instance:Has (plK prog 189) [(0,1),(1,1),(2,1)]:=hk
instance:Has (tyK prog 130) (true,14):=hk
instance:Has (tyK prog 147) (false,1):=hk
instance:Has (tyK prog 149) (true,3):=hk
instance:Has (tyK prog 189) (true,3):=hk
instance:Has (tyK prog 22) (false,1):=hk
instance:Has (tyK prog 24) (true,1):=hk
instance:Has (tyK prog 249) (false,1):=hk
instance:Has (tyK prog 3) (false,1):=hk
instance:Has (tyK prog 369) (false,1):=hk
instance:Has (tyK prog 4) (false,1):=hk
instance:Has (tyK prog 85) (true,14):=hk
instance:Has (tyK prog 88) (false,1):=hk
instance:Has (tyK prog 9) (false,1):=hk
instance T.und_147:Has (prog.underlying 147) (.slice 189):=hk
instance:Has (prog.underlying 215) (.map 9 4):=hk
instance T.und_22:Has (prog.underlying 22) (.slice 149):=hk
instance:Has (prog.underlying 60) (.slice 85):=hk
instance T.und_72:Has (prog.underlying 72) (.slice 130):=hk
instance T.und_88:Has (prog.underlying 88) (.slice 9):=hk
instance:Has (a1o prog 149) [.string ⟨#[]⟩,.bool false,.slice none 0 0]:=hk
instance:Has (a1o prog 189) [.string ⟨#[]⟩,.slice none 0 0,.int .i64 0]:=hk
instance:Has (zvK prog 4) (.bool false):=hk
theorem b4H (I:IMap) (x:Int) :
    FnV prog 202 #[.int .i64 x] I (.bool false):=by
 refine enter func202 call202 rfl ntmps202 rfl fun w0=>?_;refine go 15 ?_;exact q_v (by simp)
theorem a9a (I:IMap) (x:ByteArray) :
    FnV prog 223 #[.string x] I (.bool false):=by
 refine enter func223 call223 rfl ntmps223 rfl fun w0=>?_;refine go 15 ?_;exact q_v (by simp)
theorem b0m (I:IMap) (x y:Int) :
    FnV prog 121 #[.int .i64 x,.int .i64 y] I (.int .i64 (a9t x y)):=by
 refine enter func121 call121 rfl ntmps121 rfl fun w0=>?_;refine go 9 ?_;refine cV (b4H I x) ?_;refine go 7 ?_;refine cV (b4H I y) ?_;refine gC 29 (fun h16 p16=>?_) fun h16 p16=>?_
 ·refine go 8 ?_;exact q_v (by unfold a9t;simp only[p16,if_true])
 ·refine gC 10 (fun h19 p19=>?_) fun h19 p19=>?_
  ·refine go 8 ?_;exact q_v (by unfold a9t;simp only[p16,p19,if_true,if_false])
  ·refine go 9 ?_;exact q_v (by unfold a9t;simp only[p16,p19,if_false])
theorem a3Q (I:IMap) (x y:ByteArray) :
    FnV prog 147 #[.string x,.string y] I (.int .i64 (a9u x y)):=by
 refine enter func147 call147 rfl ntmps147 rfl fun w0=>?_;refine go 9 ?_;refine cV (a9a I x) ?_;refine go 7 ?_;refine cV (a9a I y) ?_;refine gC 29 (fun h16 p16=>?_) fun h16 p16=>?_
 ·refine go 8 ?_;exact q_v (by unfold a9u;rw[if_pos h16])
 ·refine gC 10 (fun h19 p19=>?_) fun h19 p19=>?_
  ·refine go 8 ?_;exact q_v (by unfold a9u;rw[if_neg (by rw[h16];decide),if_pos h19])
  ·refine go 9 ?_;exact q_v (by unfold a9u;rw[if_neg (by rw[h16];decide),if_neg (by rw[h19];decide)])
theorem b1B (I:IMap) (v:Value) (l:List Kind) (hv:RdS I v l) (f:FuncId) (cs:List Value) (p:Kind→Bool) (hp:∀x∈l,∀vs,Enc.rd I vs x→FnV prog f ([Value.agg vs.toArray]++cs).toArray I (.bool (p x))) :
    FnV prog 218 #[v,.func (.func f) #[] cs.toArray] I (.int .i64 (a4G p l)):=by
 obtain⟨A,c,rfl,hA,hc,hm⟩:=hv;refine enter func218 call218 rfl ntmps218 rfl fun w0=>?_;refine go 14 ?_
 refine a0x (α:=Nat) 0 (fun i=>I)
  (fun i=>[(0,.slice A l.length c),(1,.func (.func f) #[] cs.toArray),(7,.int .i64 (l.length:Int)),(8,.int .i64 (i:Int))])
  (fun i=>[])
  (fun i=>i≤l.length∧∀j x,j<i→l[j]? = some x→p x=false)
  (fun i=>l.length-i) ⟨Nat.zero_le _,fun j x hj=>absurd hj (Nat.not_lt_zero j)⟩ rfl sb rfl ?_
 intro i ⟨hi,hn⟩;refine gC 6 (fun h9 p9=>?_) fun h9 p9=>?_
 ·have hlt:i<l.length:=oM;refine go 15 ?_;obtain⟨b14,o14,w14,e14,c14,r14⟩:=RdA.at_ hA (i:=i) hlt;refine go 1 ?_;refine o_v rfl (a0S he rfl c14 (Enc.len r14)) ?_;refine go 1 ?_;refine cV (hp _ (List.getElem_mem hlt) _ r14) ?_;refine gC 2 (fun h16 p16=>?_) fun h16 p16=>?_
  ·refine go 13 ?_;exact q_v (congrArg (Value.int .i64) (a1J hlt p16 hn).symm)
  ·refine go 8 ?_;exact a0w (i+1) ⟨oM,a1W hn hlt p16⟩ oM rfl sb rfl
 ·refine go 12 ?_;exact q_v (congrArg (Value.int .i64) (a2f (fun j x hj=>hn j x oM)).symm)
theorem b1D (I:IMap) (v:Value) (l:List Slot) (hv:RdS I v l) (f:FuncId) (cs:List Value) (p:Slot→Bool) (hp:∀x∈l,∀vs,Enc.rd I vs x→FnV prog f ([Value.agg vs.toArray]++cs).toArray I (.bool (p x))) :
    FnV prog 304 #[v,.func (.func f) #[] cs.toArray] I (.int .i64 (a4G p l)):=by
 obtain⟨A,c,rfl,hA,hc,hm⟩:=hv;refine enter func304 call304 rfl ntmps304 rfl fun w0=>?_;refine go 14 ?_
 refine a0x (α:=Nat) 0 (fun i=>I)
  (fun i=>[(0,.slice A l.length c),(1,.func (.func f) #[] cs.toArray),(7,.int .i64 (l.length:Int)),(8,.int .i64 (i:Int))])
  (fun i=>[])
  (fun i=>i≤l.length∧∀j x,j<i→l[j]? = some x→p x=false)
  (fun i=>l.length-i) ⟨Nat.zero_le _,fun j x hj=>absurd hj (Nat.not_lt_zero j)⟩ rfl sb rfl ?_
 intro i ⟨hi,hn⟩;refine gC 6 (fun h9 p9=>?_) fun h9 p9=>?_
 ·have hlt:i<l.length:=oM;refine go 15 ?_;obtain⟨b14,o14,w14,e14,c14,r14⟩:=RdA.at_ hA (i:=i) hlt;refine go 1 ?_;refine o_v rfl (a0S he rfl c14 (Enc.len r14)) ?_;refine go 1 ?_;refine cV (hp _ (List.getElem_mem hlt) _ r14) ?_;refine gC 2 (fun h16 p16=>?_) fun h16 p16=>?_
  ·refine go 13 ?_;exact q_v (congrArg (Value.int .i64) (a1J hlt p16 hn).symm)
  ·refine go 8 ?_;exact a0w (i+1) ⟨oM,a1W hn hlt p16⟩ oM rfl sb rfl
 ·refine go 12 ?_;exact q_v (congrArg (Value.int .i64) (a2f (fun j x hj=>hn j x oM)).symm)
theorem b1C (I:IMap) (v:Value) (l:List Part) (hv:RdS I v l) (f:FuncId) (cs:List Value) (p:Part→Bool) (hp:∀x∈l,∀vs,Enc.rd I vs x→FnV prog f ([Value.agg vs.toArray]++cs).toArray I (.bool (p x))) :
    FnV prog 209 #[v,.func (.func f) #[] cs.toArray] I (.int .i64 (a4G p l)):=by
 obtain⟨A,c,rfl,hA,hc,hm⟩:=hv;refine enter func209 call209 rfl ntmps209 rfl fun w0=>?_;refine go 14 ?_
 refine a0x (α:=Nat) 0 (fun i=>I)
  (fun i=>[(0,.slice A l.length c),(1,.func (.func f) #[] cs.toArray),(7,.int .i64 (l.length:Int)),(8,.int .i64 (i:Int))])
  (fun i=>[])
  (fun i=>i≤l.length∧∀j x,j<i→l[j]? = some x→p x=false)
  (fun i=>l.length-i) ⟨Nat.zero_le _,fun j x hj=>absurd hj (Nat.not_lt_zero j)⟩ rfl sb rfl ?_
 intro i ⟨hi,hn⟩;refine gC 6 (fun h9 p9=>?_) fun h9 p9=>?_
 ·have hlt:i<l.length:=oM;refine go 15 ?_;obtain⟨b14,o14,w14,e14,c14,r14⟩:=RdA.at_ hA (i:=i) hlt;refine go 1 ?_;refine o_v rfl (a0S he rfl c14 (Enc.len r14)) ?_;refine go 1 ?_;refine cV (hp _ (List.getElem_mem hlt) _ r14) ?_;refine gC 2 (fun h16 p16=>?_) fun h16 p16=>?_
  ·refine go 13 ?_;exact q_v (congrArg (Value.int .i64) (a1J hlt p16 hn).symm)
  ·refine go 8 ?_;exact a0w (i+1) ⟨oM,a1W hn hlt p16⟩ oM rfl sb rfl
 ·refine go 12 ?_;exact q_v (congrArg (Value.int .i64) (a2f (fun j x hj=>hn j x oM)).symm)
theorem a5c (I:IMap) (v:Value) (l:List Part) (hv:RdS I v l) (f:FuncId) (cs:List Value) (p:Part→Bool) (hp:∀x∈l,∀vs,Enc.rd I vs x→FnV prog f ([Value.agg vs.toArray]++cs).toArray I (.bool (p x))) :
    FnV prog 129 #[v,.func (.func f) #[] cs.toArray] I (.bool (l.any p)):=by
 refine enter func129 call129 rfl ntmps129 rfl fun w0=>?_;refine go 10 ?_;refine cV (b1C I v l hv f cs p hp) ?_;refine go 6 ?_;exact q_v (congrArg Value.bool (a2Q p l))
theorem b3d (I:IMap) (v:Value) (l:List Evt) (hv:RdS I v l) (f:FuncId) (cs:List Value) (p:Evt→Bool) (hp:∀x∈l,∀vs,Enc.rd I vs x→FnV prog f ([Value.agg vs.toArray]++cs).toArray I (.bool (p x))) :
    FnV prog 118 #[v,.func (.func f) #[] cs.toArray] I (.int .i64 (a4G p l)):=by
 obtain⟨A,c,rfl,hA,hc,hm⟩:=hv;refine enter func118 call118 rfl ntmps118 rfl fun w0=>?_;refine go 14 ?_
 refine a0x (α:=Nat) 0 (fun i=>I)
  (fun i=>[(0,.slice A l.length c),(1,.func (.func f) #[] cs.toArray),(7,.int .i64 (l.length:Int)),(8,.int .i64 (i:Int))])
  (fun i=>[])
  (fun i=>i≤l.length∧∀j x,j<i→l[j]? = some x→p x=false)
  (fun i=>l.length-i) ⟨Nat.zero_le _,fun j x hj=>absurd hj (Nat.not_lt_zero j)⟩ rfl sb rfl ?_
 intro i ⟨hi,hn⟩;refine gC 6 (fun h9 p9=>?_) fun h9 p9=>?_
 ·have hlt:i<l.length:=oM;refine go 15 ?_;obtain⟨b14,o14,w14,e14,c14,r14⟩:=RdA.at_ hA (i:=i) hlt;refine go 1 ?_;refine o_v rfl (a0S he rfl c14 (Enc.len r14)) ?_;refine go 1 ?_;refine cV (hp _ (List.getElem_mem hlt) _ r14) ?_;refine gC 2 (fun h16 p16=>?_) fun h16 p16=>?_
  ·refine go 13 ?_;exact q_v (congrArg (Value.int .i64) (a1J hlt p16 hn).symm)
  ·refine go 8 ?_;exact a0w (i+1) ⟨oM,a1W hn hlt p16⟩ oM rfl sb rfl
 ·refine go 12 ?_;exact q_v (congrArg (Value.int .i64) (a2f (fun j x hj=>hn j x oM)).symm)
theorem a5H (I:IMap) (v:Value) (l:List ByteArray) (hv:RdS I v l) (f:FuncId) (cs:List Value) (p:ByteArray→Bool) (hp:∀x∈l,∀vs,Enc.rd I vs x→FnV prog f ([Value.string x]++cs).toArray I (.bool (p x))) :
    FnV prog 259 #[v,.func (.func f) #[] cs.toArray] I (.int .i64 (a4G p l)):=by
 obtain⟨A,c,rfl,hA,hc,hm⟩:=hv;refine enter func259 call259 rfl ntmps259 rfl fun w0=>?_;refine go 14 ?_
 refine a0x (α:=Nat) 0 (fun i=>I)
  (fun i=>[(0,.slice A l.length c),(1,.func (.func f) #[] cs.toArray),(7,.int .i64 (l.length:Int)),(8,.int .i64 (i:Int))])
  (fun i=>[])
  (fun i=>i≤l.length∧∀j x,j<i→l[j]? = some x→p x=false)
  (fun i=>l.length-i) ⟨Nat.zero_le _,fun j x hj=>absurd hj (Nat.not_lt_zero j)⟩ rfl sb rfl ?_
 intro i ⟨hi,hn⟩;refine gC 6 (fun h9 p9=>?_) fun h9 p9=>?_
 ·have hlt:i<l.length:=oM;refine go 15 ?_;obtain⟨b14,o14,w14,e14,c14,r14⟩:=RdA.at_ hA (i:=i) hlt;obtain rfl:=r14;refine go 3 ?_;refine cV (hp _ (List.getElem_mem hlt) _ rfl) ?_;refine gC 2 (fun h16 p16=>?_) fun h16 p16=>?_
  ·refine go 13 ?_;exact q_v (congrArg (Value.int .i64) (a1J hlt p16 hn).symm)
  ·refine go 8 ?_;exact a0w (i+1) ⟨oM,a1W hn hlt p16⟩ oM rfl sb rfl
 ·refine go 12 ?_;exact q_v (congrArg (Value.int .i64) (a2f (fun j x hj=>hn j x oM)).symm)
theorem a6T (I:IMap) (v:Value) (l:List ByteArray) (hv:RdS I v l) (f:FuncId) (cs:List Value) (p:ByteArray→Bool) (hp:∀x∈l,∀vs,Enc.rd I vs x→FnV prog f ([Value.string x]++cs).toArray I (.bool (p x))) :
    FnV prog 189 #[v,.func (.func f) #[] cs.toArray] I (.bool (l.any p)):=by
 refine enter func189 call189 rfl ntmps189 rfl fun w0=>?_;refine go 10 ?_;refine cV (a5H I v l hv f cs p hp) ?_;refine go 6 ?_;exact q_v (congrArg Value.bool (a2Q p l))
theorem a8Z (I:IMap) (v:Value) (l:List ByteArray) (hv:RdS I v l) (s:ByteArray) :
    FnV prog 136 #[v,.string s] I (.int .i64 (a4G (fun x=>decide (s=x)) l)):=by
 obtain⟨A,c,rfl,hA,hc,hm⟩:=hv;refine enter func136 call136 rfl ntmps136 rfl fun w0=>?_;refine go 14 ?_
 refine a0x (α:=Nat) 0 (fun i=>I)
  (fun i=>[(0,.slice A l.length c),(1,.string s),(7,.int .i64 (l.length:Int)),(8,.int .i64 (i:Int))])
  (fun i=>[])
  (fun i=>i≤l.length∧∀j x,j<i→l[j]? = some x→(fun x=>decide (s=x)) x=false)
  (fun i=>l.length-i) ⟨Nat.zero_le _,fun j x hj=>absurd hj (Nat.not_lt_zero j)⟩ rfl sb rfl ?_
 intro i ⟨hi,hn⟩;refine gC 6 (fun h9 p9=>?_) fun h9 p9=>?_
 ·have hlt:i<l.length:=oM;refine go 15 ?_;obtain⟨b14,o14,w14,e14,c14,r14⟩:=RdA.at_ hA (i:=i) hlt;obtain rfl:=r14;refine gC 5 (fun h16 p16=>?_) fun h16 p16=>?_
  ·refine go 13 ?_;exact q_v (congrArg (Value.int .i64) (a1J (p:=fun x=>decide (s=x)) hlt h16 hn).symm)
  ·refine go 8 ?_;exact a0w (i+1) ⟨oM,a1W (p:=fun x=>decide (s=x)) hn hlt h16⟩ oM rfl sb rfl
 ·refine go 12 ?_;exact q_v (congrArg (Value.int .i64) (a2f (p:=fun x=>decide (s=x)) (fun j x hj=>hn j x oM)).symm)
theorem a3m (I:IMap) (v:Value) (l:List ByteArray) (hv:RdS I v l) (s:ByteArray) :
    FnV prog 60 #[v,.string s] I (.bool (decide (s∈l))):=by
 refine enter func60 call60 rfl ntmps60 rfl fun w0=>?_;refine go 10 ?_;refine cV (a8Z I v l hv s) ?_;refine go 6 ?_;exact q_v (congrArg Value.bool ((a2Q _ l).trans (c9G s l)))
theorem c6B (I:IMap) (k:Kind) (vs:List Value) (h:Enc.rd I vs k) :
    FnV prog 142 #[.agg vs.toArray] I (.string k.name):=by
 obtain⟨ss,rfl,hs⟩:=h;refine enter func142 call142 rfl ntmps142 rfl fun w0=>?_;refine go 4 fun g1=>?_
 refine go 12 ?_;exact q_v rfl
theorem c7W (I:IMap) (k:Slot) (vs:List Value) (h:Enc.rd I vs k) :
    FnV prog 257 #[.agg vs.toArray] I (.string k.name):=by
 obtain⟨ss,rfl,hs⟩:=h;refine enter func257 call257 rfl ntmps257 rfl fun w0=>?_;refine go 4 fun g1=>?_
 refine go 12 ?_;exact q_v rfl
theorem b6n (I:IMap) (k:Kind) (vs:List Value) (h:Enc.rd I vs k) (fn:FuncId) (nm:Kind→ByteArray) (s:ByteArray) (hn:FnV prog fn #[.agg vs.toArray] I (.string (nm k))) (g1 g2:Nat) (c1:ICells I g1 0 [.func (.func fn) #[] #[]]) (c2:ICells I g2 0 [.string s]) :
    FnV prog 219 #[.agg vs.toArray,.pointer (some ⟨g1,0,none⟩),.pointer (some ⟨g2,0,none⟩)] I (.bool (decide (nm k=s))):=by
 have hl:=Enc.len h;refine enter func219 call219 rfl ntmps219 rfl fun w0=>?_;refine go 4 fun g3=>?_
 refine go 5 ?_;refine dG 0 1 ?_;refine a0F 1 rfl rfl (by kernel_rfl) rfl (.refl _) rfl (a2N m0 he rfl hl) ?_;refine dG 3 1 ?_;refine dH 2 0 ?_;refine cV (hn) ?_;refine dG 4 2 ?_;refine go 4 ?_;exact q_v rfl
theorem b9Q (I:IMap) (v:Value) (l:List Kind) (hv:RdS I v l) (fn:FuncId) (nm:Kind→ByteArray) (s:ByteArray) (hn:∀J,ILe I J→∀x∈l,∀vs,Enc.rd J vs x→FnV prog fn #[.agg vs.toArray] J (.string (nm x))) :
    FnV prog 141 #[v,.func (.func fn) #[] #[],.string s] I (.int .i64 (a4G (fun x=>decide (nm x=s)) l)):=by
 refine enter func141 call141 rfl ntmps141 rfl fun w0=>?_;refine go 4 fun g4=>?_
 refine go 2 fun g5=>?_
 refine go 6 ?_;refine a0b ?_;refine a0A fun Ig4 jg4 cg4=>?_;refine a0A fun Ig5 jg5 cg5=>?_;refine go 2 ?_;refine cV (b1B _ v l (hv.le (jg4.trans jg5)) _ [.pointer (some ⟨g4,0,none⟩),.pointer (some ⟨g5,0,none⟩)] (fun x=>decide (nm x=s)) (fun x hx vs hr=>b6n _ x vs hr fn nm s (hn _ (jg4.trans jg5) x hx vs hr) g4 g5 (cg4.le jg5) cg5)) ?_;refine go 5 ?_;exact a8J rfl
theorem b6o (I:IMap) (k:Slot) (vs:List Value) (h:Enc.rd I vs k) (fn:FuncId) (nm:Slot→ByteArray) (s:ByteArray) (hn:FnV prog fn #[.agg vs.toArray] I (.string (nm k))) (g1 g2:Nat) (c1:ICells I g1 0 [.func (.func fn) #[] #[]]) (c2:ICells I g2 0 [.string s]) :
    FnV prog 305 #[.agg vs.toArray,.pointer (some ⟨g1,0,none⟩),.pointer (some ⟨g2,0,none⟩)] I (.bool (decide (nm k=s))):=by
 have hl:=Enc.len h;refine enter func305 call305 rfl ntmps305 rfl fun w0=>?_;refine go 4 fun g3=>?_
 refine go 5 ?_;refine dG 0 1 ?_;refine a0F 1 rfl rfl (by kernel_rfl) rfl (.refl _) rfl (a2N m0 he rfl hl) ?_;refine dG 3 1 ?_;refine dH 2 0 ?_;refine cV (hn) ?_;refine dG 4 2 ?_;refine go 4 ?_;exact q_v rfl
theorem b9R (I:IMap) (v:Value) (l:List Slot) (hv:RdS I v l) (fn:FuncId) (nm:Slot→ByteArray) (s:ByteArray) (hn:∀J,ILe I J→∀x∈l,∀vs,Enc.rd J vs x→FnV prog fn #[.agg vs.toArray] J (.string (nm x))) :
    FnV prog 256 #[v,.func (.func fn) #[] #[],.string s] I (.int .i64 (a4G (fun x=>decide (nm x=s)) l)):=by
 refine enter func256 call256 rfl ntmps256 rfl fun w0=>?_;refine go 4 fun g4=>?_
 refine go 2 fun g5=>?_
 refine go 6 ?_;refine a0b ?_;refine a0A fun Ig4 jg4 cg4=>?_;refine a0A fun Ig5 jg5 cg5=>?_;refine go 2 ?_;refine cV (b1D _ v l (hv.le (jg4.trans jg5)) _ [.pointer (some ⟨g4,0,none⟩),.pointer (some ⟨g5,0,none⟩)] (fun x=>decide (nm x=s)) (fun x hx vs hr=>b6o _ x vs hr fn nm s (hn _ (jg4.trans jg5) x hx vs hr) g4 g5 (cg4.le jg5) cg5)) ?_;refine go 5 ?_;exact a8J rfl
theorem b0h (I:IMap) (v:Value) (l:List Kind) (hv:RdS I v l) (s:ByteArray) :
    FnE prog 67 #[.agg #[v],.string s] I (KindIs I (a8v l s)):=by
 refine enter func67 call67 rfl ntmps67 rfl fun w0=>?_;refine go 4 fun g2=>?_
 refine go 2 fun g4=>?_
 refine go 9 ?_;refine cV (b9Q I _ l hv _ Kind.name s (fun J hJ x _ vs hr=>c6B J x vs hr)) ?_;refine gC 10 (fun h12 p12=>?_) fun h12 p12=>?_
 ·have hN:=((a5f (fun x=>decide (Kind.name x=s)) l).resolve_right (by rintro⟨i,hi,e,_⟩;omega)).2;refine go 11 ?_;exact q_e (KindIs.none hN)
 ·obtain⟨i,hi,ei,hF⟩:=(a5f (fun x=>decide (Kind.name x=s)) l).resolve_left (fun h=>oM);refine go 7 ?_;obtain⟨A,c0,rfl,hA,hc,hm⟩:=hv;obtain⟨b17,o17,w17,e17,c17,r17⟩:=RdA.at_ hA (i:=i) hi;obtain⟨q17,rfl,B17,d17,rfl,hB17,hd17,hm17⟩:=r17;refine o_v rfl (a0l he rfl rfl e17 (i) ei hi) ?_;refine go 8 ?_;exact q_e (KindIs.of hF ⟨_,rfl,B17,d17,rfl,hB17,hd17,hm17⟩)
theorem c1w (I:IMap) (v:Value) (l:List Kind) (hv:RdS I v l) (k s:ByteArray) :
    FnE prog 178 #[.agg #[v],.string k,.string s] I (SlotIs I (b5u l k s)):=by
 refine enter func178 call178 rfl ntmps178 rfl fun w0=>?_;refine go 4 fun g3=>?_
 refine go 2 fun g6=>?_
 refine go 8 ?_;refine a0T (b0h I _ l hv k) rfl rfl fun v14 q14=>?_;obtain⟨vs,rfl,ss,rfl,hsl⟩:=q14;refine go 5 fun g8=>?_
 refine go 1 ?_;refine a0Y _ he rfl rfl rfl rfl rfl (by simp[Kind.cells,hsl.one];exact⟨rfl,rfl⟩) ?_;refine go 9 ?_;refine cV (b9R I _ _ hsl _ Slot.name s (fun J hJ x _ vs hr=>c7W J x vs hr)) ?_;refine gC 10 (fun h22 p22=>?_) fun h22 p22=>?_
 ·have hN:=((a5f (fun x=>decide (Slot.name x=s)) ((a8v l k).getD b3S).slots).resolve_right (by rintro⟨i,hi,e,_⟩;omega)).2;refine go 4 ?_;refine a0b ?_;refine go 7 ?_;exact q_e (SlotIs.none hN)
 ·obtain⟨i,hi,ei,hF⟩:=(a5f (fun x=>decide (Slot.name x=s)) ((a8v l k).getD b3S).slots).resolve_left (fun h=>oM);obtain⟨A,c0,rfl,hA,hc,hm⟩:=hsl;refine go 7 ?_;obtain⟨b27,o27,w27,e27,c27,r27⟩:=RdA.at_ hA (i:=i) hi;obtain⟨q27,rfl,B27,d27,rfl,hB27,hd27,hm27⟩:=r27;refine o_v rfl (a0l he rfl rfl e27 (i) ei hi) ?_;refine go 2 ?_;refine a0b ?_;refine go 6 ?_;exact q_e (SlotIs.of hF ⟨_,rfl,B27,d27,rfl,hB27,hd27,hm27⟩)
theorem b7z (I:IMap) (v:Value) (l:List Kind) (hv:RdS I v l) (k s p:ByteArray) :
    FnV prog 130 #[.agg #[v],.string k,.string s,.string p] I (.bool (a8e l k s p)):=by
 refine enter func130 call130 rfl ntmps130 rfl fun w0=>?_;refine go 4 fun g4=>?_
 refine go 9 ?_;refine a0T (c1w I _ l hv k s) rfl rfl fun v15 q15=>?_;obtain⟨vs,rfl,ss,rfl,hsl⟩:=q15;refine go 5 fun g9=>?_
 refine go 1 ?_;refine a0Y _ he rfl rfl rfl rfl rfl (by simp[Slot.cells,hsl.one];exact⟨rfl,rfl⟩) ?_;refine gS 7 19 (fun h19 p19=>?_) fun h19 p19=>?_
 ·refine go 4 ?_;refine a0n rfl rfl h19 (a0y (a3m I _ _ hsl p) rfl rfl ?_);refine go 6 ?_;exact q_v (congrArg Value.bool (by revert h19;unfold a8e;cases b5u l k s<;>simp))
 ·refine go 10 ?_;exact q_v (congrArg Value.bool (by revert h19;unfold a8e;cases b5u l k s<;>simp))
theorem a7g (I:IMap) (v:Value) (l:List Kind) (hv:RdS I v l) (hs:SmC l) :
    FnV prog 51 #[.agg #[v]] I (.bool (a1I l)):=by
 obtain⟨A,c0,rfl,hA,hc,hm⟩:=hv;refine enter func51 call51 rfl ntmps51 rfl fun w0=>?_;refine go 4 fun g1=>?_
 refine go 6 ?_;refine a5i (Value.string) he rfl fun r14=>?_;refine go 13 ?_
 refine a0x (α:=Nat) 0 (fun i=>I)
  (fun i=>[(1,.pointer (some ⟨g1,0,none⟩)),(3,.map (some r14)),(16,.slice A l.length c0),(17,.int .i64 (l.length:Int)),(18,.int .i64 (i:Int))])
  (fun i=>[.mp r14 (a1A Value.string (a2G Kind.name (fun k=>Value.bool (!k.vehicle)) (l.take i))),.blk g1 24 [.slice A l.length c0]])
  (fun i=>i≤l.length∧a3v a4q l i=true)
  (fun i=>l.length-i) ⟨Nat.zero_le _,rfl⟩ rfl sb rfl ?_
 intro i ⟨hi,hn⟩;refine gC 6 (fun h19 p19=>?_) fun h19 p19=>?_
 ·have hlt:i<l.length:=oM;refine go 6 ?_;obtain⟨b20,o20,w20,e20,c20,r20⟩:=RdA.at_ hA (i:=i) hlt;obtain⟨q20,rfl,B20,d20,rfl,hB20,hd20,hm20⟩:=r20;refine go 4 fun g5=>?_
  refine go 10 ?_;refine o_v rfl (a9g m1 (a0H he) he he (l[i].name) rfl rfl rfl (c6C _ _ _ _)) ?_;refine go 8 ?_;refine a1V (I':=I) (L':=[(1,.pointer (some ⟨g1,0,none⟩)),(3,.map (some r14)),(16,.slice A l.length c0),(17,.int .i64 (l.length:Int)),(18,.int .i64 (i:Int)),(5,.pointer (some ⟨g5,0,none⟩)),(41,.bool ((hit Kind.name (l.take i) l[i].name || !a1p l[i].name)||decide ((12:Int)<(l[i].slots.length:Nat))))]) (H':=[.blk g5 149 (l[i].cells (.slice B20 l[i].slots.length d20)),.mp r14 (a1A Value.string (a2G Kind.name (fun k=>Value.bool (!k.vehicle)) (l.take i))),.blk g1 24 [.slice A l.length c0]]) ?_ ?_
  ·refine gS 3 30 (fun h30 p30=>?_) fun h30 p30=>?_
   ·refine go 13 ?_;exact a0r ⟨rfl,rfl,rfl,rfl,rfl,rfl,(bB (by simp only[h19,h30,bS])),trivial⟩ rfl rfl
   ·refine go 3 ?_;refine a0n rfl rfl h30 (a0y (a3C _ _ (hs _ (List.getElem_mem hlt)).1) rfl rfl ?_);refine gS 3 36 (fun h36 p36=>?_) fun h36 p36=>?_
    ·refine go 7 ?_;exact a0r ⟨rfl,rfl,rfl,rfl,rfl,rfl,(bB (by simp only[h19,h30,h36,bS])),trivial⟩ rfl rfl
    ·refine go 7 ?_;exact a0r ⟨rfl,rfl,rfl,rfl,rfl,rfl,(bB (by simp only[h19,h30,h36,bS])),trivial⟩ rfl rfl
  ·refine gC 0 (fun h41 p41=>?_) fun h41 p41=>?_
   ·refine go 13 ?_;exact q_v (congrArg Value.bool (by simp only[a1I,a1g hlt (show a4q (l.take i) l[i]=false by simp only[a4q,h41];rfl),bS]))
   ·refine go 5 ?_;refine a5i (Value.string) he rfl fun r42=>?_;refine go 13 ?_
    refine a0x (α:=Nat) 0 (fun j=>I)
     (fun j=>[(1,.pointer (some ⟨g1,0,none⟩)),(3,.map (some r14)),(16,.slice A l.length c0),(17,.int .i64 (l.length:Int)),(18,.int .i64 (i:Int)),(5,.pointer (some ⟨g5,0,none⟩)),(8,.map (some r42)),(44,.slice B20 l[i].slots.length d20),(45,.int .i64 (l[i].slots.length:Int)),(46,.int .i64 (j:Int))])
     (fun j=>[.mp r42 (a1A Value.string (a2G Slot.name (fun _=>Value.bool true) (l[i].slots.take j))),.blk g5 149 (l[i].cells (.slice B20 l[i].slots.length d20)),.mp r14 (a1A Value.string (a2G Kind.name (fun k=>Value.bool (!k.vehicle)) (l.take i))),.blk g1 24 [.slice A l.length c0]])
     (fun j=>j≤l[i].slots.length∧a3v (a5D (l.take i)) l[i].slots j=true)
     (fun j=>l[i].slots.length-j) ⟨Nat.zero_le _,rfl⟩ rfl sb rfl ?_
    intro j ⟨hj,hq⟩;refine gC 6 (fun h47 p47=>?_) fun h47 p47=>?_
    ·have hltj:j<l[i].slots.length:=oM;refine go 6 ?_;obtain⟨b48,o48,w48,e48,c48,r48⟩:=RdA.at_ hB20 (i:=j) hltj;obtain⟨q48,rfl,B48,d48,rfl,hB48,hd48,hm48⟩:=r48;refine o_v rfl (a0l he rfl rfl e48 (j) oM hltj) ?_;refine go 3 fun g10=>?_
     refine go 6 ?_;refine a1V (I':=I) (L':=[(1,.pointer (some ⟨g1,0,none⟩)),(3,.map (some r14)),(16,.slice A l.length c0),(17,.int .i64 (l.length:Int)),(18,.int .i64 (i:Int)),(5,.pointer (some ⟨g5,0,none⟩)),(8,.map (some r42)),(44,.slice B20 l[i].slots.length d20),(45,.int .i64 (l[i].slots.length:Int)),(46,.int .i64 (j:Int)),(10,.pointer (some ⟨g10,0,none⟩)),(72,.bool (((hit Slot.name (l[i].slots.take j) l[i].slots[j].name || !a1p l[i].slots[j].name)||decide (l[i].slots[j].normal<1))||decide ((l[i].slots[j].kinds.length:Int)<l[i].slots[j].normal)))]) (H':=[.blk g10 189 (l[i].slots[j].cells (.slice B48 l[i].slots[j].kinds.length d48)),.mp r42 (a1A Value.string (a2G Slot.name (fun _=>Value.bool true) (l[i].slots.take j))),.blk g5 149 (l[i].cells (.slice B20 l[i].slots.length d20)),.mp r14 (a1A Value.string (a2G Kind.name (fun k=>Value.bool (!k.vehicle)) (l.take i))),.blk g1 24 [.slice A l.length c0]]) ?_ ?_
     ·refine go 4 ?_;refine o_v rfl (c4L m1 (a0H he) he he (l[i].slots[j].name) rfl rfl (a9w _ _ _)) ?_;refine gS 1 54 (fun h54 p54=>?_) fun h54 p54=>?_
      ·refine go 20 ?_;exact a0r ⟨rfl,rfl,rfl,rfl,rfl,rfl,rfl,rfl,rfl,rfl,rfl,(bB (by simp only[h47,h54,bS])),trivial⟩ rfl rfl
      ·refine go 3 ?_;refine a0n rfl rfl h54 (a0y (a3C _ _ ((hs _ (List.getElem_mem hlt)).2 _ (List.getElem_mem hltj)).1) rfl rfl ?_);refine gS 3 60 (fun h60 p60=>?_) fun h60 p60=>?_
       ·refine go 14 ?_;exact a0r ⟨rfl,rfl,rfl,rfl,rfl,rfl,rfl,rfl,rfl,rfl,rfl,(bB (by simp only[h47,h54,h60,bS])),trivial⟩ rfl rfl
       ·refine gS 5 65 (fun h65 p65=>?_) fun h65 p65=>?_
        ·refine go 9 ?_;exact a0r ⟨rfl,rfl,rfl,rfl,rfl,rfl,rfl,rfl,rfl,rfl,rfl,(bB (by simp only[h47,h54,h60,h65,bS])),trivial⟩ rfl rfl
        ·refine go 9 ?_;exact a0r ⟨rfl,rfl,rfl,rfl,rfl,rfl,rfl,rfl,rfl,rfl,rfl,(bB (by simp only[h47,h54,h60,h65,bS])),trivial⟩ rfl rfl
     ·refine gC 0 (fun h72 p72=>?_) fun h72 p72=>?_
      ·refine go 18 ?_;exact q_v (congrArg Value.bool (by simp only[a1I,a1g hlt (show a4q (l.take i) l[i]=false by simp only[a4q,a1g hltj (show a5D (l.take i) (l[i].slots.take j) l[i].slots[j]=false by simp only[a5D,h72];rfl),bS]),bS]))
      ·refine go 8 ?_;have h72n:hit Slot.name (l[i].slots.take j) l[i].slots[j].name=false:=by revert h72;cases hit Slot.name (l[i].slots.take j) l[i].slots[j].name<;>simp
       refine a0b ?_;refine a2S (a2G Slot.name (fun _=>Value.bool true) (l[i].slots.take (j+1))) (a0H he) he (l[i].slots[j].name) rfl rfl rfl ((b0E Slot.name (fun _=>Value.bool true) (l[i].slots.take j) l[i].slots[j] (a7u h72n)).trans (by rw[a0c hltj])) ?_;refine go 5 ?_;refine a5i (Value.string) he rfl fun r76=>?_;refine go 12 ?_;refine a0d ?_;refine a0a ?_
       refine a0x (α:=Nat) 0 (fun m=>I)
        (fun m=>[(1,.pointer (some ⟨g1,0,none⟩)),(3,.map (some r14)),(16,.slice A l.length c0),(17,.int .i64 (l.length:Int)),(18,.int .i64 (i:Int)),(5,.pointer (some ⟨g5,0,none⟩)),(8,.map (some r42)),(44,.slice B20 l[i].slots.length d20),(45,.int .i64 (l[i].slots.length:Int)),(46,.int .i64 (j:Int)),(10,.pointer (some ⟨g10,0,none⟩)),(11,.map (some r76)),(78,.slice B48 l[i].slots[j].kinds.length d48),(79,.int .i64 (l[i].slots[j].kinds.length:Int)),(80,.int .i64 (m:Int))])
        (fun m=>[.mp r76 (a1A Value.string (a2G _root_.id (fun _=>Value.bool true) (l[i].slots[j].kinds.take m))),.mp r42 (a1A Value.string (a2G Slot.name (fun _=>Value.bool true) (l[i].slots.take (j+1)))),.blk g5 149 (l[i].cells (.slice B20 l[i].slots.length d20)),.mp r14 (a1A Value.string (a2G Kind.name (fun k=>Value.bool (!k.vehicle)) (l.take i))),.blk g1 24 [.slice A l.length c0]])
        (fun m=>m≤l[i].slots[j].kinds.length∧a3v (b4J (l.take i)) l[i].slots[j].kinds m=true)
        (fun m=>l[i].slots[j].kinds.length-m) ⟨Nat.zero_le _,rfl⟩ rfl sb rfl ?_
       intro m ⟨hmm,hr⟩;refine gC 6 (fun h81 p81=>?_) fun h81 p81=>?_
       ·have hltm:m<l[i].slots[j].kinds.length:=oM;refine go 6 ?_;obtain⟨b82,o82,w82,e82,c82,r82⟩:=RdA.at_ hB48 (i:=m) hltm;obtain rfl:=r82;refine o_v rfl (a0l he rfl rfl e82 (m) oM hltm) ?_;refine go 6 ?_;refine a1V (I':=I) (L':=[(1,.pointer (some ⟨g1,0,none⟩)),(3,.map (some r14)),(16,.slice A l.length c0),(17,.int .i64 (l.length:Int)),(18,.int .i64 (i:Int)),(5,.pointer (some ⟨g5,0,none⟩)),(8,.map (some r42)),(44,.slice B20 l[i].slots.length d20),(45,.int .i64 (l[i].slots.length:Int)),(46,.int .i64 (j:Int)),(10,.pointer (some ⟨g10,0,none⟩)),(11,.map (some r76)),(78,.slice B48 l[i].slots[j].kinds.length d48),(79,.int .i64 (l[i].slots[j].kinds.length:Int)),(80,.int .i64 (m:Int)),(13,.string l[i].slots[j].kinds[m]),(92,.bool (hit _root_.id (l[i].slots[j].kinds.take m) l[i].slots[j].kinds[m] || !d6H Kind.name (fun k=>!k.vehicle) (l.take i) l[i].slots[j].kinds[m]))]) (H':=[.mp r76 (a1A Value.string (a2G _root_.id (fun _=>Value.bool true) (l[i].slots[j].kinds.take m))),.mp r42 (a1A Value.string (a2G Slot.name (fun _=>Value.bool true) (l[i].slots.take (j+1)))),.blk g5 149 (l[i].cells (.slice B20 l[i].slots.length d20)),.mp r14 (a1A Value.string (a2G Kind.name (fun k=>Value.bool (!k.vehicle)) (l.take i))),.blk g1 24 [.slice A l.length c0]]) ?_ ?_
        ·refine go 3 ?_;refine o_v rfl (c4L m0 (a0H he) he he (l[i].slots[j].kinds[m]) rfl rfl (a9w _root_.id _ _)) ?_;refine gS 1 87 (fun h87 p87=>?_) fun h87 p87=>?_
         ·refine go 7 ?_;exact a0r ⟨rfl,rfl,rfl,rfl,rfl,rfl,rfl,rfl,rfl,rfl,rfl,rfl,rfl,rfl,rfl,rfl,(bB (by simp only[h81,h87,bS])),trivial⟩ rfl rfl
         ·refine go 2 ?_;refine a0z (a0n rfl rfl h87 (a0q rfl (c4L m3 (a0H he) he he (l[i].slots[j].kinds[m]) rfl rfl (d0Y Kind.name (fun k=>!k.vehicle) _ _)) ?_));refine go 4 ?_;exact a0r ⟨rfl,rfl,rfl,rfl,rfl,rfl,rfl,rfl,rfl,rfl,rfl,rfl,rfl,rfl,rfl,rfl,(bB (by simp only[h81,h87,bS])),trivial⟩ rfl rfl
        ·refine gC 0 (fun h92 p92=>?_) fun h92 p92=>?_
         ·refine go 22 ?_;exact q_v (congrArg Value.bool (by simp only[a1I,a1g hlt (show a4q (l.take i) l[i]=false by simp only[a4q,a1g hltj (show a5D (l.take i) (l[i].slots.take j) l[i].slots[j]=false by simp only[a5D,a1g hltm (show b4J (l.take i) (l[i].slots[j].kinds.take m) l[i].slots[j].kinds[m]=false by revert h92;simp only[b4J];cases hit _root_.id (l[i].slots[j].kinds.take m) l[i].slots[j].kinds[m]<;>simp),bS]),bS]),bS]))
         ·refine go 6 ?_;have h92n:hit _root_.id (l[i].slots[j].kinds.take m) l[i].slots[j].kinds[m]=false:=by revert h92;cases hit _root_.id (l[i].slots[j].kinds.take m) l[i].slots[j].kinds[m]<;>simp
          refine a2S (a2G _root_.id (fun _=>Value.bool true) (l[i].slots[j].kinds.take (m+1))) (a0H he) he (l[i].slots[j].kinds[m]) rfl rfl rfl ((b0E _root_.id (fun _=>Value.bool true) (l[i].slots[j].kinds.take m) l[i].slots[j].kinds[m] (a7u h92n)).trans (by rw[a0c hltm])) ?_;refine go 8 ?_;exact a0w (m+1) ⟨oM,a1r hr hltm (by revert h92;simp only[b4J];cases hit _root_.id (l[i].slots[j].kinds.take m) l[i].slots[j].kinds[m]<;>simp)⟩ oM rfl sb rfl
       ·refine go 11 ?_;refine a0a ?_;exact a0w (j+1) ⟨oM,a1r hq hltj (by simp only[a5D,h72,(show m=l[i].slots[j].kinds.length from oM)▸hr];rfl)⟩ oM rfl sb rfl
    ·refine go 13 ?_;have h41n:hit Kind.name (l.take i) l[i].name=false:=by revert h41;cases hit Kind.name (l.take i) l[i].name<;>simp
     refine a0d ?_;refine a2S (a2G Kind.name (fun k=>Value.bool (!k.vehicle)) (l.take (i+1))) (a0H he) he (l[i].name) rfl rfl rfl ((b0E Kind.name (fun k=>Value.bool (!k.vehicle)) (l.take i) l[i] (a7u h41n)).trans (by rw[a0c hlt])) ?_;refine go 8 ?_;refine a0b ?_;refine a0a ?_;refine a0b ?_;refine a0a ?_;exact a0w (i+1) ⟨oM,a1r hn hlt (by simp only[a4q,h41,(show j=l[i].slots.length from oM)▸hq];rfl)⟩ oM rfl sb rfl
 ·refine go 16 ?_;have e:i=l.length:=oM;subst e;exact q_v (congrArg Value.bool (by simp only[a1I,hn,bS]))
theorem d5x (I:IMap) (v:Value) (l:List Kind) (hv:RdS I v l) :
    FnV prog 94 #[.agg #[v]] I (.bool (c5W l)):=by
 obtain⟨A,c0,rfl,hA,hc,hm⟩:=hv;refine enter func94 call94 rfl ntmps94 rfl fun w0=>?_;refine go 4 fun g1=>?_
 refine gC 12 (fun h10 p10=>?_) fun h10 p10=>?_
 ·refine go 8 ?_;exact q_v (congrArg Value.bool (by simp only[c5W,h10];rfl))
 ·refine go 9 ?_
  refine a0x (α:=Nat) 0 (fun i=>I)
   (fun i=>[(1,.pointer (some ⟨g1,0,none⟩)),(3,.int .i64 (i:Int))])
   (fun i=>[.blk g1 24 [.slice A l.length c0]])
   (fun i=>i≤l.length∧a3v (fun _ k=>a3B k) l i=true)
   (fun i=>l.length-i) ⟨Nat.zero_le _,rfl⟩ rfl sb rfl ?_
  intro i ⟨hi,hn⟩;refine gC 10 (fun h15 p15=>?_) fun h15 p15=>?_
  ·have hlt:i<l.length:=oM;refine go 9 ?_;obtain⟨b21,o21,w21,e21,c21,r21⟩:=RdA.at_ hA (i:=i) hlt;obtain⟨q21,rfl,B21,d21,rfl,hB21,hd21,hm21⟩:=r21;refine go 4 fun g4=>?_
   refine go 6 ?_;refine a1V (I':=I) (L':=[(1,.pointer (some ⟨g1,0,none⟩)),(3,.int .i64 (i:Int)),(4,.pointer (some ⟨g4,0,none⟩)),(32,.bool (decide ((100:Int)<(l[i].name.size:Nat))||decide ((15:Int)<(l[i].slots.length:Nat))))]) (H':=[.blk g4 149 (l[i].cells (.slice B21 l[i].slots.length d21)),.blk g1 24 [.slice A l.length c0]]) ?_ ?_
   ·refine gS 6 27 (fun h27 p27=>?_) fun h27 p27=>?_
    ·refine go 7 ?_;exact a0r ⟨rfl,rfl,rfl,(bB (by simp only[h15,h27,bS])),trivial⟩ rfl rfl
    ·refine go 7 ?_;exact a0r ⟨rfl,rfl,rfl,(bB (by simp only[h15,h27,bS])),trivial⟩ rfl rfl
   ·refine gC 0 (fun h32 p32=>?_) fun h32 p32=>?_
    ·refine go 13 ?_;exact q_v (congrArg Value.bool (by simp only[c5W,a1g (f:=fun _ k=>a3B k) hlt (show a3B l[i]=false by simp only[a3B,h32,bS]),bS]))
    ·refine go 8 ?_
     refine a0x (α:=Nat) 0 (fun j=>I)
      (fun j=>[(1,.pointer (some ⟨g1,0,none⟩)),(3,.int .i64 (i:Int)),(4,.pointer (some ⟨g4,0,none⟩)),(5,.int .i64 (j:Int))])
      (fun j=>[.blk g4 149 (l[i].cells (.slice B21 l[i].slots.length d21)),.blk g1 24 [.slice A l.length c0]])
      (fun j=>j≤l[i].slots.length∧a3v (fun _ s=>a4T s) l[i].slots j=true)
      (fun j=>l[i].slots.length-j) ⟨Nat.zero_le _,rfl⟩ rfl sb rfl ?_
     intro j ⟨hj,hq⟩;refine gC 10 (fun h37 p37=>?_) fun h37 p37=>?_
     ·have hltj:j<l[i].slots.length:=oM;refine go 6 ?_;refine a1V (I':=I) (L':=[(1,.pointer (some ⟨g1,0,none⟩)),(3,.int .i64 (i:Int)),(4,.pointer (some ⟨g4,0,none⟩)),(5,.int .i64 (j:Int)),(57,.bool (decide ((100:Int)<(l[i].slots[j].name.size:Nat))||decide ((15:Int)<(l[i].slots[j].kinds.length:Nat))))]) (H':=[.blk g4 149 (l[i].cells (.slice B21 l[i].slots.length d21)),.blk g1 24 [.slice A l.length c0]]) ?_ ?_
      ·refine go 4 ?_;obtain⟨b43,o43,w43,e43,c43,r43⟩:=RdA.at_ hB21 (i:=j) hltj;obtain⟨q43,rfl,B43,d43,rfl,hB43,hd43,hm43⟩:=r43;refine o_v rfl (a0l he rfl rfl e43 (j) oM hltj) ?_;refine gS 5 48 (fun h48 p48=>?_) fun h48 p48=>?_
       ·refine go 11 ?_;exact a0r ⟨rfl,rfl,rfl,rfl,(bB (by simp only[h37,h48,bS])),trivial⟩ rfl rfl
       ·refine go 3 ?_;obtain⟨b52,o52,w52,e52,c52,r52⟩:=RdA.at_ hB21 (i:=j) hltj;obtain⟨q52,rfl,B52,d52,rfl,hB52,hd52,hm52⟩:=r52;refine a0z (a0n rfl rfl h48 (a0q rfl (a0l he rfl rfl e52 (j) oM hltj) ?_));refine go 7 ?_;exact a0r ⟨rfl,rfl,rfl,rfl,(bB (by simp only[h37,h48,bS])),trivial⟩ rfl rfl
      ·refine gC 0 (fun h57 p57=>?_) fun h57 p57=>?_
       ·refine go 17 ?_;exact q_v (congrArg Value.bool (by simp only[c5W,a1g (f:=fun _ k=>a3B k) hlt (show a3B l[i]=false by simp only[a3B,a1g (f:=fun _ s=>a4T s) hltj (show a4T l[i].slots[j]=false by simp only[a4T,h57];rfl),bS]),bS]))
       ·refine go 8 ?_
        refine a0x (α:=Nat) 0 (fun m=>I)
         (fun m=>[(1,.pointer (some ⟨g1,0,none⟩)),(3,.int .i64 (i:Int)),(4,.pointer (some ⟨g4,0,none⟩)),(5,.int .i64 (j:Int)),(6,.int .i64 (m:Int))])
         (fun m=>[.blk g4 149 (l[i].cells (.slice B21 l[i].slots.length d21)),.blk g1 24 [.slice A l.length c0]])
         (fun m=>m≤l[i].slots[j].kinds.length∧a3v (fun _ k=>!decide ((100:Int)<((k:ByteArray).size:Nat))) l[i].slots[j].kinds m=true)
         (fun m=>l[i].slots[j].kinds.length-m) ⟨Nat.zero_le _,rfl⟩ rfl sb rfl ?_
        intro m ⟨hmm,hr⟩;refine go 7 ?_;obtain⟨b62,o62,w62,e62,c62,r62⟩:=RdA.at_ hB21 (i:=j) hltj;obtain⟨q62,rfl,B62,d62,rfl,hB62,hd62,hm62⟩:=r62;refine o_v rfl (a0l he rfl rfl e62 (j) oM hltj) ?_;refine gC 6 (fun h66 p66=>?_) fun h66 p66=>?_
        ·have hltm:m<l[i].slots[j].kinds.length:=oM;refine go 9 ?_;obtain⟨b72,o72,w72,e72,c72,r72⟩:=RdA.at_ hB21 (i:=j) hltj;obtain⟨q72,rfl,B72,d72,rfl,hB72,hd72,hm72⟩:=r72;refine o_v rfl (a0l he rfl rfl e72 (j) oM hltj) ?_;refine go 3 ?_;obtain⟨b76,o76,w76,e76,c76,r76⟩:=RdA.at_ hB72 (i:=m) hltm;obtain rfl:=r76;refine o_v rfl (a0l he rfl rfl e76 (m) oM hltm) ?_;refine gC 5 (fun h79 p79=>?_) fun h79 p79=>?_
         ·refine go 20 ?_;exact q_v (congrArg Value.bool (by simp only[c5W,a1g (f:=fun _ k=>a3B k) hlt (show a3B l[i]=false by simp only[a3B,a1g (f:=fun _ s=>a4T s) hltj (show a4T l[i].slots[j]=false by simp only[a4T,a1g (f:=fun _ k=>!decide ((100:Int)<((k:ByteArray).size:Nat))) hltm (show (!decide ((100:Int)<((l[i].slots[j].kinds[m]).size:Nat)))=false by simp only[h79];rfl),bS]),bS]),bS]))
         ·refine go 9 ?_;exact a0w (m+1) ⟨oM,a1r hr hltm (by simp only[h79];rfl)⟩ oM rfl sb rfl
        ·refine go 12 ?_;exact a0w (j+1) ⟨oM,a1r hq hltj (by simp only[a4T,h57,(show m=l[i].slots[j].kinds.length from oM)▸hr];rfl)⟩ oM rfl sb rfl
     ·refine go 12 ?_;refine a0a ?_;exact a0w (i+1) ⟨oM,a1r hn hlt (by simp only[a3B,h32,(show j=l[i].slots.length from oM)▸hq];rfl)⟩ oM rfl sb rfl
  ·refine go 12 ?_;have e:i=l.length:=oM;subst e;exact q_v (congrArg Value.bool (by simp only[c5W,hn,h10];rfl))
end Go.Proofs.YtgmkjpafapgccaaGreat
namespace Go.Proofs.YtgmkjpafapgccaaGreat
open Go Go.Sx Tryz
set_option linter.all false
set_option maxRecDepth 20000
set_option maxHeartbeats 4000000
instance:Has (c8O prog 295) (3,294,1):=hk
instance:Has (c8O prog 370) (8,9,1):=hk
theorem T.eqg_130:prog.eqGuardType prog.depth 130=false:=by kernel_rfl
instance:Has (a1k prog 128 0) (0,true,2):=hk
instance:Has (a1k prog 128 1) (2,true,2):=hk
instance:Has (a1k prog 128 2) (4,true,2):=hk
instance:Has (a1k prog 130 0) (0,false,1):=hk
instance:Has (a1k prog 130 1) (1,false,1):=hk
instance:Has (a1k prog 130 2) (2,false,1):=hk
instance:Has (a1k prog 130 3) (3,false,1):=hk
instance:Has (a1k prog 130 4) (4,false,1):=hk
instance:Has (a1k prog 130 5) (5,false,1):=hk
instance:Has (a1k prog 130 6) (6,false,1):=hk
instance:Has (a1k prog 130 7) (7,false,1):=hk
instance:Has (a1k prog 130 8) (8,true,6):=hk
instance:Has (a1k prog 81 0) (0,false,1):=hk
instance:Has (a1k prog 81 1) (1,false,1):=hk
instance:Has (plK prog 128) [(0,2),(2,2),(4,2)]:=hk
instance:Has (plK prog 130) [(0,1),(1,1),(2,1),(3,1),(4,1),(5,1),(6,1),(7,1),(8,6)]:=hk
instance:Has (tyK prog 128) (true,6):=hk
instance:Has (tyK prog 294) (false,1):=hk
instance:Has (tyK prog 295) (true,3):=hk
instance:Has (tyK prog 370) (true,8):=hk
instance:Has (a1o prog 128) [.int .i64 0,.int .i64 0,.int .i64 0,.int .i64 0,.int .i64 0,.int .i64 0]:=hk
instance:Has (a1o prog 130) [.int .i64 0,.int .i64 0,.string ⟨#[]⟩,.string ⟨#[]⟩,.string ⟨#[]⟩,.string ⟨#[]⟩,.string ⟨#[]⟩,.string ⟨#[]⟩,.int .i64 0,.int .i64 0,.int .i64 0,.int .i64 0,.int .i64 0,.int .i64 0]:=hk
instance:Has (a1o prog 295) [.pointer none,.pointer none,.pointer none]:=hk
instance:Has (a1o prog 370) [.string ⟨#[]⟩,.string ⟨#[]⟩,.string ⟨#[]⟩,.string ⟨#[]⟩,.string ⟨#[]⟩,.string ⟨#[]⟩,.string ⟨#[]⟩,.string ⟨#[]⟩]:=hk
instance:Has (a1o prog 9) [.string ⟨#[]⟩]:=hk
theorem b2V (a b:Evt):eqV prog 9 130 (.agg a.cells.toArray) (.agg b.cells.toArray)=some (decide (a=b)):=by
 rw[←Evt.eqB_eq]
 kernel_rfl
theorem d0t (a b:Prp):eqV prog 9 234 (.agg a.cells.toArray) (.agg b.cells.toArray)=some (decide (a=b)):=by
 rw[←Prp.eqB_eq]
 kernel_rfl
theorem d4d (I:IMap) (op:Int) :
    FnV prog 187 #[.int .i64 op] I (.string (b1u op)):=by
 refine enter func187 call187 rfl ntmps187 rfl fun w0=>?_;refine go 8 ?_;refine a0q rfl (b9h he he rfl rfl) ?_;refine go 2 fun g3=>?_
 refine gS 10 7 (fun h7 p7=>?_) fun h7 p7=>?_
 ·refine go 14 ?_;exact q_v (congrArg Value.string (b2H oM).symm)
 ·refine gC 5 (fun h10 p10=>?_) fun h10 p10=>?_
  ·refine go 8 ?_;exact q_v (congrArg Value.string (b2H oM).symm)
  ·refine go 5 ?_;refine o_v rfl (a8g he rfl rfl op.toNat oM oM) ?_;refine o_v rfl (b1m m0 he rfl (by rw[show 0+op.toNat * 1=op.toNat from by omega];exact c5e oM oM)) ?_;refine go 5 ?_;exact q_v rfl
theorem d4c (I:IMap) (g o:Nat) :
    FnV prog 188 #[.pointer (some ⟨g,o,none⟩)] I (.agg #[.pointer (some ⟨g,o+0,none⟩),.pointer (some ⟨g,o+2,none⟩),.pointer (some ⟨g,o+4,none⟩)]):=by
 refine enter func188 call188 rfl ntmps188 rfl fun w0=>?_;refine go 4 fun g2=>?_
 refine go 3 ?_;refine ds1 ?_;refine dH 0 9 ?_;refine a0q rfl (b9h he he rfl rfl) ?_;refine dH 10 0 ?_;refine go 6 ?_;exact q_v rfl
theorem c5T (I:IMap) (s:ByteArray) (hs:Sm s) :
    FnV prog 190 #[.string s] I (.bool (!a1p s)):=by
 refine enter func190 call190 rfl ntmps190 rfl fun w0=>?_;refine go 9 ?_;refine cV (a3C _ s hs) ?_;refine go 6 ?_;exact q_v rfl
theorem b6a (I:IMap) (e:Evt) (hs:SmE e) :
    FnV prog 100 #[.agg e.cells.toArray] I (.bool (a1D e)):=by
 refine enter func100 call100 rfl ntmps100 rfl fun w0=>?_;refine go 4 fun g1=>?_
 refine go 5 ?_;refine a1V (I':=I) (L':=[(1,.pointer (some ⟨g1,0,none⟩)),(26,.bool (b0p e))]) (H':=[.blk g1 130 e.cells]) ?_ ?_
 ·refine go 4 ?_;refine cV (d4d _ e.op) ?_;refine gS 2 11 (fun h11 p11=>?_) fun h11 p11=>?_
  ·refine go 17 ?_;exact a0r ⟨rfl,(bB (by simp only[b0p,h11,bS])),trivial⟩ rfl rfl
  ·refine gS 5 16 (fun h16 p16=>?_) fun h16 p16=>?_
   ·refine go 12 ?_;exact a0r ⟨rfl,(bB (by simp only[b0p,h11,h16,bS])),trivial⟩ rfl rfl
   ·refine gS 5 21 (fun h21 p21=>?_) fun h21 p21=>?_
    ·refine go 7 ?_;exact a0r ⟨rfl,(bB (by simp only[b0p,h11,h16,h21,bS])),trivial⟩ rfl rfl
    ·refine go 3 ?_;refine a0n rfl rfl h21 (a0y (a3C _ _ hs.1) rfl rfl ?_);refine go 4 ?_;exact a0r ⟨rfl,(bB (by simp only[b0p,h11,h16,h21,bS])),trivial⟩ rfl rfl
 ·refine gC 0 (fun h26 p26=>?_) fun h26 p26=>?_
  ·refine go 8 ?_;exact q_v (congrArg Value.bool (by simp only[a1D,h26];rfl))
  ·refine go 6 fun v27=>?_
   refine go 8 fun g4=>?_
   refine go 18 ?_;refine b0e (Ix:=(fun v3 xs=>I)) (Lx:=(fun v3 xs=>[(3,v3),(4,.pointer (some ⟨g4,0,none⟩))])) (Hx:=(fun v3 xs=>[.row v3 9 1 (a1T e).length xs,.blk g4 130 (a6e e).cells])) (p:=(fun v3 xs=>Flat I xs (a1T e)∧a5O e=false)) ?_ ?_
   ·refine gC 13 (fun h34 p34=>?_) fun h34 p34=>?_
    ·refine go 5 fun v38=>?_
     refine go 3 ?_;refine a0b ?_;refine go 4 ?_;refine a0d ?_;refine a0a ?_;refine a0d ?_;refine a0a ?_;refine a0b ?_;exact a3G (_) (_) ⟨(by simp only[a1T,p26,p34,if_true,if_false];first|exact .nil|exact .one rfl|exact .cons rfl (.one rfl)),(by simp[a5O,p26,p34,h26,h34]<;>assumption)⟩ sb (by simp only[a1T,a6e,p26,p34,if_true,if_false];rfl) rfl
    ·refine gC 6 (fun h40 p40=>?_) fun h40 p40=>?_
     ·refine gC 10 (fun h46 p46=>?_) fun h46 p46=>?_
      ·refine go 10 ?_;exact q_v (congrArg Value.bool (by simp[a1D,a5O,p26,p34,p40,p46,h26,h34,h40,h46]))
      ·refine go 9 fun v51=>?_
       refine go 3 ?_;refine a0b ?_;refine go 7 ?_;refine a0d ?_;refine a0a ?_;refine a0d ?_;refine a0a ?_;refine a0b ?_;exact a3G (_) (_) ⟨(by simp only[a1T,p26,p34,p40,p46,if_true,if_false];first|exact .nil|exact .one rfl|exact .cons rfl (.one rfl)),(by simp[a5O,p26,p34,p40,p46,h26,h34,h40,h46]<;>assumption)⟩ sb (by simp only[a1T,a6e,p26,p34,p40,p46,if_true,if_false];rfl) rfl
     ·refine gC 6 (fun h54 p54=>?_) fun h54 p54=>?_
      ·refine go 2 ?_;refine a1V (I':=I) (L':=[(1,.pointer (some ⟨g1,0,none⟩)),(3,v27),(4,.pointer (some ⟨g4,0,none⟩)),(64,.bool (decide (e.value=a0M)||decide ((200:Int)<(e.value.size:Nat))))]) (H':=[.row v27 9 1 0 [],.blk g1 130 e.cells,.blk g4 130 ({ e with op:=0,day:=0,part:=a0M }:Evt).cells]) ?_ ?_
       ·refine gS 5 59 (fun h59 p59=>?_) fun h59 p59=>?_
        ·refine go 7 ?_;refine a0d ?_;refine a0d ?_;exact a0r ⟨rfl,rfl,rfl,(bB (by simp only[h26,h34,h40,h54,h59,bS])),trivial⟩ rfl rfl
        ·refine go 7 ?_;refine a0d ?_;refine a0d ?_;exact a0r ⟨rfl,rfl,rfl,(bB (by simp only[h26,h34,h40,h54,h59,bS])),trivial⟩ rfl rfl
       ·refine gC 0 (fun h64 p64=>?_) fun h64 p64=>?_
        ·refine go 10 ?_;exact q_v (congrArg Value.bool (by simp[a1D,a5O,p54,h64]))
        ·refine go 7 fun v67=>?_
         refine go 3 ?_;refine a0u ?_;refine go 7 ?_;refine a0d ?_;refine a0a ?_;refine a0d ?_;refine a0a ?_;refine a0b ?_;exact a3G (_) (_) ⟨(by simp only[a1T,p26,p34,p40,p54,p64,if_true,if_false];first|exact .nil|exact .one rfl|exact .cons rfl (.one rfl)),(by simp[a5O,p26,p34,p40,p54,p64,h64]<;>assumption)⟩ sb (by simp only[a1T,a6e,p26,p34,p40,p54,p64,if_true,if_false];rfl) rfl
      ·refine gC 6 (fun h70 p70=>?_) fun h70 p70=>?_
       ·refine go 5 ?_;refine cV (d4c _ g1 8) ?_;refine go 4 ?_;refine a0b ?_;refine a0b ?_;refine a0d ?_
        refine a0x (α:=Nat) 0 (fun i=>I)
         (fun i=>[(1,.pointer (some ⟨g1,0,none⟩)),(3,v27),(4,.pointer (some ⟨g4,0,none⟩)),(73,.agg (b7i g1 8).toArray),(74,.int .i64 (i:Int))])
         (fun i=>[.blk g1 130 e.cells,.blk g4 130 ({ e with op:=0,day:=0,part:=a0M }:Evt).cells,.row v27 9 1 0 []])
         (fun i=>i≤3∧b1N e.use i=true)
         (fun i=>3-i) ⟨oM,rfl⟩ rfl sb rfl ?_
        intro i ⟨hi,hn⟩;refine gC 6 (fun h75 p75=>?_) fun h75 p75=>?_
        ·have hlt:i<3:=oM;refine go 6 ?_;refine o_v rfl (d6c he he rfl rfl i rfl hlt (c0N g1 8 hlt)) ?_;refine go 4 ?_;refine a1V (I':=I) (L':=[(1,.pointer (some ⟨g1,0,none⟩)),(3,v27),(4,.pointer (some ⟨g4,0,none⟩)),(73,.agg (b7i g1 8).toArray),(74,.int .i64 (i:Int)),(99,.bool (!b1H (b5B e.use i)))]) (H':=[.blk g1 130 e.cells,.blk g4 130 ({ e with op:=0,day:=0,part:=a0M }:Evt).cells,.row v27 9 1 0 []]) ?_ ?_
         ·refine go 1 ?_;refine dG 0 3 ?_;refine a0F 3 rfl rfl (by kernel_rfl) rfl (.refl _) rfl (b1m m0 he rfl (c4H e hlt)) ?_;refine dG 4 2 ?_;refine gS 0 82 (fun h82 p82=>?_) fun h82 p82=>?_
          ·refine dG 6 17 ?_;refine go 2 ?_;exact a0r ⟨rfl,rfl,rfl,rfl,rfl,(bB (by simp only[b1H,h75,h82,bS,Bool.not_not])),trivial⟩ rfl rfl
          ·refine dG 6 3 ?_;refine d_t 9 rfl rfl (by kernel_rfl) rfl (fun _ m=>m.keeps (.refl _)) (a1O rfl rfl h82 (b1m m0 he rfl (c4H e hlt))) ?_;refine dG 10 3 ?_;refine d_t 13 rfl rfl (by kernel_rfl) rfl (fun _ m=>m.keeps (.refl _)) (a1O rfl rfl h82 (b1m m0 he rfl (b9e e hlt))) ?_;refine dG 14 3 ?_;refine gS 0 93 (fun h93 p93=>?_) fun h93 p93=>?_
           ·refine dG 17 6 ?_;refine go 2 ?_;exact a0r ⟨rfl,rfl,rfl,rfl,rfl,(bB (by simp only[b1H,h75,h82,h93,bS,Bool.not_not])),trivial⟩ rfl rfl
           ·refine dG 17 3 ?_;refine d_t 20 rfl rfl (by kernel_rfl) rfl (fun _ m=>m.keeps (.refl _)) (a1O rfl rfl h93 (b1m m0 he rfl (b9e e hlt))) ?_;refine dG 21 2 ?_;refine go 2 ?_;exact a0r ⟨rfl,rfl,rfl,rfl,rfl,(bB (by simp only[b1H,h75,h82,h93,bS,Bool.not_not])),trivial⟩ rfl rfl
         ·refine gC 0 (fun h99 p99=>?_) fun h99 p99=>?_
          ·refine go 14 ?_;exact q_v (congrArg Value.bool (by simp[a1D,a5O,p70,d2M hlt (by simpa using h99)]))
          ·refine go 8 ?_;exact a0w (i+1) ⟨oM,c8s hn (by simpa using h99)⟩ oM rfl sb rfl
        ·have hU:b1N e.use 3=true:=(show i=3 from oM)▸hn;refine go 9 ?_;refine a0b ?_;refine go 4 ?_;refine a0b ?_;refine a0a ?_;refine a0b ?_;exact a3G (_) (_) ⟨(by simp only[a1T,p26,p34,p40,p54,p70,p75,if_true,if_false];first|exact .nil|exact .one rfl|exact .cons rfl (.one rfl)),(by simp[a5O,p26,p34,p40,p54,p70,p75,h75]<;>assumption)⟩ sb (by simp only[a1T,a6e,p26,p34,p40,p54,p70,p75,if_true,if_false];rfl) rfl
       ·refine go 3 ?_;refine a0d ?_;refine a0a ?_;refine a0b ?_;exact a3G (_) (_) ⟨(by simp only[a1T,p26,p34,p40,p54,p70,if_true,if_false];first|exact .nil|exact .one rfl|exact .cons rfl (.one rfl)),(by simp[a5O,p26,p34,p40,p54,p70,h26,h34,h40,h54,h70]<;>assumption)⟩ sb (by simp only[a1T,a6e,p26,p34,p40,p54,p70,if_true,if_false];rfl) rfl
   ·intro v3 xs ⟨hF,hO⟩;refine go 4 ?_;refine o_v rfl (b1n T.eqg_130 (b2V (a6e e) d6v) rfl rfl) ?_;refine gS 1 106 (fun h106 p106=>?_) fun h106 p106=>?_
    ·refine go 2 ?_;refine a0n rfl rfl h106 (b0P m0 rfl rfl (hF) (fun I2 hI2 hR=>a6T I2 _ _ hR _ [] (fun s=>!a1p s) (fun x hx vs hr=>by cases hr;exact c5T I2 x (c6M hs hx))) rfl rfl ?_);refine go 7 ?_;exact q_v (congrArg Value.bool (by simp only[a1D,h26,hO,h106,bS]))
    ·refine go 9 ?_;exact q_v (congrArg Value.bool (by simp only[a1D,h26,hO,h106,bS]))
theorem d0v (I:IMap) (e:Evt) (hs:SmE e) :
    FnI prog 260 #[.agg e.cells.toArray] I (fun u J=>RdS J u (a4b e)):=by
 refine enter func260 call260 rfl ntmps260 rfl fun w0=>?_;refine go 4 fun g1=>?_
 refine go 9 ?_;refine cV (b6a _ e hs) ?_;refine gC 4 (fun h3 p3=>?_) fun h3 p3=>?_
 ·refine go 9 ?_;exact q_i (by simp only[a4b,show a1D e=false by simpa using h3,if_true];exact RdS.nil')
 ·refine gC 8 (fun h7 p7=>?_) fun h7 p7=>?_
  ·refine go 6 ?_;refine o_v rfl (d6a rfl rfl) ?_;refine go 4 ?_;refine o_v rfl (d5Z rfl rfl) ?_;refine go 2 fun v21=>?_
   refine a0i (l:=[d7G e.part e.into,d7E e.part e.into]) rfl rfl (.cons rfl (.one rfl)) fun I21 j21 R21=>?_;refine go 7 ?_;exact q_i (by simp only[a4b,p3,p7,if_true,if_false,Bool.true_eq_false];exact R21)
  ·refine go 9 fun v24=>?_
   refine a0i (l:=[e.part]) rfl rfl (.one rfl) fun I24 j24 R24=>?_;refine go 5 ?_;exact q_i (by simp only[a4b,p3,p7,if_true,if_false,Bool.true_eq_false];exact R24)
theorem c7F (I:IMap) (e:Evt) :
    FnV prog 183 #[.agg e.cells.toArray] I (.bool (a6g e)):=by
 refine enter func183 call183 rfl ntmps183 rfl fun w0=>?_;refine go 4 fun g1=>?_
 refine gS 10 7 (fun h7 p7=>?_) fun h7 p7=>?_
 ·refine gS 6 13 (fun h13 p13=>?_) fun h13 p13=>?_
  ·refine gS 6 19 (fun h19 p19=>?_) fun h19 p19=>?_
   ·refine gS 6 25 (fun h25 p25=>?_) fun h25 p25=>?_
    ·refine gS 6 31 (fun h31 p31=>?_) fun h31 p31=>?_
     ·refine go 10 ?_;exact q_v (congrArg Value.bool (by simp only[a6g,h7,h13,h19,h25,h31,bS]))
     ·refine go 10 ?_;exact q_v (congrArg Value.bool (by simp only[a6g,h7,h13,h19,h25,h31,bS]))
    ·refine go 16 ?_;exact q_v (congrArg Value.bool (by simp only[a6g,h7,h13,h19,h25,bS]))
   ·refine go 22 ?_;exact q_v (congrArg Value.bool (by simp only[a6g,h7,h13,h19,bS]))
  ·refine go 28 ?_;exact q_v (congrArg Value.bool (by simp only[a6g,h7,h13,bS]))
 ·refine go 34 ?_;exact q_v (congrArg Value.bool (by simp only[a6g,h7,bS]))
theorem d1X (I:IMap) (v:Value) (l:List Evt) (hv:RdS I v l) (n:Int) :
    FnV prog 96 #[v,.int .i64 n] I (.bool (c5X l n)):=by
 obtain⟨A,c0,rfl,hA,hc,hm⟩:=hv;refine enter func96 call96 rfl ntmps96 rfl fun w0=>?_;refine go 12 ?_
 refine a0x (α:=Nat) 0 (fun i=>I)
  (fun i=>[(0,.slice A l.length c0),(1,.int .i64 n),(5,.int .i64 (i:Int))])
  (fun i=>[])
  (fun i=>i≤l.length∧a3v (fun _ e=>a6g e) l i=true)
  (fun i=>l.length-i) ⟨Nat.zero_le _,rfl⟩ rfl sb rfl ?_
 intro i ⟨hi,hn⟩;refine gS 8 10 (fun h10 p10=>?_) fun h10 p10=>?_
 ·have hlt:i<l.length:=oM;refine gC 6 (fun h14 p14=>?_) fun h14 p14=>?_
  ·have hlt:i<l.length:=oM;refine go 8 ?_;obtain⟨b19,o19,w19,e19,c19,r19⟩:=RdA.at_ hA (i:=i) hlt;obtain rfl:=r19;refine go 3 ?_;refine cV (c7F _ _) ?_;refine gC 3 (fun h22 p22=>?_) fun h22 p22=>?_
   ·refine go 12 ?_;exact q_v (congrArg Value.bool (by simp only[c5X,a1g (f:=fun _ e=>a6g e) hlt (by simpa using h22),bS]))
   ·refine go 9 ?_;exact a0w (i+1) ⟨oM,a1r hn hlt (by simpa using h22)⟩ oM rfl sb rfl
  ·refine go 16 ?_;exact q_v (congrArg Value.bool (by rw[c5X,show decide (((l.length:Nat):Int)≤n)=false from decide_eq_false oM];simp))
 ·refine go 23 ?_;have e:i=l.length:=oM;subst e;exact q_v (congrArg Value.bool (by simp only[c5X,hn,bS]))
end Go.Proofs.YtgmkjpafapgccaaGreat
namespace Go.Proofs.YtgmkjpafapgccaaGreat
open Go Go.Sx Tryz
set_option linter.all false
set_option maxRecDepth 20000
set_option maxHeartbeats 4000000
instance:Has (a2j prog 130) ([.int .i64 0,.int .i64 0,.string ⟨#[]⟩,.string ⟨#[]⟩,.string ⟨#[]⟩,.string ⟨#[]⟩,.string ⟨#[]⟩,.string ⟨#[]⟩,.int .i64 0,.int .i64 0,.int .i64 0,.int .i64 0,.int .i64 0,.int .i64 0],14,160):=hk
instance:Has (a2j prog 234) ([.string ⟨#[]⟩,.string ⟨#[]⟩],2,32):=hk
instance:Has (a2j prog 85) ([.string ⟨#[]⟩,.string ⟨#[]⟩,.string ⟨#[]⟩,.string ⟨#[]⟩,.int .i64 0,.int .i64 0,.bool false,.slice none 0 0,.int .i64 0,.int .i64 0,.int .i64 0,.int .i64 0,.int .i64 0,.int .i64 0],14,160):=hk
instance:Has (a6J prog 79) (234,2):=hk
instance:Has (a1k prog 165 0) (0,false,1):=hk
instance:Has (a1k prog 165 1) (1,false,1):=hk
instance:Has (a1k prog 234 0) (0,false,1):=hk
instance:Has (a1k prog 234 1) (1,false,1):=hk
instance:Has (a1k prog 62 0) (0,false,1):=hk
instance:Has (a1k prog 83 0) (0,true,2):=hk
instance:Has (a1k prog 83 1) (2,true,2):=hk
instance:Has (a1k prog 83 2) (4,true,2):=hk
instance:Has (a1k prog 85 0) (0,false,1):=hk
instance:Has (a1k prog 85 1) (1,false,1):=hk
instance:Has (a1k prog 85 2) (2,false,1):=hk
instance:Has (a1k prog 85 3) (3,false,1):=hk
instance:Has (a1k prog 85 4) (4,false,1):=hk
instance:Has (a1k prog 85 5) (5,false,1):=hk
instance:Has (a1k prog 85 6) (6,false,1):=hk
instance:Has (a1k prog 85 7) (7,false,1):=hk
instance:Has (a1k prog 85 8) (8,true,6):=hk
instance:Has (plK prog 165) [(0,1),(1,1)]:=hk
instance:Has (plK prog 314) [(0,1),(1,1)]:=hk
instance:Has (plK prog 85) [(0,1),(1,1),(2,1),(3,1),(4,1),(5,1),(6,1),(7,1),(8,6)]:=hk
theorem T.sp_314:a9G prog 314=true:=by kernel_rfl
instance:Has (tyK prog 163) (false,1):=hk
instance:Has (tyK prog 165) (true,2):=hk
instance:Has (tyK prog 225) (false,1):=hk
instance:Has (tyK prog 234) (true,2):=hk
instance:Has (tyK prog 235) (false,1):=hk
instance:Has (tyK prog 314) (true,2):=hk
instance:Has (tyK prog 60) (false,1):=hk
instance:Has (tyK prog 62) (true,1):=hk
instance:Has (tyK prog 79) (false,1):=hk
instance:Has (tyK prog 81) (true,2):=hk
instance:Has (prog.underlying 163) (.map 9 3):=hk
instance:Has (prog.underlying 274) (.int .u64):=hk
instance:Has (prog.underlying 311) (.map 314 4):=hk
instance T.und_4:Has (prog.underlying 4) (.bool):=hk
instance:Has (prog.underlying 79) (.slice 234):=hk
instance:Has (a1o prog 165) [.slice none 0 0,.map none]:=hk
instance:Has (a1o prog 234) [.string ⟨#[]⟩,.string ⟨#[]⟩]:=hk
instance:Has (a1o prog 314) [.string ⟨#[]⟩,.string ⟨#[]⟩]:=hk
instance:Has (a1o prog 85) [.string ⟨#[]⟩,.string ⟨#[]⟩,.string ⟨#[]⟩,.string ⟨#[]⟩,.int .i64 0,.int .i64 0,.bool false,.slice none 0 0,.int .i64 0,.int .i64 0,.int .i64 0,.int .i64 0,.int .i64 0,.int .i64 0]:=hk
instance:Has (zvK prog 3) (.int .i64 0):=hk
theorem d6G (I:IMap) (v:Value) (l:List Part) (hv:RdS I v l) :
    FnX prog 77 #[.agg #[v]] I [] (fun u r=>∃g kvs,u = .agg #[v,.map (some g)]∧r = .mp g (a1A Value.string kvs)∧Ix kvs l∧(kvs.map Prod.fst).Nodup):=by
 have hv0:=hv;obtain⟨A,c0,rfl,hA,hc,hm⟩:=hv;refine enter func77 call77 rfl ntmps77 rfl fun w0=>?_;refine go 4 fun g1=>?_
 refine go 2 fun g2=>?_
 refine go 7 ?_;refine a5i (Value.string) he rfl fun r10=>?_;refine go 3 fun g3=>?_
 refine go 14 ?_;refine a0u ?_;refine a0u ?_;refine a0d ?_;refine a0u ?_
 refine a0B ((0:Nat)) ([]) (fun i kvs=>I)
  (fun i kvs=>[(1,.pointer (some ⟨g1,0,none⟩)),(2,.pointer (some ⟨g2,0,none⟩)),(3,.pointer (some ⟨g3,0,none⟩)),(13,.slice A l.length c0),(14,.int .i64 (l.length:Int)),(15,.int .i64 (i:Int))])
  (fun i kvs=>[.mp r10 (a1A Value.string kvs),.blk g3 165 [.slice A l.length c0,.map (some r10)],.blk g2 165 [.slice none 0 0,.map none],.blk g1 62 [.slice A l.length c0]])
  (fun i kvs=>i≤l.length∧Ix kvs (l.take i)∧(kvs.map Prod.fst).Nodup)
  (fun i kvs=>l.length-i) ⟨Nat.zero_le _,Ix.nil,List.nodup_nil⟩ rfl sb rfl ?_
 intro i kvs ⟨hi,hx,hnd⟩;refine gC 6 (fun h16 p16=>?_) fun h16 p16=>?_
 ·have hlt:i<l.length:=oM;refine go 7 ?_;obtain⟨b18,o18,w18,e18,c18,r18⟩:=RdA.at_ hA (i:=i) hlt;obtain⟨q18,rfl,B18,d18,rfl,hB18,hd18,hm18⟩:=r18;refine go 4 fun g5=>?_
  refine go 11 ?_;refine o_v rfl (a9g m1 (a0H he) he he (l[i].name) rfl rfl rfl rfl) ?_;refine gC 13 (fun h29 p29=>?_) fun h29 p29=>?_
  ·refine go 7 ?_;refine a0b ?_;refine a2S (_) (a0H he) he (l[i].name) rfl rfl rfl (rfl) ?_;refine go 8 ?_;refine a0b ?_;refine a0a ?_;exact a0o (i+1) (_) ⟨oM,by rw[←a0c hlt];exact hx.put (by rw[List.length_take];omega) (by simpa using h29),c0f hnd⟩ oM rfl sb rfl
  ·refine go 8 ?_;refine a0a ?_;exact a0o (i+1) (_) ⟨oM,by rw[←a0c hlt];exact hx.skip (by simpa using h29),hnd⟩ oM rfl sb rfl
 ·refine go 9 ?_;refine a0d ?_;refine go 5 ?_;refine a0a ?_;refine a0b ?_;refine a0a ?_;refine a0b ?_;refine a0a ?_;have e:i=l.length:=oM;subst e;rw[List.take_length]at hx
  exact q_x ⟨_,_,rfl,rfl,hx,hnd⟩
theorem c6e (I:IMap) (v:Value) (l:List Part) (hv:RdS I v l) (r:Nat) (kvs:List (ByteArray×Value)) (hx:Ix kvs l) (s:ByteArray) :
    FnK prog 127 #[.agg #[v,.map (some r)],.string s] I (.mp r (a1A Value.string kvs)) (PartIs I (a0e l s)):=by
 obtain⟨z,b,hz,hb,hfs,hfn⟩:=hx.look s;obtain⟨A,c0,rfl,hA,hc,hm⟩:=hv;refine enter func127 call127 rfl ntmps127 rfl fun w0=>?_;refine go 4 fun g2=>?_
 refine go 2 fun g4=>?_
 refine go 8 ?_;refine o_v rfl (a9g m2 (a0H he) he he (s) rfl rfl hz hb) ?_;refine gC 14 (fun h16 p16=>?_) fun h16 p16=>?_
 ·have hN:=hfn (by simpa using h16);refine go 11 ?_;refine a0a ?_;refine a0a ?_;exact q_k (PartIs.none hN)
 ·obtain⟨i,hi,rfl,hF⟩:=hfs (by simpa using h16);refine go 7 ?_;obtain⟨b21,o21,w21,e21,c21,r21⟩:=RdA.at_ hA (i:=i) hi;obtain⟨q21,rfl,B21,d21,rfl,hB21,hd21,hm21⟩:=r21;refine o_v rfl (a0l he rfl rfl e21 (i) rfl hi) ?_;refine go 8 ?_;refine a0a ?_;refine a0a ?_;exact q_k (PartIs.of hF ⟨_,rfl,B21,d21,rfl,hB21,hd21,hm21⟩)
theorem b5a (I:IMap) (v:Value) (l:List Part) (hv:RdS I v l) (f:FuncId) (nm:Part→ByteArray) (hp:∀x vs,Enc.rd I vs x→FnV prog f #[.agg vs.toArray] I (.string (nm x))) :
    FnV prog 203 #[v,.func (.func f) #[] #[]] I (.bool (c3y nm l)):=by
 obtain⟨A,c0,rfl,hA,hc,hm⟩:=hv;refine enter func203 call203 rfl ntmps203 rfl fun w0=>?_;refine go 12 ?_
 refine a0x (α:=Nat) 1 (fun i=>I)
  (fun i=>[(0,.slice A l.length c0),(1,.func (.func f) #[] #[]),(5,.int .i64 (i:Int))])
  (fun i=>[])
  (fun i=>1≤i∧(i≤l.length∨i=1)∧a3v (b0R nm) l i=true)
  (fun i=>l.length-i) ⟨oM,.inr rfl,b4Z (nm:=nm) l⟩ rfl sb rfl ?_
 intro i ⟨h1,hi,hn⟩;refine gC 9 (fun h9 p9=>?_) fun h9 p9=>?_
 ·have hlt:i<l.length:=oM;refine go 6 ?_;refine dG 0 4 ?_;obtain⟨b16,o16,w16,e16,c16,r16⟩:=RdA.at_ hA (i:=i-1) oM;refine a0F 4 rfl rfl (by kernel_rfl) rfl .slnil rfl (a0l he rfl rfl e16 (i-1) oM oM) ?_;refine a0F 5 rfl rfl (by kernel_rfl) rfl .slnil rfl (a0S he rfl c16 (Enc.len r16)) ?_;refine dG 7 3 ?_;obtain⟨b22,o22,w22,e22,c22,r22⟩:=RdA.at_ hA (i:=i) hlt;refine dG 10 1 ?_;refine a0F 11 rfl rfl (by kernel_rfl) rfl .slnil rfl (a0S he rfl c22 (Enc.len r22)) ?_;refine dH 6 0 ?_;refine cV (hp _ _ r16) ?_;refine dH 12 0 ?_;refine cV (hp _ _ r22) ?_;refine dG 13 1 ?_;refine gC 2 (fun h25 p25=>?_) fun h25 p25=>?_
  ·refine go 12 ?_;exact q_v (congrArg Value.bool (c3z h1 hlt (by simpa using h25)).symm)
  ·refine go 9 ?_;exact a0w (i+1) ⟨oM,.inl oM,b8G h1 hlt hn (by simpa using h25)⟩ oM rfl sb rfl
 ·refine go 12 ?_;exact q_v (congrArg Value.bool (show c3y nm l=true from c1b oM hn).symm)
theorem b6J (I:IMap) (v:Value) (l:List Prp) (hv:RdS I v l) (f:FuncId) (nm:Prp→ByteArray) (hp:∀x vs,Enc.rd I vs x→FnV prog f #[.agg vs.toArray] I (.string (nm x))) :
    FnV prog 271 #[v,.func (.func f) #[] #[]] I (.bool (c3y nm l)):=by
 obtain⟨A,c0,rfl,hA,hc,hm⟩:=hv;refine enter func271 call271 rfl ntmps271 rfl fun w0=>?_;refine go 12 ?_
 refine a0x (α:=Nat) 1 (fun i=>I)
  (fun i=>[(0,.slice A l.length c0),(1,.func (.func f) #[] #[]),(5,.int .i64 (i:Int))])
  (fun i=>[])
  (fun i=>1≤i∧(i≤l.length∨i=1)∧a3v (b0R nm) l i=true)
  (fun i=>l.length-i) ⟨oM,.inr rfl,b4Z (nm:=nm) l⟩ rfl sb rfl ?_
 intro i ⟨h1,hi,hn⟩;refine gC 9 (fun h9 p9=>?_) fun h9 p9=>?_
 ·have hlt:i<l.length:=oM;refine go 6 ?_;refine dG 0 4 ?_;obtain⟨b16,o16,w16,e16,c16,r16⟩:=RdA.at_ hA (i:=i-1) oM;refine a0F 4 rfl rfl (by kernel_rfl) rfl .slnil rfl (a0l he rfl rfl e16 (i-1) oM oM) ?_;refine a0F 5 rfl rfl (by kernel_rfl) rfl .slnil rfl (a0S he rfl c16 (Enc.len r16)) ?_;refine dG 7 3 ?_;obtain⟨b22,o22,w22,e22,c22,r22⟩:=RdA.at_ hA (i:=i) hlt;refine dG 10 1 ?_;refine a0F 11 rfl rfl (by kernel_rfl) rfl .slnil rfl (a0S he rfl c22 (Enc.len r22)) ?_;refine dH 6 0 ?_;refine cV (hp _ _ r16) ?_;refine dH 12 0 ?_;refine cV (hp _ _ r22) ?_;refine dG 13 1 ?_;refine gC 2 (fun h25 p25=>?_) fun h25 p25=>?_
  ·refine go 12 ?_;exact q_v (congrArg Value.bool (c3z h1 hlt (by simpa using h25)).symm)
  ·refine go 9 ?_;exact a0w (i+1) ⟨oM,.inl oM,b8G h1 hlt hn (by simpa using h25)⟩ oM rfl sb rfl
 ·refine go 12 ?_;exact q_v (congrArg Value.bool (show c3y nm l=true from c1b oM hn).symm)
theorem c3V (I:IMap) (x:Ivl) :
    FnV prog 269 #[.agg x.cells.toArray] I (.bool (a3d x)):=by
 refine enter func269 call269 rfl ntmps269 rfl fun w0=>?_;refine go 4 fun g1=>?_
 refine gS 9 6 (fun h6 p6=>?_) fun h6 p6=>?_
 ·refine gS 7 13 (fun h13 p13=>?_) fun h13 p13=>?_
  ·refine go 9 ?_;exact q_v (congrArg Value.bool (by simp only[a3d,h6,h13,bS]))
  ·refine go 9 ?_;exact q_v (congrArg Value.bool (by simp only[a3d,h6,h13,bS]))
 ·refine go 16 ?_;exact q_v (congrArg Value.bool (by simp only[a3d,h6,bS]))
theorem d5y (I:IMap) (x:Prp) (hs:Sm x.key) :
    FnV prog 270 #[.agg x.cells.toArray] I (.bool (a6M x)):=by
 refine enter func270 call270 rfl ntmps270 rfl fun w0=>?_;refine go 4 fun g1=>?_
 refine go 8 ?_;refine cV (a3C _ _ hs) ?_;refine gS 1 6 (fun h6 p6=>?_) fun h6 p6=>?_
 ·refine gS 5 11 (fun h11 p11=>?_) fun h11 p11=>?_
  ·refine go 10 ?_;exact q_v (congrArg Value.bool (by simp only[a6M,h6,h11,bS]))
  ·refine go 10 ?_;exact q_v (congrArg Value.bool (by simp only[a6M,h6,h11,bS]))
 ·refine go 15 ?_;exact q_v (congrArg Value.bool (by simp only[a6M,h6,bS]))
theorem d5z (I:IMap) (x:Prp) (vs:List Value) (h:Enc.rd I vs x) :
    FnV prog 272 #[.agg vs.toArray] I (.string x.key):=by
 obtain rfl:=h;refine enter func272 call272 rfl ntmps272 rfl fun w0=>?_;refine go 4 fun g1=>?_
 refine go 12 ?_;exact q_v rfl
theorem d6d (I:IMap) (x:Part) (vs:List Value) (h:Enc.rd I vs x) :
    FnV prog 204 #[.agg vs.toArray] I (.string x.name):=by
 obtain⟨q,rfl,B,d,rfl,hB,hd,hm⟩:=h;refine enter func204 call204 rfl ntmps204 rfl fun w0=>?_;refine go 4 fun g1=>?_
 refine go 12 ?_;exact q_v rfl
theorem c9H (I:IMap) (x:Part) (vs:List Value) (h:Enc.rd I vs x) :
    FnV prog 125 #[.agg vs.toArray] I (.string x.name):=by
 obtain⟨q,rfl,B,d,rfl,hB,hd,hm⟩:=h;refine enter func125 call125 rfl ntmps125 rfl fun w0=>?_;refine go 4 fun g1=>?_
 refine go 12 ?_;exact q_v rfl
theorem d3u (I:IMap) (x:Prp) (vs:List Value) (h:Enc.rd I vs x) :
    FnV prog 133 #[.agg vs.toArray] I (.string x.key):=by
 obtain rfl:=h;refine enter func133 call133 rfl ntmps133 rfl fun w0=>?_;refine go 4 fun g1=>?_
 refine go 12 ?_;exact q_v rfl
theorem d0A (I:IMap) (v:Value) (l:List Kind) (hv:RdS I v l) (p:Part) (D:Option Addr) (d:Nat) (hD:RdS I (.slice D p.props.length d) p.props) (hs:SmP p) :
    FnV prog 205 #[.agg #[v],.agg (p.cells (.slice D p.props.length d)).toArray] I (.bool (a5J l p)):=by
 have hDA:RdA I D p.props:=(by obtain⟨_,_,e,h,_⟩:=hD;cases e;exact h);have hDl:p.props.length≤d∧d≤9223372036854775807:=(by obtain⟨_,_,e,h,h1,h2⟩:=hD;cases e;exact⟨h1,h2⟩);refine enter func205 call205 rfl ntmps205 rfl fun w0=>?_;refine go 4 fun g2=>?_
 refine go 2 fun g3=>?_
 refine go 20 ?_;refine a0T (b0h I _ l hv p.kind) rfl rfl fun v15 q15=>?_;obtain⟨vs,rfl,ss,rfl,hsl⟩:=q15;refine go 5 fun g7=>?_
 refine go 1 ?_;refine a0Y _ he rfl rfl rfl rfl rfl (by simp[Kind.cells,hsl.one];exact⟨rfl,rfl⟩) ?_;refine go 4 ?_;refine a1V (I':=I) (L':=[(2,.pointer (some ⟨g2,0,none⟩)),(3,.pointer (some ⟨g3,0,none⟩)),(5,.func (.func 269) #[] #[]),(6,.func (.func 270) #[] #[]),(48,.bool (a4X l p))]) (H':=[.blk g3 85 (p.cells (.slice D p.props.length d)),.blk g2 24 [v]]) ?_ ?_
 ·refine gS 4 20 (fun h20 p20=>?_) fun h20 p20=>?_
  ·refine go 30 ?_;refine a0a ?_;exact a0r ⟨rfl,rfl,rfl,rfl,(bB (by simp only[a4X,h20,bS])),trivial⟩ rfl rfl
  ·refine go 3 ?_;refine a0n rfl rfl h20 (a0y (a3C _ _ hs.1) rfl rfl ?_);refine gS 3 26 (fun h26 p26=>?_) fun h26 p26=>?_
   ·refine go 24 ?_;refine a0a ?_;exact a0r ⟨rfl,rfl,rfl,rfl,(bB (by simp only[a4X,h20,h26,bS])),trivial⟩ rfl rfl
   ·refine gS 5 31 (fun h31 p31=>?_) fun h31 p31=>?_
    ·refine go 19 ?_;refine a0a ?_;exact a0r ⟨rfl,rfl,rfl,rfl,(bB (by simp only[a4X,h20,h26,h31,bS])),trivial⟩ rfl rfl
    ·refine gS 7 38 (fun h38 p38=>?_) fun h38 p38=>?_
     ·refine go 12 ?_;refine a0a ?_;exact a0r ⟨rfl,rfl,rfl,rfl,(bB (by simp only[a4X,h20,h26,h31,h38,bS])),trivial⟩ rfl rfl
     ·refine gS 5 43 (fun h43 p43=>?_) fun h43 p43=>?_
      ·refine go 7 ?_;refine a0a ?_;exact a0r ⟨rfl,rfl,rfl,rfl,(bB (by simp only[a4X,h20,h26,h31,h38,h43,bS])),trivial⟩ rfl rfl
      ·refine go 7 ?_;refine a0a ?_;exact a0r ⟨rfl,rfl,rfl,rfl,(bB (by simp only[a4X,h20,h26,h31,h38,h43,bS])),trivial⟩ rfl rfl
 ·refine gC 0 (fun h48 p48=>?_) fun h48 p48=>?_
  ·refine go 8 ?_;exact q_v (congrArg Value.bool (by simp only[a5J,h48];rfl))
  ·refine go 12 ?_
   refine a0x (α:=Nat) 0 (fun i=>I)
    (fun i=>[(2,.pointer (some ⟨g2,0,none⟩)),(3,.pointer (some ⟨g3,0,none⟩)),(5,.func (.func 269) #[] #[]),(6,.func (.func 270) #[] #[]),(50,.slice D p.props.length d),(51,.int .i64 (p.props.length:Int)),(52,.int .i64 (i:Int))])
    (fun i=>[.blk g3 85 (p.cells (.slice D p.props.length d)),.blk g2 24 [v]])
    (fun i=>i≤p.props.length∧a3v (fun _ q=>a6M q) p.props i=true)
    (fun i=>p.props.length-i) ⟨Nat.zero_le _,rfl⟩ rfl sb rfl ?_
   intro i ⟨hi,hn⟩;refine gC 6 (fun h53 p53=>?_) fun h53 p53=>?_
   ·have hlt:i<p.props.length:=oM;refine go 6 ?_;obtain⟨b54,o54,w54,e54,c54,r54⟩:=RdA.at_ hDA (i:=i) hlt;obtain rfl:=r54;refine go 4 fun g10=>?_
    refine go 9 ?_;refine cV (d5y _ p.props[i] (hs.2 _ (List.getElem_mem hlt))) ?_;refine gC 3 (fun h59 p59=>?_) fun h59 p59=>?_
    ·refine go 12 ?_;exact q_v (congrArg Value.bool (by simp only[a5J,h48,a1g (f:=fun _ q=>a6M q) hlt (by simpa using h59),bS]))
    ·refine go 8 ?_;refine a0a ?_;exact a0w (i+1) ⟨oM,a1r hn hlt (by simpa using h59)⟩ oM rfl sb rfl
   ·have hAll:a3v (fun _ q=>a6M q) p.props p.props.length=true:=(show i=p.props.length from oM)▸hn;refine go 10 ?_;refine cV (b6J _ _ p.props hD _ Prp.key (fun x vs hr=>d5z _ x vs hr)) ?_;refine gS 1 64 (fun h64 p64=>?_) fun h64 p64=>?_
    ·refine go 3 ?_;refine a0z (a0n rfl rfl h64 (a0q rfl (a1R (p.life.km.cells) m0 he rfl rfl rfl) ?_));refine go 1 ?_;refine a0n rfl rfl h64 (a0y (c3V _ p.life.km) rfl rfl ?_);refine gS 2 71 (fun h71 p71=>?_) fun h71 p71=>?_
     ·refine go 3 ?_;refine a0z (a0n rfl rfl h71 (a0q rfl (a1R (p.life.cycles.cells) m0 he rfl rfl rfl) ?_));refine go 1 ?_;refine a0n rfl rfl h71 (a0y (c3V _ p.life.cycles) rfl rfl ?_);refine gS 2 78 (fun h78 p78=>?_) fun h78 p78=>?_
      ·refine go 3 ?_;refine a0z (a0n rfl rfl h78 (a0q rfl (a1R (p.life.damage.cells) m0 he rfl rfl rfl) ?_));refine go 1 ?_;refine a0n rfl rfl h78 (a0y (c3V _ p.life.damage) rfl rfl ?_);refine go 6 ?_;exact q_v (congrArg Value.bool (by simp only[a5J,h48,hAll,h53,h64,h71,h78,bS]))
      ·refine go 11 ?_;exact q_v (congrArg Value.bool (by simp only[a5J,h48,hAll,h53,h64,h71,h78,bS]))
     ·refine go 18 ?_;exact q_v (congrArg Value.bool (by simp only[a5J,h48,hAll,h53,h64,h71,bS]))
    ·refine go 25 ?_;exact q_v (congrArg Value.bool (by simp only[a5J,h48,hAll,h53,h64,bS]))
theorem b7O (p q:ByteArray×ByteArray):eqV prog 9 314 (b1U p) (b1U q)=some (decide (p=q)):=by
 have e:eqV prog 9 314 (b1U p) (b1U q)=some (decide (p.1=q.1)&&(decide (p.2=q.2)&&true)):=by kernel_rfl
 rw[e];obtain⟨a,b⟩:=p;obtain⟨c,d⟩:=q
 simp
theorem d0B (I:IMap) (vc:Value) (c:List Kind) (hvc:RdS I vc c) (hsc:SmC c) (v:Value) (l:List Part) (hv:RdS I v l) (hsf:SmF l) :
    FnV prog 122 #[.agg #[vc],.agg #[v]] I (.bool (a4S c l)):=by
 have hv0:=hv;obtain⟨A,c0,rfl,hA,hc,hm⟩:=hv;refine enter func122 call122 rfl ntmps122 rfl fun w0=>?_;refine go 4 fun g2=>?_
 refine go 2 fun g3=>?_
 refine go 5 ?_;refine a1V (I':=I) (L':=[(2,.pointer (some ⟨g2,0,none⟩)),(3,.pointer (some ⟨g3,0,none⟩)),(26,.bool (b9t c l))]) (H':=[.blk g3 62 [.slice A l.length c0],.blk g2 24 [vc]]) ?_ ?_
 ·refine go 3 ?_;refine cV (a7g _ _ c hvc hsc) ?_;refine gS 2 15 (fun h15 p15=>?_) fun h15 p15=>?_
  ·refine go 13 ?_;exact a0r ⟨rfl,rfl,(bB (by simp only[b9t,h15,bS])),trivial⟩ rfl rfl
  ·refine gS 6 21 (fun h21 p21=>?_) fun h21 p21=>?_
   ·refine go 7 ?_;exact a0r ⟨rfl,rfl,(bB (by simp only[b9t,h15,h21,bS])),trivial⟩ rfl rfl
   ·refine go 3 ?_;refine a0n rfl rfl h21 (a0y (b5a _ _ l hv0 _ Part.name (fun x vs hr=>d6d _ x vs hr)) rfl rfl ?_);refine go 4 ?_;exact a0r ⟨rfl,rfl,(bB (by simp only[b9t,h15,h21,bS])),trivial⟩ rfl rfl
 ·refine gC 0 (fun h26 p26=>?_) fun h26 p26=>?_
  ·refine go 8 ?_;exact q_v (congrArg Value.bool (by simp only[a4S,h26];rfl))
  ·refine go 6 ?_;refine a1X (d6G _ _ l hv0) rfl rfl fun v28 s28 q28=>?_;obtain⟨m28,kvs,rfl,rfl,hIx,_⟩:=q28;refine go 2 fun g5=>?_
   refine go 7 ?_;refine a5i (b1U) he rfl fun r29=>?_;refine go 13 ?_;refine a1y ?_;refine a1y ?_;refine a0u ?_;refine a1y ?_;refine a1y ?_
   refine a0x (α:=Nat) 0 (fun i=>I)
    (fun i=>[(2,.pointer (some ⟨g2,0,none⟩)),(3,.pointer (some ⟨g3,0,none⟩)),(5,.pointer (some ⟨g5,0,none⟩)),(6,.map (some r29)),(31,.slice A l.length c0),(32,.int .i64 (l.length:Int)),(33,.int .i64 (i:Int))])
    (fun i=>[.mp r29 (a1A b1U (a2G a4R (fun _=>.bool true) (a4l (l.take i)))),.mp m28 (a1A Value.string kvs),.blk g5 165 [.slice A l.length c0,.map (some m28)],.blk g3 62 [.slice A l.length c0],.blk g2 24 [vc]])
    (fun i=>i≤l.length∧a3v (a4r c l) l i=true)
    (fun i=>l.length-i) ⟨Nat.zero_le _,rfl⟩ rfl sb rfl ?_
   intro i ⟨hi,hn⟩;refine gC 6 (fun h34 p34=>?_) fun h34 p34=>?_
   ·have hlt:i<l.length:=oM;refine go 6 ?_;obtain⟨b35,o35,w35,e35,c35,r35⟩:=RdA.at_ hA (i:=i) hlt;obtain⟨q35,rfl,B35,d35,rfl,hB35,hd35,hm35⟩:=r35;refine go 4 fun g8=>?_
    refine go 6 ?_;refine a1V (I':=I) (L':=[(2,.pointer (some ⟨g2,0,none⟩)),(3,.pointer (some ⟨g3,0,none⟩)),(5,.pointer (some ⟨g5,0,none⟩)),(6,.map (some r29)),(31,.slice A l.length c0),(32,.int .i64 (l.length:Int)),(33,.int .i64 (i:Int)),(8,.pointer (some ⟨g8,0,none⟩)),(49,.bool (c1k c l[i]))]) (H':=[.blk g8 85 (l[i].cells (.slice B35 l[i].props.length d35)),.mp r29 (a1A b1U (a2G a4R (fun _=>.bool true) (a4l (l.take i)))),.mp m28 (a1A Value.string kvs),.blk g5 165 [.slice A l.length c0,.map (some m28)],.blk g3 62 [.slice A l.length c0],.blk g2 24 [vc]]) ?_ ?_
    ·refine go 4 ?_;refine cV (d0A _ _ c hvc l[i] B35 d35 ⟨_,_,rfl,hB35,hd35,hm35⟩ (hsf _ (List.getElem_mem hlt))) ?_;refine gS 2 41 (fun h41 p41=>?_) fun h41 p41=>?_
     ·refine go 10 ?_;exact a0r ⟨rfl,rfl,rfl,rfl,rfl,rfl,rfl,rfl,(bB (by simp only[c1k,h34,h41,bS])),trivial⟩ rfl rfl
     ·refine go 6 ?_;refine a0z (a0n rfl rfl h41 (a0q rfl (c4J he rfl rfl) ?_));refine go 3 ?_;exact a0r ⟨rfl,rfl,rfl,rfl,rfl,rfl,rfl,rfl,(bB (by simp only[c1k,h34,h41,bS])),trivial⟩ rfl rfl
    ·refine gC 0 (fun h49 p49=>?_) fun h49 p49=>?_
     ·refine go 13 ?_;exact q_v (congrArg Value.bool (by simp only[a4S,a1g hlt (show a4r c l (l.take i) l[i]=false by simp only[a4r,h49];rfl),bS]))
     ·refine gC 10 (fun h52 p52=>?_) fun h52 p52=>?_
      ·refine go 9 ?_;refine a0a ?_;exact a0w (i+1) ⟨oM,a1r hn hlt (by simp only[a4r,h49,h52,bS])⟩ oM rfl sb (by rw[b6Z hlt p52])
      ·refine go 8 ?_;refine a0d ?_;refine a8B (c6e _ _ l hv0 m28 kvs hIx l[i].into) rfl rfl fun v57 q57=>?_;obtain⟨vs,rfl,s57,rfl,hs57⟩:=q57;refine go 5 fun g9=>?_
       refine go 1 ?_;refine a0Y _ he rfl rfl rfl rfl rfl (Enc.one (α:=Part) (I:=I) (x:=(a0e l l[i].into).getD zPart) ⟨s57,rfl,hs57⟩) ?_;refine go 12 fun g11=>?_
       refine go 6 ?_;refine a1V (I':=I) (L':=[(2,.pointer (some ⟨g2,0,none⟩)),(3,.pointer (some ⟨g3,0,none⟩)),(5,.pointer (some ⟨g5,0,none⟩)),(6,.map (some r29)),(31,.slice A l.length c0),(32,.int .i64 (l.length:Int)),(33,.int .i64 (i:Int)),(8,.pointer (some ⟨g8,0,none⟩)),(11,.pointer (some ⟨g11,0,none⟩)),(90,.bool (b4c c l (l.take i) l[i]))]) (H':=[.blk g11 314 [.string l[i].into,.string l[i].slot],.blk g8 85 (l[i].cells (.slice B35 l[i].props.length d35)),.mp r29 (a1A b1U (a2G a4R (fun _=>.bool true) (a4l (l.take i)))),.mp m28 (a1A Value.string kvs),.blk g5 165 [.slice A l.length c0,.map (some m28)],.blk g3 62 [.slice A l.length c0],.blk g2 24 [vc]]) ?_ ?_
       ·refine gS 4 67 (fun h67 p67=>?_) fun h67 p67=>?_
        ·refine go 25 ?_;refine a0b ?_;refine a0a ?_;refine a0V ?_;refine a0V ?_;refine a0V ?_;refine a1y ?_;refine a0V ?_;refine a0V ?_;refine a0V ?_;exact a0r ⟨rfl,rfl,rfl,rfl,rfl,rfl,rfl,rfl,rfl,(bB (by simp only[b4c,h49,h52,h67,bS])),trivial⟩ rfl rfl
        ·refine gS 4 71 (fun h71 p71=>?_) fun h71 p71=>?_
         ·refine go 21 ?_;refine a0b ?_;refine a0a ?_;refine a0V ?_;refine a0V ?_;refine a0V ?_;refine a1y ?_;refine a0V ?_;refine a0V ?_;refine a0V ?_;exact a0r ⟨rfl,rfl,rfl,rfl,rfl,rfl,rfl,rfl,rfl,(bB (by simp only[b4c,h49,h52,h67,h71,bS])),trivial⟩ rfl rfl
         ·refine gS 4 75 (fun h75 p75=>?_) fun h75 p75=>?_
          ·refine go 17 ?_;refine a0b ?_;refine a0a ?_;refine a0V ?_;refine a0V ?_;refine a0V ?_;refine a1y ?_;refine a0V ?_;refine a0V ?_;refine a0V ?_;exact a0r ⟨rfl,rfl,rfl,rfl,rfl,rfl,rfl,rfl,rfl,(bB (by simp only[b4c,h49,h52,h67,h71,h75,bS])),trivial⟩ rfl rfl
          ·refine go 2 ?_;refine a0z (a0n rfl rfl h75 (a0q rfl (c4L m4 (b8f T.sp_314 b7O) he he (a4R l[i]) rfl rfl (a9w a4R _ _)) ?_));refine gS 2 80 (fun h80 p80=>?_) fun h80 p80=>?_
           ·refine go 12 ?_;refine a0b ?_;refine a0a ?_;refine a0V ?_;refine a0V ?_;refine a0V ?_;refine a1y ?_;refine a0V ?_;refine a0V ?_;refine a0V ?_;exact a0r ⟨rfl,rfl,rfl,rfl,rfl,rfl,rfl,rfl,rfl,(bB (by simp only[b4c,h49,h52,h67,h71,h75,h80,bS])),trivial⟩ rfl rfl
           ·refine a0z (a0n rfl rfl h80 (a0q rfl (a2N m7 he rfl rfl) ?_));refine go 7 ?_;refine a0n rfl rfl h80 (a0y (b7z _ _ c hvc ((a0e l l[i].into).getD zPart).kind l[i].slot l[i].kind) rfl rfl ?_);refine go 4 ?_;refine a0b ?_;refine a0a ?_;refine a0V ?_;refine a0V ?_;refine a0V ?_;refine a1y ?_;refine a0V ?_;refine a0V ?_;refine a0V ?_;exact a0r ⟨rfl,rfl,rfl,rfl,rfl,rfl,rfl,rfl,rfl,(bB (by simp only[b4c,h49,h52,h67,h71,h75,h80,bS])),trivial⟩ rfl rfl
       ·refine gC 0 (fun h90 p90=>?_) fun h90 p90=>?_
        ·refine go 13 ?_;exact q_v (congrArg Value.bool (by simp only[a4S,a1g hlt (show a4r c l (l.take i) l[i]=false by simp only[a4r,h52,h90];simp),bS]))
        ·refine go 6 ?_;have h90n:hit a4R (a4l (l.take i)) (a4R l[i])=false:=by revert h90;simp only[b4c];cases hit a4R (a4l (l.take i)) (a4R l[i])<;>simp
         refine a0d ?_;refine a2S (a2G a4R (fun _=>.bool true) (a4l (l.take (i+1)))) (b8f T.sp_314 b7O) he (a4R l[i]) rfl rfl rfl ((b0E a4R (fun _=>.bool true) (a4l (l.take i)) l[i] (a7u h90n)).trans (by rw[b5s hlt p52])) ?_;refine go 8 ?_;refine a0b ?_;refine a0a ?_;refine a0b ?_;refine a0a ?_;exact a0w (i+1) ⟨oM,a1r hn hlt (by simp only[a4r,h49,h90,bS])⟩ oM rfl sb rfl
   ·refine go 12 ?_;have e:i=l.length:=oM;subst e;exact q_v (congrArg Value.bool (by simp only[a4S,h26,hn,bS]))
theorem b4h (I:IMap) (v:Value) (l:List Part) (hv:RdS I v l) (hl:l.length≤1000000) (s:ByteArray) (f:FuncId) (cs:List Value) (nm:Part→ByteArray) (hp:∀x vs,Enc.rd I vs x→FnV prog f ([Value.agg vs.toArray,Value.string s]++cs).toArray I (.int .i64 (a9u (nm x) s))) (hs:Srt nm l) :
    FnV prog 206 #[v,.string s,.func (.func f) #[] cs.toArray] I (.tuple #[.int .i64 (a6y nm l s:Nat),.bool (atF nm l s)]):=by
 obtain⟨A,c0,rfl,hA,hc,hm⟩:=hv;refine enter func206 call206 rfl ntmps206 rfl fun w0=>?_;refine go 22 ?_
 refine a0B ((0:Nat)) (l.length) (fun i j=>I)
  (fun i j=>[(0,.slice A l.length c0),(1,.string s),(2,.func (.func f) #[] cs.toArray),(8,.int .i64 (l.length:Int)),(9,.int .i64 (i:Int)),(10,.int .i64 (j:Int))])
  (fun i j=>[])
  (fun i j=>i≤j∧j≤l.length∧(∀q x,q<i→l[q]? = some x→sLt (nm x) s=true)∧(∀q x,j≤q→l[q]? = some x→sLt (nm x) s=false))
  (fun i j=>j-i) ⟨Nat.zero_le _,Nat.le_refl _,fun q x h=>absurd h (Nat.not_lt_zero q),fun q x h hx=>by rw[List.getElem?_eq_none h]at hx;cases hx⟩ rfl sb rfl ?_
 intro i j ⟨hij,hj,hlo,hhi⟩;refine gC 8 (fun h17 p17=>?_) fun h17 p17=>?_
 ·have hlt:(i+j) / 2<l.length:=oM;refine go 8 ?_;refine o_v rfl (a2b he he rfl (m:=(i:Int)+(j:Int)) (wrap_u64 _ oM oM)) ?_;refine o_v rfl (a6P rfl (by decide)) ?_;refine o_v rfl (a2b he he rfl (m:=(((i+j) / 2:Nat):Int)) (by rw[IntKind.wrap_i64];omega)) ?_;refine go 8 ?_;obtain⟨b27,o27,w27,e27,c27,r27⟩:=RdA.at_ hA (i:=(i+j) / 2) hlt;refine o_v rfl (a0l he rfl rfl e27 ((i+j) / 2) oM hlt) ?_;refine o_v rfl (a0S he rfl c27 (Enc.len r27)) ?_;refine go 2 ?_;refine cV (hp _ _ r27) ?_;refine gC 3 (fun h31 p31=>?_) fun h31 p31=>?_
  ·refine go 7 ?_;exact a0o ((i+j) / 2+1) (j) ⟨oM,hj,d3C hs hlt (a6n.1 p31),hhi⟩ oM rfl sb rfl
  ·refine go 6 ?_;exact a0o (i) ((i+j) / 2) ⟨oM,oM,hlo,d3B hs hlt (by simpa[a6n]using p31)⟩ oM rfl sb rfl
 ·have hpos:a6y nm l s=i:=b8J oM hlo (fun q x hq hx=>hhi q x oM hx);refine gS 12 39 (fun h39 p39=>?_) fun h39 p39=>?_
  ·have hlt:i<l.length:=oM;refine go 3 ?_;obtain⟨b43,o43,w43,e43,c43,r43⟩:=RdA.at_ hA (i:=i) hlt;refine go 1 ?_;refine a0z (a0n rfl rfl h39 (a0q rfl (a0S he rfl c43 (Enc.len r43)) ?_));refine go 2 ?_;refine a0n rfl rfl h39 (a0y (hp _ _ r43) rfl rfl ?_);refine go 8 ?_;exact q_v (by rw[hpos,d3z hpos hlt];simp only[a7j])
  ·refine go 15 ?_;exact q_v (by rw[hpos,c9K hpos oM])
theorem c3P (I:IMap) (x:Part) (vs:List Value) (h:Enc.rd I vs x) (s:ByteArray) (f:FuncId) (nm:Part→ByteArray) (hp:FnV prog f #[.agg vs.toArray] I (.string (nm x))) (g:Nat) (hg:ICells I g 0 [.func (.func f) #[] #[]]) :
    FnV prog 207 #[.agg vs.toArray,.string s,.pointer (some ⟨g,0,none⟩)] I (.int .i64 (a9u (nm x) s)):=by
 have hl:=Enc.len h;refine enter func207 call207 rfl ntmps207 rfl fun w0=>?_;refine go 4 fun g3=>?_
 refine go 5 ?_;refine o_v rfl (a0v he rfl (hg 0 _ rfl)) ?_;refine o_v rfl (a2N m0 he rfl hl) ?_;refine go 1 ?_;refine cV (hp) ?_;refine go 2 ?_;refine cV (a3Q _ _ _) ?_;refine go 5 ?_;exact q_v rfl
theorem b5S (I:IMap) (v:Value) (l:List Prp) (hv:RdS I v l) (hl:l.length≤1000000) (s:ByteArray) (f:FuncId) (cs:List Value) (nm:Prp→ByteArray) (hp:∀x vs,Enc.rd I vs x→FnV prog f ([Value.agg vs.toArray,Value.string s]++cs).toArray I (.int .i64 (a9u (nm x) s))) (hs:Srt nm l) :
    FnV prog 210 #[v,.string s,.func (.func f) #[] cs.toArray] I (.tuple #[.int .i64 (a6y nm l s:Nat),.bool (atF nm l s)]):=by
 obtain⟨A,c0,rfl,hA,hc,hm⟩:=hv;refine enter func210 call210 rfl ntmps210 rfl fun w0=>?_;refine go 22 ?_
 refine a0B ((0:Nat)) (l.length) (fun i j=>I)
  (fun i j=>[(0,.slice A l.length c0),(1,.string s),(2,.func (.func f) #[] cs.toArray),(8,.int .i64 (l.length:Int)),(9,.int .i64 (i:Int)),(10,.int .i64 (j:Int))])
  (fun i j=>[])
  (fun i j=>i≤j∧j≤l.length∧(∀q x,q<i→l[q]? = some x→sLt (nm x) s=true)∧(∀q x,j≤q→l[q]? = some x→sLt (nm x) s=false))
  (fun i j=>j-i) ⟨Nat.zero_le _,Nat.le_refl _,fun q x h=>absurd h (Nat.not_lt_zero q),fun q x h hx=>by rw[List.getElem?_eq_none h]at hx;cases hx⟩ rfl sb rfl ?_
 intro i j ⟨hij,hj,hlo,hhi⟩;refine gC 8 (fun h17 p17=>?_) fun h17 p17=>?_
 ·have hlt:(i+j) / 2<l.length:=oM;refine go 8 ?_;refine o_v rfl (a2b he he rfl (m:=(i:Int)+(j:Int)) (wrap_u64 _ oM oM)) ?_;refine o_v rfl (a6P rfl (by decide)) ?_;refine o_v rfl (a2b he he rfl (m:=(((i+j) / 2:Nat):Int)) (by rw[IntKind.wrap_i64];omega)) ?_;refine go 8 ?_;obtain⟨b27,o27,w27,e27,c27,r27⟩:=RdA.at_ hA (i:=(i+j) / 2) hlt;refine o_v rfl (a0l he rfl rfl e27 ((i+j) / 2) oM hlt) ?_;refine o_v rfl (a0S he rfl c27 (Enc.len r27)) ?_;refine go 2 ?_;refine cV (hp _ _ r27) ?_;refine gC 3 (fun h31 p31=>?_) fun h31 p31=>?_
  ·refine go 7 ?_;exact a0o ((i+j) / 2+1) (j) ⟨oM,hj,d3C hs hlt (a6n.1 p31),hhi⟩ oM rfl sb rfl
  ·refine go 6 ?_;exact a0o (i) ((i+j) / 2) ⟨oM,oM,hlo,d3B hs hlt (by simpa[a6n]using p31)⟩ oM rfl sb rfl
 ·have hpos:a6y nm l s=i:=b8J oM hlo (fun q x hq hx=>hhi q x oM hx);refine gS 12 39 (fun h39 p39=>?_) fun h39 p39=>?_
  ·have hlt:i<l.length:=oM;refine go 3 ?_;obtain⟨b43,o43,w43,e43,c43,r43⟩:=RdA.at_ hA (i:=i) hlt;refine go 1 ?_;refine a0z (a0n rfl rfl h39 (a0q rfl (a0S he rfl c43 (Enc.len r43)) ?_));refine go 2 ?_;refine a0n rfl rfl h39 (a0y (hp _ _ r43) rfl rfl ?_);refine go 8 ?_;exact q_v (by rw[hpos,d3z hpos hlt];simp only[a7j])
  ·refine go 15 ?_;exact q_v (by rw[hpos,c9K hpos oM])
theorem c7r (I:IMap) (x:Prp) (vs:List Value) (h:Enc.rd I vs x) (s:ByteArray) (f:FuncId) (nm:Prp→ByteArray) (hp:FnV prog f #[.agg vs.toArray] I (.string (nm x))) (g:Nat) (hg:ICells I g 0 [.func (.func f) #[] #[]]) :
    FnV prog 211 #[.agg vs.toArray,.string s,.pointer (some ⟨g,0,none⟩)] I (.int .i64 (a9u (nm x) s)):=by
 have hl:=Enc.len h;refine enter func211 call211 rfl ntmps211 rfl fun w0=>?_;refine go 4 fun g3=>?_
 refine go 5 ?_;refine o_v rfl (a0v he rfl (hg 0 _ rfl)) ?_;refine o_v rfl (a2N m0 he rfl hl) ?_;refine go 1 ?_;refine cV (hp) ?_;refine go 2 ?_;refine cV (a3Q _ _ _) ?_;refine go 5 ?_;exact q_v rfl
theorem b1R (I:IMap) (v:Value) (l:List Part) (hv:RdS I v l) (hl:l.length≤1000000) :
    FnX prog 59 #[v] I [] (fun u r=>∃xss,r = .row u 85 14 l.length xss.flatten∧FlatC I xss l):=by
 have hv0:=hv;obtain⟨A,c0,rfl,hA,hc,hm⟩:=hv;refine enter func59 call59 rfl ntmps59 rfl fun w0=>?_;refine go 9 ?_;refine o_v rfl (a9K he rfl) ?_;refine gC 2 (fun h4 p4=>?_) fun h4 p4=>?_
 ·obtain rfl:l=[]:=List.eq_nil_of_length_eq_zero (by rcases Nat.eq_zero_or_pos l.length with h|h;exact h;obtain⟨_,_,e,_⟩:=hA h;subst e;cases h4);refine a0E 85 14 ?_;refine go 8 ?_;exact q_x ⟨[],rfl,.nil⟩
 ·refine go 6 fun v5=>?_
  refine go 2 ?_;refine a2q (hv0) rfl he he rfl rfl rfl rfl oM oM rfl fun v7 x7 f7=>?_;refine go 5 ?_;exact q_x (by obtain⟨xss,rfl,hx⟩:=FlatC.of f7;exact⟨xss,by rw[Nat.zero_add];rfl,hx⟩)
theorem c1B (I:IMap) (v:Value) (l:List Prp) (hv:RdS I v l) (hl:l.length≤1000000) :
    FnX prog 212 #[v] I [] (fun u r=>∃xss,r = .row u 234 2 l.length xss.flatten∧FlatC I xss l):=by
 have hv0:=hv;obtain⟨A,c0,rfl,hA,hc,hm⟩:=hv;refine enter func212 call212 rfl ntmps212 rfl fun w0=>?_;refine go 9 ?_;refine o_v rfl (a9K he rfl) ?_;refine gC 2 (fun h4 p4=>?_) fun h4 p4=>?_
 ·obtain rfl:l=[]:=List.eq_nil_of_length_eq_zero (by rcases Nat.eq_zero_or_pos l.length with h|h;exact h;obtain⟨_,_,e,_⟩:=hA h;subst e;cases h4);refine a0E 234 2 ?_;refine go 8 ?_;exact q_x ⟨[],rfl,.nil⟩
 ·refine go 6 fun v5=>?_
  refine go 2 ?_;refine a2q (hv0) rfl he he rfl rfl rfl rfl oM oM rfl fun v7 x7 f7=>?_;refine go 5 ?_;exact q_x (by obtain⟨xss,rfl,hx⟩:=FlatC.of f7;exact⟨xss,by rw[Nat.zero_add];rfl,hx⟩)
theorem b4k (I:IMap) (v:Value) (l:List Evt) (hv:RdS I v l) (hl:l.length≤1000000) :
    FnX prog 54 #[v] I [] (fun u r=>∃xss,r = .row u 130 14 l.length xss.flatten∧FlatC I xss l):=by
 have hv0:=hv;obtain⟨A,c0,rfl,hA,hc,hm⟩:=hv;refine enter func54 call54 rfl ntmps54 rfl fun w0=>?_;refine go 9 ?_;refine o_v rfl (a9K he rfl) ?_;refine gC 2 (fun h4 p4=>?_) fun h4 p4=>?_
 ·obtain rfl:l=[]:=List.eq_nil_of_length_eq_zero (by rcases Nat.eq_zero_or_pos l.length with h|h;exact h;obtain⟨_,_,e,_⟩:=hA h;subst e;cases h4);refine a0E 130 14 ?_;refine go 8 ?_;exact q_x ⟨[],rfl,.nil⟩
 ·refine go 6 fun v5=>?_
  refine go 2 ?_;refine a2q (hv0) rfl he he rfl rfl rfl rfl oM oM rfl fun v7 x7 f7=>?_;refine go 5 ?_;exact q_x (by obtain⟨xss,rfl,hx⟩:=FlatC.of f7;exact⟨xss,by rw[Nat.zero_add];rfl,hx⟩)
theorem a8u (args:Array Value) (w:World):(callFunc 273 args).run prog w=((Extern.SlicesOverlaps.overlaps #[60,60] #[4] args).run prog w).andThen fun v w'=>.ok (.value v) w':=by
 have h1:Extern.findNext Tryz.f273=none:=by kernel_rfl
 have h2:Extern.find Tryz.f273=some (Extern.SlicesOverlaps.overlaps #[60,60] #[4]):=by kernel_rfl
 have h3 : (Tryz.f273.name == "runtime.NumGoroutine") = false := by kernel_rfl
 have h4:Tryz.f273.body.isNone=true:=rfl
 simp only[callFunc,Sem.run_bind,run_program,Result.andThen_ok,func273,h3,h4,h1,h2]
 simp
theorem b3D (I:IMap) (b g la ca lb cb o:Nat) (c:List Value) (cs:List Value) (tt:Nat) (B:Option Addr) (hB:B=some ⟨g,o,none⟩) (hb:I b=some (.cells c.toArray tt (0,0))) (hcs:cs.length≠0) :
  FnK prog 273 #[.slice (some ⟨b,0,none⟩) la ca,.slice B lb cb] I (.blk g 85 cs) (fun u=>u = .bool false):=by
 subst hB;refine⟨fun w m=>?_⟩;unfold After;have hg:w.heap[g]? = some (.cells cs.toArray 85 (0,0)):=m.blk;have hbw:=m.con b _ hb
 have hne:b≠g:=by
  rintro rfl;have:=(m.priv _ (List.mem_cons_self ..) b rfl).1;rw[hb]at this;cases this
 rw[a8u,Lib.run_overlaps_apart (P:=prog) w 60 4 85 he 14 (fun w=>(a1a he w).2) ⟨b,0,none⟩ ⟨g,o,none⟩ la ca lb cb hne tt 85 c.length cs.length (by simp[World.shape?,hbw]) (by simp[World.shape?,hg]) hcs (by simp[World.frozen?,hbw]) (by simp[World.frozen?,hbw])];exact⟨_,I,[_],rfl,m,rfl,rfl,rfl⟩
theorem b1F (I:IMap) (y:Value) (x:Part) (hy:RdS I y [x]) :
    FnX prog 208 #[.slice none 0 0,.int .i64 0,y] I [] (fun u r=>∃zss,r = .row u 85 14 1 zss.flatten∧FlatC I zss [x]):=by
 have hy0:=hy;obtain⟨Y,yc,rfl,hA,hc,hm⟩:=hy;refine enter func208 call208 rfl ntmps208 rfl fun w0=>?_;refine a0E 85 14 ?_;refine go 9 ?_;refine o_v rfl (a0L he rfl rfl 0 rfl (Nat.le_refl _)) ?_;refine go 40 ?_;refine a2q (hy0) rfl he he rfl rfl rfl rfl (by simp) (by simp) rfl fun v25 x25 f25=>?_;refine go 6 ?_;exact q_x (by obtain⟨xss,rfl,hx⟩:=FlatC.of f25;exact⟨xss,rfl,hx⟩)
theorem b1E (I:IMap) (l:List Part) (xss rest:List (List Value)) (g cap i b yc:Nat) (hx:FlatC I xss l) (hR:Uk 14 rest) (hcap:l.length+rest.length=cap) (hmax:cap≤maxLen) (hl:l.length≤1000000) (hi:i≤l.length) (x:Part) (c c2:List Value) (hb:I b=some (.cells (c++c2).toArray 85 (0,0))) (hc:Enc.rd I c x) (hyc:1≤yc) (hyc2:yc≤9223372036854775807) :
    FnX prog 208 #[.slice (some ⟨g,0,none⟩) l.length cap,.int .i64 (i:Nat),.slice (some ⟨b,0,none⟩) 1 yc] I [(.blk g 85 (xss++rest).flatten)] (fun u r=>∃zss,r = .row u 85 14 (l.length+1) zss.flatten∧FlatC I zss (l.take i++x::l.drop i)):=by
 have hU:Uk 14 xss:=hx.uk;have hlen:=hx.len;have hV1:Uk 14 [c]:=(fun d hd=>by rw[List.mem_singleton.1 hd];exact Enc.len hc);have hcI:ICells I b 0 c:=(fun j u hu=>⟨_,_,_,hb,by rw[Nat.zero_add];simpa using (List.getElem?_append_left (List.getElem?_eq_some_iff.1 hu).1).trans hu⟩);have hY:RdS I (.slice (some ⟨b,0,none⟩) 1 yc) [x]:=⟨_,yc,rfl,fun _=>⟨b,0,rfl,fun q z hq=>by cases q with|zero=>(cases hq;exact⟨c,by simpa using hcI,hc⟩)|succ q=>simp at hq⟩,hyc,hyc2⟩;refine enter func208 call208 rfl ntmps208 rfl fun w0=>?_;refine go 9 ?_;refine o_v rfl (a0L he rfl rfl i rfl hi) ?_;refine gC 34 (fun h22 p22=>?_) fun h22 p22=>?_
 ·obtain rfl:i=l.length:=oM;refine go 5 ?_;refine a2e hU hR hlen hcap hmax ?_;refine a2q (hY) rfl he he rfl rfl rfl rfl (by simp;omega) (by simp;omega) rfl fun v25 x25 f25=>?_;refine go 6 ?_;exact q_x (by obtain⟨zss,rfl,hz⟩:=FlatC.of f25;exact⟨xss++zss,by rw[List.flatten_append];rfl,by rw[List.take_length,List.drop_length];exact hx.append hz⟩)
 ·refine go 9 ?_;refine o_v rfl (c8u he rfl) ?_;refine gC 3 (fun h31 p31=>?_) fun h31 p31=>?_
  ·refine go 4 ?_;refine o_v rfl (a2F he rfl rfl i rfl oM) ?_;refine go 4 ?_;refine o_v rfl (OV.cast (u:=.int .i64 ((l.length+1-i:Nat):Int)) (a1j rfl rfl ⟨oM,oM⟩) (congrArg (Value.int .i64) oM)) ?_;refine go 1 ?_;refine a9b (xss.take i) he he he rfl rfl rfl rfl (hU.append hR) (by rw[List.length_take];omega) (hU.take i) (fun _=>⟨rfl,by rw[List.take_append_of_le_length oM]⟩) oM oM oM (by unfold maxLen;omega) rfl fun g40 r40 hr40=>?_;refine go 7 ?_;refine o_v rfl (a0L he rfl rfl i rfl oM) ?_;refine go 2 ?_;have hU1:Uk 14 (xss.take i++List.replicate (l.length+1-i+r40) _):=(hU.take i).append (Uk.rep (c:=[.string ⟨#[]⟩,.string ⟨#[]⟩,.string ⟨#[]⟩,.string ⟨#[]⟩,.int .i64 0,.int .i64 0,.bool false,.slice none 0 0,.int .i64 0,.int .i64 0,.int .i64 0,.int .i64 0,.int .i64 0,.int .i64 0]) rfl _);refine a6L [c] i he rfl rfl (by simp;omega) hU1 hV1 (by simpa using Enc.one hc) (fun _=>a1z oM) (fun _=>⟨b,0,rfl,fun w mm j u hu=>(hcI j u (by simpa using hu)).at_ mm.con⟩) (by simp;omega) rfl ?_;refine go 3 ?_;refine ds1 ?_;refine dG 0 4 ?_;refine a0F 4 rfl rfl (by kernel_rfl) rfl (.cons _ (.refl _)) rfl (a0L he rfl rfl (i+1) oM oM) ?_;refine dG 5 2 ?_;refine a0F 7 rfl rfl (by kernel_rfl) rfl (.cons _ (.refl _)) rfl (a0L he rfl rfl i rfl oM) ?_;refine dH 8 0 ?_;have hU2:=((hU1.take i).append (hV1.append (hU1.drop (i+[c].length))));refine a6L (xss.drop i) (i+1) he rfl rfl (by simp;omega) hU2 (hU.drop i) (hx.drop i).one (fun _=>a1z oM) (fun h=>⟨g,i * 14,a1z (by simp at h;omega),fun w mm j u hu=>b3K (o:=i) (m:=l.length-i) m1 (hU.append hR) w mm j u (by rw[List.drop_append_of_le_length oM,List.take_append_of_le_length (by simp;omega),List.take_of_length_le (by simp;omega)];exact hu)⟩) (by simp;omega) rfl ?_;refine go 12 ?_;refine a0b ?_;refine a0a ?_;refine a4C (b8d hlen hi oM) ?_;refine a2e (m:=i+(l.length+1-i)) (cap:=i+(l.length+1-i)+r40) ((hU.take i).append (fun d hd=>by rcases List.mem_cons.1 hd with rfl|hd;exact Enc.len hc;exact hU.drop i d hd)) (Uk.rep rfl _) (by simp<;>omega) (by simp<;>omega) oM ?_;exact q_x (by exact⟨_,by congr 1<;>omega,(hx.take i).append (.cons hc (hx.drop i))⟩)
  ·have hr1:0<rest.length:=oM;refine go 8 ?_;refine o_v rfl (a2F he rfl rfl (l.length+1) oM oM) ?_;refine go 11 ?_;refine o_v rfl (a0L he rfl rfl (i+1) oM oM) ?_;refine go 1 ?_;refine a8B (b3D I b g 1 yc _ _ _ (c++c2) _ 85 _ (a1z (k:=14) (show i+1<cap from oM)) hb (by rw[a2O (hU.append hR),List.length_append];omega)) rfl rfl fun v67 q67=>?_;obtain rfl:=q67;refine go 5 ?_;refine ds1 ?_;refine dG 0 4 ?_;refine a0F 4 rfl rfl (by kernel_rfl) rfl (.cons _ .slnil) rfl (a0L he rfl rfl (i+1) oM oM) ?_;refine dG 5 2 ?_;refine a0F 7 rfl rfl (by kernel_rfl) rfl (.cons _ .slnil) rfl (a0L he rfl rfl i rfl oM) ?_;refine dH 8 0 ?_;refine a6L (((xss++rest).drop i).take (l.length-i)) (i+1) he rfl rfl (by simp;omega) (hU.append hR) (((hU.append hR).drop i).take _) (by rw[List.drop_append_of_le_length oM,List.take_append_of_le_length (by simp;omega)];exact ((hx.drop i).take _).one) (fun _=>a1z oM) (fun h=>⟨g,i * 14,a1z oM,fun w mm j u hu=>b3K (o:=i) m0 (hU.append hR) w mm j u hu⟩) (by simp;omega) rfl ?_;refine go 7 ?_;refine o_v rfl (a0L he rfl rfl i rfl oM) ?_;refine go 2 ?_;have hU3:=(((hU.append hR).take (i+1)).append ((((hU.append hR).drop i).take (l.length-i)).append ((hU.append hR).drop (i+1+(((xss++rest).drop i).take (l.length-i)).length))));refine a6L [c] i he rfl rfl (by simp;omega) hU3 hV1 (by simpa using Enc.one hc) (fun _=>a1z oM) (fun _=>⟨b,0,rfl,fun w mm j u hu=>(hcI j u (by simpa using hu)).at_ mm.con⟩) (by simp;omega) rfl ?_;refine go 11 ?_;refine a4C (b4G hlen hi hr1) ?_;refine a2e (m:=l.length+1) (cap:=cap) ((hU.take i).append (fun d hd=>by rcases List.mem_cons.1 hd with rfl|hd;exact Enc.len hc;exact hU.drop i d hd)) (hR.drop 1) (by simp<;>omega) (by simp<;>omega) hmax ?_;exact q_x (by exact⟨_,by congr 1<;>omega,(hx.take i).append (.cons hc (hx.drop i))⟩)
theorem a9k (args:Array Value) (w:World):(callFunc 275 args).run prog w=((Extern.SlicesOverlaps.overlaps #[79,79] #[4] args).run prog w).andThen fun v w'=>.ok (.value v) w':=by
 have h1:Extern.findNext Tryz.f275=none:=by kernel_rfl
 have h2:Extern.find Tryz.f275=some (Extern.SlicesOverlaps.overlaps #[79,79] #[4]):=by kernel_rfl
 have h3 : (Tryz.f275.name == "runtime.NumGoroutine") = false := by kernel_rfl
 have h4:Tryz.f275.body.isNone=true:=rfl
 simp only[callFunc,Sem.run_bind,run_program,Result.andThen_ok,func275,h3,h4,h1,h2]
 simp
theorem b5b (I:IMap) (b g la ca lb cb o:Nat) (c:List Value) (cs:List Value) (tt:Nat) (B:Option Addr) (hB:B=some ⟨g,o,none⟩) (hb:I b=some (.cells c.toArray tt (0,0))) (hcs:cs.length≠0) :
  FnK prog 275 #[.slice (some ⟨b,0,none⟩) la ca,.slice B lb cb] I (.blk g 234 cs) (fun u=>u = .bool false):=by
 subst hB;refine⟨fun w m=>?_⟩;unfold After;have hg:w.heap[g]? = some (.cells cs.toArray 234 (0,0)):=m.blk;have hbw:=m.con b _ hb
 have hne:b≠g:=by
  rintro rfl;have:=(m.priv _ (List.mem_cons_self ..) b rfl).1;rw[hb]at this;cases this
 rw[a9k,Lib.run_overlaps_apart (P:=prog) w 79 4 234 he 2 (fun w=>(a1a he w).2) ⟨b,0,none⟩ ⟨g,o,none⟩ la ca lb cb hne tt 234 c.length cs.length (by simp[World.shape?,hbw]) (by simp[World.shape?,hg]) hcs (by simp[World.frozen?,hbw]) (by simp[World.frozen?,hbw])];exact⟨_,I,[_],rfl,m,rfl,rfl,rfl⟩
theorem b3l (I:IMap) (y:Value) (x:Prp) (hy:RdS I y [x]) :
    FnX prog 213 #[.slice none 0 0,.int .i64 0,y] I [] (fun u r=>∃zss,r = .row u 234 2 1 zss.flatten∧FlatC I zss [x]):=by
 have hy0:=hy;obtain⟨Y,yc,rfl,hA,hc,hm⟩:=hy;refine enter func213 call213 rfl ntmps213 rfl fun w0=>?_;refine a0E 234 2 ?_;refine go 9 ?_;refine o_v rfl (a0L he rfl rfl 0 rfl (Nat.le_refl _)) ?_;refine go 40 ?_;refine a2q (hy0) rfl he he rfl rfl rfl rfl (by simp) (by simp) rfl fun v25 x25 f25=>?_;refine go 6 ?_;exact q_x (by obtain⟨xss,rfl,hx⟩:=FlatC.of f25;exact⟨xss,rfl,hx⟩)
theorem b3k (I:IMap) (l:List Prp) (xss rest:List (List Value)) (g cap i b yc:Nat) (hx:FlatC I xss l) (hR:Uk 2 rest) (hcap:l.length+rest.length=cap) (hmax:cap≤maxLen) (hl:l.length≤1000000) (hi:i≤l.length) (x:Prp) (c c2:List Value) (hb:I b=some (.cells (c++c2).toArray 234 (0,0))) (hc:Enc.rd I c x) (hyc:1≤yc) (hyc2:yc≤9223372036854775807) :
    FnX prog 213 #[.slice (some ⟨g,0,none⟩) l.length cap,.int .i64 (i:Nat),.slice (some ⟨b,0,none⟩) 1 yc] I [(.blk g 234 (xss++rest).flatten)] (fun u r=>∃zss,r = .row u 234 2 (l.length+1) zss.flatten∧FlatC I zss (l.take i++x::l.drop i)):=by
 have hU:Uk 2 xss:=hx.uk;have hlen:=hx.len;have hV1:Uk 2 [c]:=(fun d hd=>by rw[List.mem_singleton.1 hd];exact Enc.len hc);have hcI:ICells I b 0 c:=(fun j u hu=>⟨_,_,_,hb,by rw[Nat.zero_add];simpa using (List.getElem?_append_left (List.getElem?_eq_some_iff.1 hu).1).trans hu⟩);have hY:RdS I (.slice (some ⟨b,0,none⟩) 1 yc) [x]:=⟨_,yc,rfl,fun _=>⟨b,0,rfl,fun q z hq=>by cases q with|zero=>(cases hq;exact⟨c,by simpa using hcI,hc⟩)|succ q=>simp at hq⟩,hyc,hyc2⟩;refine enter func213 call213 rfl ntmps213 rfl fun w0=>?_;refine go 9 ?_;refine o_v rfl (a0L he rfl rfl i rfl hi) ?_;refine gC 34 (fun h22 p22=>?_) fun h22 p22=>?_
 ·obtain rfl:i=l.length:=oM;refine go 5 ?_;refine a2e hU hR hlen hcap hmax ?_;refine a2q (hY) rfl he he rfl rfl rfl rfl (by simp;omega) (by simp;omega) rfl fun v25 x25 f25=>?_;refine go 6 ?_;exact q_x (by obtain⟨zss,rfl,hz⟩:=FlatC.of f25;exact⟨xss++zss,by rw[List.flatten_append];rfl,by rw[List.take_length,List.drop_length];exact hx.append hz⟩)
 ·refine go 9 ?_;refine o_v rfl (c8u he rfl) ?_;refine gC 3 (fun h31 p31=>?_) fun h31 p31=>?_
  ·refine go 4 ?_;refine o_v rfl (a2F he rfl rfl i rfl oM) ?_;refine go 4 ?_;refine o_v rfl (OV.cast (u:=.int .i64 ((l.length+1-i:Nat):Int)) (a1j rfl rfl ⟨oM,oM⟩) (congrArg (Value.int .i64) oM)) ?_;refine go 1 ?_;refine a9b (xss.take i) he he he rfl rfl rfl rfl (hU.append hR) (by rw[List.length_take];omega) (hU.take i) (fun _=>⟨rfl,by rw[List.take_append_of_le_length oM]⟩) oM oM oM (by unfold maxLen;omega) rfl fun g40 r40 hr40=>?_;refine go 7 ?_;refine o_v rfl (a0L he rfl rfl i rfl oM) ?_;refine go 2 ?_;have hU1:Uk 2 (xss.take i++List.replicate (l.length+1-i+r40) _):=(hU.take i).append (Uk.rep (c:=[.string ⟨#[]⟩,.string ⟨#[]⟩]) rfl _);refine a6L [c] i he rfl rfl (by simp;omega) hU1 hV1 (by simpa using Enc.one hc) (fun _=>a1z oM) (fun _=>⟨b,0,rfl,fun w mm j u hu=>(hcI j u (by simpa using hu)).at_ mm.con⟩) (by simp;omega) rfl ?_;refine go 3 ?_;refine ds1 ?_;refine dG 0 4 ?_;refine a0F 4 rfl rfl (by kernel_rfl) rfl (.cons _ (.refl _)) rfl (a0L he rfl rfl (i+1) oM oM) ?_;refine dG 5 2 ?_;refine a0F 7 rfl rfl (by kernel_rfl) rfl (.cons _ (.refl _)) rfl (a0L he rfl rfl i rfl oM) ?_;refine dH 8 0 ?_;have hU2:=((hU1.take i).append (hV1.append (hU1.drop (i+[c].length))));refine a6L (xss.drop i) (i+1) he rfl rfl (by simp;omega) hU2 (hU.drop i) (hx.drop i).one (fun _=>a1z oM) (fun h=>⟨g,i * 2,a1z (by simp at h;omega),fun w mm j u hu=>b3K (o:=i) (m:=l.length-i) m1 (hU.append hR) w mm j u (by rw[List.drop_append_of_le_length oM,List.take_append_of_le_length (by simp;omega),List.take_of_length_le (by simp;omega)];exact hu)⟩) (by simp;omega) rfl ?_;refine go 12 ?_;refine a0b ?_;refine a0a ?_;refine a4C (b8d hlen hi oM) ?_;refine a2e (m:=i+(l.length+1-i)) (cap:=i+(l.length+1-i)+r40) ((hU.take i).append (fun d hd=>by rcases List.mem_cons.1 hd with rfl|hd;exact Enc.len hc;exact hU.drop i d hd)) (Uk.rep rfl _) (by simp<;>omega) (by simp<;>omega) oM ?_;exact q_x (by exact⟨_,by congr 1<;>omega,(hx.take i).append (.cons hc (hx.drop i))⟩)
  ·have hr1:0<rest.length:=oM;refine go 8 ?_;refine o_v rfl (a2F he rfl rfl (l.length+1) oM oM) ?_;refine go 11 ?_;refine o_v rfl (a0L he rfl rfl (i+1) oM oM) ?_;refine go 1 ?_;refine a8B (b5b I b g 1 yc _ _ _ (c++c2) _ 234 _ (a1z (k:=2) (show i+1<cap from oM)) hb (by rw[a2O (hU.append hR),List.length_append];omega)) rfl rfl fun v67 q67=>?_;obtain rfl:=q67;refine go 5 ?_;refine ds1 ?_;refine dG 0 4 ?_;refine a0F 4 rfl rfl (by kernel_rfl) rfl (.cons _ .slnil) rfl (a0L he rfl rfl (i+1) oM oM) ?_;refine dG 5 2 ?_;refine a0F 7 rfl rfl (by kernel_rfl) rfl (.cons _ .slnil) rfl (a0L he rfl rfl i rfl oM) ?_;refine dH 8 0 ?_;refine a6L (((xss++rest).drop i).take (l.length-i)) (i+1) he rfl rfl (by simp;omega) (hU.append hR) (((hU.append hR).drop i).take _) (by rw[List.drop_append_of_le_length oM,List.take_append_of_le_length (by simp;omega)];exact ((hx.drop i).take _).one) (fun _=>a1z oM) (fun h=>⟨g,i * 2,a1z oM,fun w mm j u hu=>b3K (o:=i) m0 (hU.append hR) w mm j u hu⟩) (by simp;omega) rfl ?_;refine go 7 ?_;refine o_v rfl (a0L he rfl rfl i rfl oM) ?_;refine go 2 ?_;have hU3:=(((hU.append hR).take (i+1)).append ((((hU.append hR).drop i).take (l.length-i)).append ((hU.append hR).drop (i+1+(((xss++rest).drop i).take (l.length-i)).length))));refine a6L [c] i he rfl rfl (by simp;omega) hU3 hV1 (by simpa using Enc.one hc) (fun _=>a1z oM) (fun _=>⟨b,0,rfl,fun w mm j u hu=>(hcI j u (by simpa using hu)).at_ mm.con⟩) (by simp;omega) rfl ?_;refine go 11 ?_;refine a4C (b4G hlen hi hr1) ?_;refine a2e (m:=l.length+1) (cap:=cap) ((hU.take i).append (fun d hd=>by rcases List.mem_cons.1 hd with rfl|hd;exact Enc.len hc;exact hU.drop i d hd)) (hR.drop 1) (by simp<;>omega) (by simp<;>omega) hmax ?_;exact q_x (by exact⟨_,by congr 1<;>omega,(hx.take i).append (.cons hc (hx.drop i))⟩)
theorem b6p (I:IMap) (v:Value) (l:List Part) (xss:List (List Value)) (i b yc:Nat) (hx:FlatC I xss l) (hl:l.length≤1000000) (hi:i≤l.length) (x:Part) (c c2:List Value) (hb:I b=some (.cells (c++c2).toArray 85 (0,0))) (hc:Enc.rd I c x) (hyc:1≤yc) (hyc2:yc≤9223372036854775807) :
  FnX prog 208 #[v,.int .i64 (i:Nat),.slice (some ⟨b,0,none⟩) 1 yc] I [.row v 85 14 l.length xss.flatten] (fun u r=>∃zss,r = .row u 85 14 (l.length+1) zss.flatten∧FlatC I zss (l.take i++x::l.drop i)):=
 FnX.of_row (args:=fun v=>[v,.int .i64 (i:Nat),.slice (some ⟨b,0,none⟩) 1 yc]) hx.uk hx.len (fun h0=>by
  obtain rfl:=List.eq_nil_of_length_eq_zero h0;obtain rfl:i=0:=by simp at hi;omega
  have hcI:ICells I b 0 c:=(fun j u hu=>⟨_,_,_,hb,by rw[Nat.zero_add];simpa using (List.getElem?_append_left (List.getElem?_eq_some_iff.1 hu).1).trans hu⟩)
  exact b1F I _ x ⟨_,yc,rfl,fun _=>⟨b,0,rfl,fun q z hq=>by cases q with|zero=>(cases hq;exact⟨c,by simpa using hcI,hc⟩)|succ q=>simp at hq⟩,hyc,hyc2⟩)
  (fun g cap rest h1 h2 h3=>b1E I l xss rest g cap i b yc hx h1 h2 h3 hl hi x c c2 hb hc hyc hyc2)
theorem c7s (I:IMap) (v:Value) (l:List Part) (hv:RdS I v l) (hl:l.length≤1000000) (x:Part) (B:Option Addr) (d:Nat) (hr:Enc.rd I (x.cells (.slice B x.props.length d)) x) (f:FuncId) (nm:Part→ByteArray) (hp:∀J,ILe I J→∀y vs,Enc.rd J vs y→FnV prog f #[.agg vs.toArray] J (.string (nm y))) (hs:Srt nm l) :
    FnI prog 124 #[v,.agg (x.cells (.slice B x.props.length d)).toArray,.func (.func f) #[] #[]] I (fun u J=>RdS J u (a5a nm l x)):=by
 refine enter func124 call124 rfl ntmps124 rfl fun w0=>?_;refine go 4 fun g4=>?_
 refine go 2 fun g5=>?_
 refine go 9 ?_;refine cV (hp _ (ILe.refl _) x _ hr) ?_;refine a0A fun Ig5 jg5 cg5=>?_;have hv:=hv.le jg5;have hr:=Enc.mono jg5 hr;refine go 2 ?_;refine cV (b4h Ig5 v l hv hl (nm x) _ [.pointer (some ⟨g5,0,none⟩)] nm (fun y vs hr=>c3P _ y vs hr (nm x) f nm (hp _ jg5 y vs hr) g5 cg5) hs) ?_;refine go 11 ?_;refine a1X (b1R _ v l hv hl) rfl rfl fun v20 s20 q20=>?_;obtain⟨xss,rfl,hx⟩:=q20;refine gC 9 (fun h21 p21=>?_) fun h21 p21=>?_
 ·have hlt:=c8P h21;refine a6O hx.uk hx.len (fun h0 _=>absurd hlt oM) fun g20 cap20 rest20 e20 hr20 hc20 hm20=>?_;subst e20;refine go 5 ?_;refine o_v rfl (a0l he rfl rfl rfl (a6y nm l (nm x)) oM hlt) ?_;refine go 1 ?_;refine a1U _ (a6y nm l (nm x)) (hx.uk.append hr20) he rfl rfl rfl rfl (Enc.one hr) (Nat.zero_add _) (by rw[List.length_append,hx.len];omega) ?_;refine a4C (List.set_append_left _ _ (by rw[hx.len];exact hlt)) ?_;refine a2e (m:=l.length) (cap:=cap20) (hx.uk.set rfl _) hr20 (by simp[hx.len]) hc20 hm20 ?_;refine go 11 ?_;refine a0i (l:=l.set (a6y nm l (nm x)) x) rfl (by simp) ((hx.set hr _).flat) fun I9 j9 R9=>?_;exact q_i (by simp only[a5a,h21,if_true];exact R9)
 ·refine go 9 fun v30=>?_
  refine a6O (xss:=[x.cells (.slice B x.props.length d)]) (fun d hd=>by rw[List.mem_singleton.1 hd];rfl) rfl (fun h=>absurd h (by decide)) fun b30 cap30 rest30 e30 hr30 hc30 hm30=>?_;subst e30;refine c4w fun I30 j30 B30=>?_;have hx:=hx.le j30;have hv:=hv.le j30;have hr:=Enc.mono j30 hr;refine go 1 ?_;refine a0Q (b6p _ _ l xss (a6y nm l (nm x)) b30 cap30 hx hl (b8K _ _ _) x _ rest30.flatten B30 hr oM (by unfold maxLen at hm30;omega)) rfl rfl fun v31 s31 q31=>?_;obtain⟨zss,rfl,hz⟩:=q31;refine go 5 ?_;refine a0i (l:=l.take (a6y nm l (nm x))++x::l.drop (a6y nm l (nm x))) rfl (by have:=b8K nm l (nm x);simp;omega) hz.flat fun I9 j9 R9=>?_;exact q_i (by simp only[a5a,h21];exact R9)
theorem b9V (I:IMap) (v:Value) (l:List Prp) (xss:List (List Value)) (i b yc:Nat) (hx:FlatC I xss l) (hl:l.length≤1000000) (hi:i≤l.length) (x:Prp) (c c2:List Value) (hb:I b=some (.cells (c++c2).toArray 234 (0,0))) (hc:Enc.rd I c x) (hyc:1≤yc) (hyc2:yc≤9223372036854775807) :
  FnX prog 213 #[v,.int .i64 (i:Nat),.slice (some ⟨b,0,none⟩) 1 yc] I [.row v 234 2 l.length xss.flatten] (fun u r=>∃zss,r = .row u 234 2 (l.length+1) zss.flatten∧FlatC I zss (l.take i++x::l.drop i)):=
 FnX.of_row (args:=fun v=>[v,.int .i64 (i:Nat),.slice (some ⟨b,0,none⟩) 1 yc]) hx.uk hx.len (fun h0=>by
  obtain rfl:=List.eq_nil_of_length_eq_zero h0;obtain rfl:i=0:=by simp at hi;omega
  have hcI:ICells I b 0 c:=(fun j u hu=>⟨_,_,_,hb,by rw[Nat.zero_add];simpa using (List.getElem?_append_left (List.getElem?_eq_some_iff.1 hu).1).trans hu⟩)
  exact b3l I _ x ⟨_,yc,rfl,fun _=>⟨b,0,rfl,fun q z hq=>by cases q with|zero=>(cases hq;exact⟨c,by simpa using hcI,hc⟩)|succ q=>simp at hq⟩,hyc,hyc2⟩)
  (fun g cap rest h1 h2 h3=>b3k I l xss rest g cap i b yc hx h1 h2 h3 hl hi x c c2 hb hc hyc hyc2)
theorem d1U (I:IMap) (v:Value) (l:List Prp) (hv:RdS I v l) (hl:l.length≤1000000) (x:Prp)  (hr:Enc.rd I (x.cells) x) (f:FuncId) (nm:Prp→ByteArray) (hp:∀J,ILe I J→∀y vs,Enc.rd J vs y→FnV prog f #[.agg vs.toArray] J (.string (nm y))) (hs:Srt nm l) :
    FnI prog 132 #[v,.agg (x.cells).toArray,.func (.func f) #[] #[]] I (fun u J=>RdS J u (a5a nm l x)):=by
 refine enter func132 call132 rfl ntmps132 rfl fun w0=>?_;refine go 4 fun g4=>?_
 refine go 2 fun g5=>?_
 refine go 9 ?_;refine cV (hp _ (ILe.refl _) x _ hr) ?_;refine a0A fun Ig5 jg5 cg5=>?_;have hv:=hv.le jg5;have hr:=Enc.mono jg5 hr;refine go 2 ?_;refine cV (b5S Ig5 v l hv hl (nm x) _ [.pointer (some ⟨g5,0,none⟩)] nm (fun y vs hr=>c7r _ y vs hr (nm x) f nm (hp _ jg5 y vs hr) g5 cg5) hs) ?_;refine go 11 ?_;refine a1X (c1B _ v l hv hl) rfl rfl fun v20 s20 q20=>?_;obtain⟨xss,rfl,hx⟩:=q20;refine gC 9 (fun h21 p21=>?_) fun h21 p21=>?_
 ·have hlt:=c8P h21;refine a6O hx.uk hx.len (fun h0 _=>absurd hlt oM) fun g20 cap20 rest20 e20 hr20 hc20 hm20=>?_;subst e20;refine go 5 ?_;refine o_v rfl (a0l he rfl rfl rfl (a6y nm l (nm x)) oM hlt) ?_;refine go 1 ?_;refine a1U _ (a6y nm l (nm x)) (hx.uk.append hr20) he rfl rfl rfl rfl (Enc.one hr) (Nat.zero_add _) (by rw[List.length_append,hx.len];omega) ?_;refine a4C (List.set_append_left _ _ (by rw[hx.len];exact hlt)) ?_;refine a2e (m:=l.length) (cap:=cap20) (hx.uk.set rfl _) hr20 (by simp[hx.len]) hc20 hm20 ?_;refine go 11 ?_;refine a0i (l:=l.set (a6y nm l (nm x)) x) rfl (by simp) ((hx.set hr _).flat) fun I9 j9 R9=>?_;exact q_i (by simp only[a5a,h21,if_true];exact R9)
 ·refine go 9 fun v30=>?_
  refine a6O (xss:=[x.cells]) (fun d hd=>by rw[List.mem_singleton.1 hd];rfl) rfl (fun h=>absurd h (by decide)) fun b30 cap30 rest30 e30 hr30 hc30 hm30=>?_;subst e30;refine c4w fun I30 j30 B30=>?_;have hx:=hx.le j30;have hv:=hv.le j30;have hr:=Enc.mono j30 hr;refine go 1 ?_;refine a0Q (b9V _ _ l xss (a6y nm l (nm x)) b30 cap30 hx hl (b8K _ _ _) x _ rest30.flatten B30 hr oM (by unfold maxLen at hm30;omega)) rfl rfl fun v31 s31 q31=>?_;obtain⟨zss,rfl,hz⟩:=q31;refine go 5 ?_;refine a0i (l:=l.take (a6y nm l (nm x))++x::l.drop (a6y nm l (nm x))) rfl (by have:=b8K nm l (nm x);simp;omega) hz.flat fun I9 j9 R9=>?_;exact q_i (by simp only[a5a,h21];exact R9)
end Go.Proofs.YtgmkjpafapgccaaGreat
namespace Go.Proofs.YtgmkjpafapgccaaGreat
open Go Go.Sx Tryz
set_option linter.all false
set_option maxRecDepth 20000
set_option maxHeartbeats 4000000
instance:Has (plK prog 234) [(0,1),(1,1)]:=hk
instance:Has (plK prog 62) [(0,1)]:=hk
instance:Has (plK prog 83) [(0,2),(2,2),(4,2)]:=hk
instance:Has (tyK prog 83) (true,6):=hk
instance:Has (a1o prog 62) [.slice none 0 0]:=hk
instance:Has (a1o prog 83) [.int .i64 0,.int .i64 0,.int .i64 0,.int .i64 0,.int .i64 0,.int .i64 0]:=hk
theorem c8M (I:IMap) (v:Value) (l:List Part) (hv:RdS I v l) (hl:l.length≤1000000) (x:Part) (B:Option Addr) (d:Nat) (hr:Enc.rd I (x.cells (.slice B x.props.length d)) x) (g4:Nat) (c4:ICells I g4 0 [v]) (hs:Srt Part.name l) :
    FnI prog 123 #[.agg (x.cells (.slice B x.props.length d)).toArray,.pointer (some ⟨g4,0,none⟩)] I (fun u J=>∃w,u = .tuple #[.agg #[w],.int .i64 0]∧RdS J w (a5a Part.name l x)):=by
 refine enter func123 call123 rfl ntmps123 rfl fun w0=>?_;refine go 4 fun g2=>?_
 refine go 2 fun g3=>?_
 refine go 9 ?_;refine a0m (c7s _ v l hv hl x B d hr _ Part.name (fun J hJ y vs hr=>c9H J y vs hr) hs) rfl rfl fun v8 I8 j8 q8=>?_;obtain⟨B8,d8,rfl,h8⟩:=q8;refine go 8 ?_;exact q_i ⟨_,rfl,B8,d8,rfl,h8⟩
theorem a4k (I:IMap) (n:Int) :
    FnV prog 126 #[.int .i64 n] I (.tuple #[.agg #[.slice none 0 0],.int .i64 n]):=by
 refine enter func126 call126 rfl ntmps126 rfl fun w0=>?_;refine go 4 fun g2=>?_
 refine go 14 ?_;exact q_v rfl
theorem c8N (I:IMap) (v:Value) (l:List Part) (hv:RdS I v l) (g4:Nat) (c4:ICells I g4 0 [v]) (f:FuncId) (cs:List Value) (p:Part→Bool) (hp:∀x∈l,∀vs,Enc.rd I vs x→FnV prog f ([Value.agg vs.toArray]++cs).toArray I (.bool (p x))) :
    FnV prog 128 #[.func (.func f) #[] cs.toArray,.pointer (some ⟨g4,0,none⟩)] I (.bool (l.any p)):=by
 refine enter func128 call128 rfl ntmps128 rfl fun w0=>?_;refine go 11 ?_;refine cV (a5c _ v l hv f cs p hp) ?_;refine go 5 ?_;exact q_v rfl
theorem d3t (I:IMap) (x:Part) (vs:List Value) (h:Enc.rd I vs x) (g:Nat) (e:Evt) (cg:ICells I g 0 e.cells) :
    FnV prog 131 #[.agg vs.toArray,.pointer (some ⟨g,0,none⟩)] I (.bool (decide (x.into=e.into)&&decide (x.slot=e.slot))):=by
 obtain⟨ps,rfl,hps⟩:=h;refine enter func131 call131 rfl ntmps131 rfl fun w0=>?_;refine go 4 fun g2=>?_
 refine go 8 ?_;refine o_v rfl (a0v he rfl (cg 4 _ rfl)) ?_;refine gS 2 9 (fun h9 p9=>?_) fun h9 p9=>?_
 ·refine go 3 ?_;refine a0z (a0n rfl rfl h9 (a0q rfl (a0v he rfl (cg 5 _ rfl)) ?_));refine go 7 ?_;exact q_v (congrArg Value.bool (by simp only[h9,bS]))
 ·refine go 11 ?_;exact q_v (congrArg Value.bool (by simp only[h9,bS]))
theorem d3v (I:IMap) (x:Part) (vs:List Value) (h:Enc.rd I vs x) (g:Nat) (q:Part) (s:Value) (cg:ICells I g 0 (q.cells s)) :
    FnV prog 134 #[.agg vs.toArray,.pointer (some ⟨g,0,none⟩)] I (.bool (decide (x.into=q.name))):=by
 obtain⟨ps,rfl,hps⟩:=h;refine enter func134 call134 rfl ntmps134 rfl fun w0=>?_;refine go 4 fun g2=>?_
 refine go 8 ?_;refine o_v rfl (a0v he rfl (cg 0 _ rfl)) ?_;refine go 6 ?_;exact q_v rfl
theorem b6i (I:IMap) (vc:Value) (c:List Kind) (hvc:RdS I vc c) (hsc:SmC c) (v:Value) (l:List Part) (hv:RdS I v l) (hsf:SmF l) (e:Evt) (hse:SmE e) :
    FnI prog 57 #[.agg #[vc],.agg #[v],.agg e.cells.toArray] I (fun u J=>StIs J (a0j c l e) u):=by
 have hv0:=hv;obtain⟨A,c0,rfl,hA,hc,hm⟩:=hv;refine enter func57 call57 rfl ntmps57 rfl fun w0=>?_;refine go 4 fun g3=>?_
 refine go 2 fun g4=>?_
 refine go 2 fun g5=>?_
 refine go 2 fun g6=>?_
 refine go 5 ?_;refine a1V (I':=I) (L':=[(3,.pointer (some ⟨g3,0,none⟩)),(4,.pointer (some ⟨g4,0,none⟩)),(5,.pointer (some ⟨g5,0,none⟩)),(6,.pointer (some ⟨g6,0,none⟩)),(28,.bool (!a4S c l || !a1D e))]) (H':=[.blk g6 62 [.slice none 0 0],.blk g5 130 e.cells,.blk g4 62 [.slice A l.length c0],.blk g3 24 [vc]]) ?_ ?_
 ·refine go 4 ?_;refine cV (d0B _ vc c hvc hsc _ l hv0 hsf) ?_;refine gS 2 24 (fun h24 p24=>?_) fun h24 p24=>?_
  ·refine go 6 ?_;exact a0r ⟨rfl,rfl,rfl,rfl,(bB (by simp only[h24,bS])),trivial⟩ rfl rfl
  ·refine go 2 ?_;refine a0n rfl rfl h24 (a0y (b6a _ e hse) rfl rfl ?_);refine go 4 ?_;exact a0r ⟨rfl,rfl,rfl,rfl,(bB (by simp only[h24,bS])),trivial⟩ rfl rfl
 ·refine gC 0 (fun h28 p28=>?_) fun h28 p28=>?_
  ·refine go 11 ?_;exact q_i (StIs.fail (by simp only[a0j,h28,if_true]))
  ·have hV:a4S c l=true∧a1D e=true:=by revert h28;simp
   obtain⟨hsrt,hlen⟩:=b2E hV.1;have hl6:l.length≤1000000:=oM;refine go 6 ?_;refine a1X (d6G _ _ l hv0) rfl rfl fun v31 s31 q31=>?_;obtain⟨m31,kvs,rfl,rfl,hIx,_⟩:=q31;refine go 2 fun g8=>?_
   refine go 6 ?_;refine a1y ?_;refine a0A fun Ig4 jg4 cg4=>?_;have hvc:=hvc.le jg4;have hv0:=hv0.le jg4;refine go 15 ?_;refine a0b ?_;refine a8B (c6e _ _ l hv0 m31 kvs hIx e.part) rfl rfl fun v37 q37=>?_;obtain⟨vs11,rfl,s11,rfl,hs11⟩:=q37;refine go 5 fun g11=>?_
   refine go 1 ?_;refine a0Y _ he rfl rfl rfl rfl rfl (Enc.one (α:=Part) (I:=Ig4) (x:=a3i l e) ⟨s11,rfl,hs11⟩) ?_;refine gC 11 (fun h42 p42=>?_) fun h42 p42=>?_
   ·refine gC 6 (fun h43 p43=>?_) fun h43 p43=>?_
    ·refine go 4 ?_;refine cV (a4k _ 3) ?_;refine go 3 ?_;refine a0u ?_;refine go 8 ?_;exact q_i (StIs.fail (by simp only[a0j,h28,p42,a3T,h43,Bool.true_eq_false,decide_true,decide_false,Int.reduceEq,reduceIte,if_true,if_false,Bool.false_eq_true,not_true,not_false_eq_true,bS]))
    ·refine go 9 ?_;refine a0T (b0h _ vc c hvc e.kind) rfl rfl fun v52 q52=>?_;obtain⟨vs13,rfl,s13,rfl,hs13⟩:=q52;refine go 5 fun g13=>?_
     refine go 1 ?_;refine a0Y _ he rfl rfl rfl rfl rfl (Enc.one (α:=Kind) (I:=Ig4) (x:=(a8v c e.kind).getD b3S) ⟨s13,rfl,hs13⟩) ?_;refine gC 9 (fun h56 p56=>?_) fun h56 p56=>?_
     ·refine go 4 ?_;refine cV (a4k _ 4) ?_;refine go 3 ?_;refine a1y ?_;refine go 8 ?_;exact q_i (StIs.fail (by simp only[a0j,h28,p42,a3T,h43,p56,Bool.true_eq_false,decide_true,decide_false,Int.reduceEq,reduceIte,if_true,if_false,Bool.false_eq_true,not_true,not_false_eq_true,bS]))
     ·refine go 6 ?_;refine o_v rfl (a0v he rfl (cg4 0 _ rfl)) ?_;refine gC 4 (fun h64 p64=>?_) fun h64 p64=>?_
      ·refine go 4 ?_;refine cV (a4k _ 7) ?_;refine go 3 ?_;refine a1y ?_;refine go 8 ?_;exact q_i (StIs.fail (by simp only[a0j,h28,p42,a3T,h43,p56,p64,Bool.true_eq_false,Bool.true_eq_false,decide_true,decide_false,Int.reduceEq,reduceIte,if_true,if_false,Bool.false_eq_true,not_true,not_false_eq_true,bS]))
      ·refine go 15 ?_;refine a0m (c8M _ _ l hv0 hl6 (c9f e) none 0 ⟨_,rfl,RdS.nil'⟩ g4 cg4 hsrt) rfl rfl fun v79 I79 j79 q79=>?_;obtain⟨w79,rfl,⟨B79,d79,rfl,hw79⟩⟩:=q79;refine go 3 ?_;refine a1y ?_;refine go 7 ?_;exact q_i (StIs.put (by simp only[a0j,h28,p42,a3T,h43,p56,p64,Bool.true_eq_false,Bool.true_eq_false,decide_true,decide_false,Int.reduceEq,reduceIte,if_true,if_false,Bool.false_eq_true,not_true,not_false_eq_true,bS]) ⟨B79,d79,rfl,hw79⟩)
   ·refine go 8 fun g15=>?_
    refine go 1 ?_;refine a0Y _ he rfl rfl rfl rfl rfl (Enc.one (α:=Part) (I:=Ig4) (x:=a3i l e) ⟨s11,rfl,hs11⟩) ?_;refine go 4 ?_;refine a7f (α:=Value) (Ix:=(fun s15=>Ig4)) (Lx:=(fun s15=>[(3,.pointer (some ⟨g3,0,none⟩)),(4,.pointer (some ⟨g4,0,none⟩)),(5,.pointer (some ⟨g5,0,none⟩)),(6,.pointer (some ⟨g6,0,none⟩)),(9,.func (.func 123) #[] #[.pointer (some ⟨g4,0,none⟩)]),(10,.func (.func 126) #[] #[]),(11,.pointer (some ⟨g11,0,none⟩)),(12,.bool (a0e l e.part).isSome),(15,.pointer (some ⟨g15,0,none⟩)),(16,.bool (a7J l e).isSome)])) (Hx:=(fun s15=>[.blk g15 85 ((a7K l e).cells s15),.blk g11 85 ((a3i l e).cells s11),.blk g6 62 [.slice none 0 0],.blk g5 130 e.cells,.blk g3 24 [vc]])) (p:=(fun s15=>RdS Ig4 s15 (a7K l e).props)) ?_ ?_
    ·refine gC 7 (fun h86 p86=>?_) fun h86 p86=>?_
     ·refine go 5 ?_;refine a0d ?_;refine a8B (c6e _ _ l hv0 m31 kvs hIx e.into) rfl rfl fun v91 q91=>?_;obtain⟨vs15,rfl,s15,rfl,hs15⟩:=q91;refine go 4 ?_;refine a0b ?_;refine a0Y _ he rfl rfl rfl rfl rfl (Enc.one (α:=Part) (I:=Ig4) (x:=(a0e l e.into).getD zPart) ⟨s15,rfl,hs15⟩) ?_;refine go 3 ?_;refine a0b ?_;refine a0a ?_;refine a0d ?_;refine a0a ?_;exact a2A s15 (by simp only[a7K,a7J,p86,if_true];exact hs15) ⟨rfl,rfl,rfl,rfl,rfl,rfl,rfl,rfl,rfl,(by simp only[a7J,p86,if_true,if_false];rfl),trivial⟩ (by simp only[a7K,a7J,p86,if_true,if_false];rfl) rfl
     ·refine go 2 ?_;refine a0d ?_;refine a0a ?_;refine a0d ?_;refine a0a ?_;exact a2A s11 (by simp only[a7K,a7J,p86,if_false];exact hs11) ⟨rfl,rfl,rfl,rfl,rfl,rfl,rfl,rfl,rfl,(by simp only[a7J,p86,if_true,if_false];rfl),trivial⟩ (by simp only[a7K,a7J,p86,if_true,if_false];rfl) rfl
    ·intro s15 hs15;refine gS 6 96 (fun h96 p96=>?_) fun h96 p96=>?_
     ·refine go 10 ?_;refine cV (a4k _ 2) ?_;refine go 3 ?_;refine a0d ?_;refine go 7 ?_;exact q_i (StIs.fail (by simp only[a0j,h28,p42,a0K,h96,Bool.true_eq_false,decide_true,decide_false,Int.reduceEq,reduceIte,if_true,if_false,Bool.false_eq_true,not_true,not_false_eq_true,bS]))
     ·refine gC 5 (fun h99 p99=>?_) fun h99 p99=>?_
      ·refine go 4 ?_;refine cV (a4k _ 2) ?_;refine go 3 ?_;refine a0d ?_;refine go 7 ?_;exact q_i (StIs.fail (by simp only[a0j,h28,p42,a0K,h96,h99,Bool.true_eq_false,decide_true,decide_false,Int.reduceEq,reduceIte,if_true,if_false,Bool.false_eq_true,not_true,not_false_eq_true,bS]))
      ·have hmem:a3i l e∈l:=b0U (by simpa using h96);refine gS 8 106 (fun h106 p106=>?_) fun h106 p106=>?_
       ·refine go 10 ?_;refine cV (a4k _ 5) ?_;refine go 3 ?_;refine a0d ?_;refine go 7 ?_;exact q_i (StIs.fail (by simp only[a0j,h28,p42,a0K,h96,h99,h106,Bool.true_eq_false,decide_true,decide_false,Int.reduceEq,reduceIte,if_true,if_false,Bool.false_eq_true,not_true,not_false_eq_true,bS]))
       ·refine gC 5 (fun h109 p109=>?_) fun h109 p109=>?_
        ·refine go 4 ?_;refine cV (a4k _ 5) ?_;refine go 3 ?_;refine a0d ?_;refine go 7 ?_;exact q_i (StIs.fail (by simp only[a0j,h28,p42,a0K,h96,h99,h106,h109,Bool.true_eq_false,decide_true,decide_false,Int.reduceEq,reduceIte,if_true,if_false,Bool.false_eq_true,not_true,not_false_eq_true,bS]))
        ·refine go 14 ?_;refine a0T (b0h _ vc c hvc (a3i l e).kind) rfl rfl fun v119 q119=>?_;obtain⟨vs18,rfl,s18,rfl,hs18⟩:=q119;refine go 5 fun g18=>?_
         refine go 1 ?_;refine a0Y _ he rfl rfl rfl rfl rfl (Enc.one (α:=Kind) (I:=Ig4) (x:=a5M c l e) ⟨s18,rfl,hs18⟩) ?_;refine go 4 ?_;refine c1r (Ix:=(fun J p2 s2=>J)) (Lx:=(fun J p2 s2=>[(6,.pointer (some ⟨g6,0,none⟩)),(9,.func (.func 123) #[] #[.pointer (some ⟨g4,0,none⟩)]),(11,.pointer (some ⟨g11,0,none⟩))])) (Hx:=(fun J p2 s2=>[.blk g11 85 (p2.cells s2),.blk g6 62 [.slice none 0 0]])) (p:=(fun J p2 s2=>ILe Ig4 J∧RdS J s2 p2.props∧a0j c l e=c0v l p2)) ?_ ?_
         ·refine gC 13 (fun h124 p124=>?_) fun h124 p124=>?_
          ·refine gS 7 129 (fun h129 p129=>?_) fun h129 p129=>?_
           ·refine go 18 ?_;refine cV (a4k _ 4) ?_;refine go 3 ?_;refine a0u ?_;refine go 10 ?_;exact q_i (StIs.fail (by simp only[a0j,h28,p42,a0K,a2a,a1v,a0I,a1q,a1d,a0N,a0P,a1h,a5M,a4J,p28,p42,p96,p99,p106,p109,p124,p129,h96,h99,h106,h109,h124,h129,Bool.true_eq_false,decide_true,decide_false,Int.reduceEq,reduceIte,if_true,if_false,Bool.false_eq_true,not_true,not_false_eq_true,bS]))
           ·refine go 8 ?_;refine a0n rfl rfl h129 (a0y (b7z _ vc c hvc (a7K l e).kind e.slot (a3i l e).kind) rfl rfl ?_);refine gC 5 (fun h126 p126=>?_) fun h126 p126=>?_
            ·refine go 4 ?_;refine cV (a4k _ 4) ?_;refine go 3 ?_;refine a0u ?_;refine go 10 ?_;exact q_i (StIs.fail (by simp only[a0j,h28,p42,a0K,a2a,a1v,a0I,a1q,a1d,a0N,a0P,a1h,a5M,a4J,p28,p42,p96,p99,p106,p109,p124,p129,p126,h96,h99,h106,h109,h124,h129,h126,Bool.true_eq_false,decide_true,decide_false,Int.reduceEq,reduceIte,if_true,if_false,Bool.false_eq_true,not_true,not_false_eq_true,bS]))
            ·refine gC 8 (fun h144 p144=>?_) fun h144 p144=>?_
             ·refine go 4 ?_;refine cV (a4k _ 5) ?_;refine go 3 ?_;refine a0u ?_;refine go 10 ?_;exact q_i (StIs.fail (by simp only[a0j,h28,p42,a0K,a2a,a1v,a0I,a1q,a1d,a0N,a0P,a1h,a5M,a4J,p28,p42,p96,p99,p106,p109,p124,p129,p126,p144,h96,h99,h106,h109,h124,h129,h126,h144,Bool.true_eq_false,decide_true,decide_false,Int.reduceEq,reduceIte,if_true,if_false,Bool.false_eq_true,not_true,not_false_eq_true,bS]))
             ·refine go 3 ?_;refine a1y ?_;refine a0A fun Ig5 jg5 cg5=>?_;have hvc:=hvc.le jg5;have hv0:=hv0.le jg5;have cg4:=cg4.le jg5;have hs11:=hs11.le jg5;have hs18:=hs18.le jg5;refine go 2 ?_;refine cV (c8N _ _ l hv0 g4 cg4 _ [.pointer (some ⟨g5,0,none⟩)] (fun x=>decide (x.into=e.into)&&decide (x.slot=e.slot)) (fun x hx vs hr=>d3t _ x vs hr g5 e cg5)) ?_;refine gC 3 (fun h152 p152=>?_) fun h152 p152=>?_
              ·refine go 4 ?_;refine cV (a4k _ 6) ?_;refine go 3 ?_;refine a0u ?_;refine go 10 ?_;exact q_i (StIs.fail (by simp only[a0j,h28,p42,a0K,a2a,a1v,a0I,a1q,a1d,a0N,a0P,a1h,a5M,a4J,p28,p42,p96,p99,p106,p109,p124,p129,p126,p144,p152,h96,h99,h106,h109,h124,h129,h126,h144,h152,Bool.true_eq_false,decide_true,decide_false,Int.reduceEq,reduceIte,if_true,if_false,Bool.false_eq_true,not_true,not_false_eq_true,bS]))
              ·refine go 3 ?_;refine a0d ?_;refine ds1 ?_;refine dG 0 1 ?_;refine a0F 1 rfl rfl (by kernel_rfl) rfl (.cons _ (.refl _)) rfl (a0v he rfl (cg5 4 _ rfl)) ?_;refine dG 2 1 ?_;refine a0F 3 rfl rfl (by kernel_rfl) rfl (.cons _ (.refl _)) rfl (a0v he rfl (cg5 5 _ rfl)) ?_;refine dH 4 1 ?_;refine go 1 ?_;refine dH 6 1 ?_;refine go 5 ?_;refine a0b ?_;refine a0a ?_;refine a0b ?_;refine a0a ?_;refine a0d ?_;refine a0a ?_;exact a5B (_) ({ a3i l e with into:=e.into,slot:=e.slot }) (_) ⟨jg5,hs11,by simp only[a0j,h28,p42,a0K,h96,h99,h106,h109,a2a,a1v,a0I,a1q,a1d,a0N,a0P,a1h,a5M,a4J,a2r,p28,p42,p96,p99,p106,p109,p124,p129,p126,p144,p152,h96,h99,h106,h109,h124,h129,h126,h144,h152,Bool.true_eq_false,decide_true,decide_false,Int.reduceEq,reduceIte,if_true,if_false,Bool.false_eq_true,not_true,not_false_eq_true,bS]⟩ sb rfl rfl
          ·refine gC 6 (fun h166 p166=>?_) fun h166 p166=>?_
           ·refine gC 8 (fun h170 p170=>?_) fun h170 p170=>?_
            ·refine go 4 ?_;refine cV (a4k _ 5) ?_;refine go 3 ?_;refine a0u ?_;refine go 9 ?_;exact q_i (StIs.fail (by simp only[a0j,h28,p42,a0K,a2a,a1v,a0I,a1q,a1d,a0N,a0P,a1h,a5M,a4J,p28,p42,p96,p99,p106,p109,p124,p166,p170,h96,h99,h106,h109,h124,h166,h170,Bool.true_eq_false,decide_true,decide_false,Int.reduceEq,reduceIte,if_true,if_false,Bool.false_eq_true,not_true,not_false_eq_true,bS]))
            ·refine go 5 ?_;refine a0d ?_;refine go 7 ?_;refine a0b ?_;refine a0a ?_;refine a0b ?_;refine a0a ?_;refine a0d ?_;refine a0a ?_;refine a0d ?_;refine a0a ?_;exact a5B (_) ({ a3i l e with into:=a0M,slot:=a0M }) (_) ⟨ILe.refl _,hs11,by simp only[a0j,h28,p42,a0K,h96,h99,h106,h109,a2a,a1v,a0I,a1q,a1d,a0N,a0P,a1h,a5M,a4J,a2r,p28,p42,p96,p99,p106,p109,p124,p166,p170,h96,h99,h106,h109,h124,h166,h170,Bool.true_eq_false,decide_true,decide_false,Int.reduceEq,reduceIte,if_true,if_false,Bool.false_eq_true,not_true,not_false_eq_true,bS]⟩ sb rfl rfl
           ·refine gC 6 (fun h177 p177=>?_) fun h177 p177=>?_
            ·refine gC 7 (fun h181 p181=>?_) fun h181 p181=>?_
             ·refine go 4 ?_;refine cV (a4k _ 4) ?_;refine go 3 ?_;refine a0u ?_;refine go 8 ?_;exact q_i (StIs.fail (by simp only[a0j,h28,p42,a0K,a2a,a1v,a0I,a1q,a1d,a0N,a0P,a1h,a5M,a4J,p28,p42,p96,p99,p106,p109,p124,p166,p177,p181,h96,h99,h106,h109,h124,h166,h177,h181,Bool.true_eq_false,decide_true,decide_false,Int.reduceEq,reduceIte,if_true,if_false,Bool.false_eq_true,not_true,not_false_eq_true,bS]))
             ·refine go 3 ?_;refine a0a ?_;refine a0a ?_;refine a0d ?_;refine a0a ?_;refine a0d ?_;refine a0a ?_;exact a5B (_) (a3i l e) (_) ⟨ILe.refl _,hs11,by simp only[a0j,h28,p42,a0K,h96,h99,h106,h109,a2a,a1v,a0I,a1q,a1d,a0N,a0P,a1h,a5M,a4J,a2r,p28,p42,p96,p99,p106,p109,p124,p166,p177,p181,h96,h99,h106,h109,h124,h166,h177,h181,Bool.true_eq_false,decide_true,decide_false,Int.reduceEq,reduceIte,if_true,if_false,Bool.false_eq_true,not_true,not_false_eq_true,bS]⟩ sb rfl rfl
            ·refine gC 6 (fun h186 p186=>?_) fun h186 p186=>?_
             ·refine go 5 ?_;refine o_v rfl (a5L rfl rfl) ?_;refine go 3 ?_;refine a0d ?_;refine go 7 ?_;refine a0b ?_;refine a0a ?_;refine a0b ?_;refine a0a ?_;refine a0d ?_;refine a0a ?_;refine a0d ?_;refine a0a ?_;exact a5B (_) (a2r e (a3i l e)) (_) ⟨ILe.refl _,hs11,by simp only[a0j,h28,p42,a0K,h96,h99,h106,h109,a2a,a1v,a0I,a1q,a1d,a0N,a0P,a1h,a5M,a4J,a2r,p28,p42,p96,p99,p106,p109,p124,p166,p177,p186,h96,h99,h106,h109,h124,h166,h177,h186,Bool.true_eq_false,decide_true,decide_false,Int.reduceEq,reduceIte,if_true,if_false,Bool.false_eq_true,not_true,not_false_eq_true,bS]⟩ sb rfl rfl
             ·refine gC 6 (fun h196 p196=>?_) fun h196 p196=>?_
              ·refine go 10 ?_;refine a0m (d1U _ s11 (a3i l e).props hs11 (by have:=(b1p hV.1 hmem).2;omega) ⟨e.key,e.value⟩ rfl _ Prp.key (fun J hJ y vs hr=>d3u J y vs hr) (b1p hV.1 hmem).1) rfl rfl fun v205 I205 j205 q205=>?_;obtain⟨B205,d205,rfl,h205⟩:=q205;refine go 2 ?_;refine a0d ?_;refine gC 11 (fun h210 p210=>?_) fun h210 p210=>?_
               ·refine go 4 ?_;refine cV (a4k _ 7) ?_;refine go 3 ?_;refine a0u ?_;refine go 8 ?_;exact q_i (StIs.fail (by simp only[a0j,h28,p42,a0K,a2a,a1v,a0I,a1q,a1d,a0N,a0P,a1h,a5M,a4J,p28,p42,p96,p99,p106,p109,p124,p166,p177,p186,p196,p210,h96,h99,h106,h109,h124,h166,h177,h186,h196,h210,Bool.true_eq_false,decide_true,decide_false,Int.reduceEq,reduceIte,if_true,if_false,Bool.false_eq_true,not_true,not_false_eq_true,bS]))
               ·refine go 3 ?_;refine a0b ?_;refine a0a ?_;refine a0b ?_;refine a0a ?_;refine a0d ?_;refine a0a ?_;refine a0d ?_;refine a0a ?_;exact a5B (_) (a4J e (a3i l e)) (_) ⟨j205,⟨B205,d205,rfl,h205⟩,by simp only[a0j,h28,p42,a0K,h96,h99,h106,h109,a2a,a1v,a0I,a1q,a1d,a0N,a0P,a1h,a5M,a4J,a2r,p28,p42,p96,p99,p106,p109,p124,p166,p177,p186,p196,p210,h96,h99,h106,h109,h124,h166,h177,h186,h196,h210,Bool.true_eq_false,decide_true,decide_false,Int.reduceEq,reduceIte,if_true,if_false,Bool.false_eq_true,not_true,not_false_eq_true,bS]⟩ sb rfl rfl
              ·refine gC 6 (fun h215 p215=>?_) fun h215 p215=>?_
               ·refine gS 7 220 (fun h220 p220=>?_) fun h220 p220=>?_
                ·refine go 11 ?_;refine cV (a4k _ 5) ?_;refine go 3 ?_;refine a0u ?_;refine go 9 ?_;exact q_i (StIs.fail (by simp only[a0j,h28,p42,a0K,a2a,a1v,a0I,a1q,a1d,a0N,a0P,a1h,a5M,a4J,p28,p42,p96,p99,p106,p109,p124,p166,p177,p186,p196,p215,p220,h96,h99,h106,h109,h124,h166,h177,h186,h196,h215,h220,Bool.true_eq_false,decide_true,decide_false,Int.reduceEq,reduceIte,if_true,if_false,Bool.false_eq_true,not_true,not_false_eq_true,bS]))
                ·refine go 3 ?_;refine a0n rfl rfl h220 (d1u m2 (fun I2 hI2 c2=>c8N I2 _ l (hv0.le hI2) g4 (cg4.le hI2) _ [.pointer (some ⟨g11,0,none⟩)] (fun x=>decide (x.into=(a3i l e).name)) (fun x hx vs hr=>d3v I2 x vs hr g11 _ _ c2)) rfl rfl ?_);refine gC 3 (fun h224 p224=>?_) fun h224 p224=>?_
                 ·refine go 4 ?_;refine cV (a4k _ 5) ?_;refine go 3 ?_;refine a0u ?_;refine go 9 ?_;exact q_i (StIs.fail (by simp only[a0j,h28,p42,a0K,a2a,a1v,a0I,a1q,a1d,a0N,a0P,a1h,a5M,a4J,p28,p42,p96,p99,p106,p109,p124,p166,p177,p186,p196,p215,p220,p224,h96,h99,h106,h109,h124,h166,h177,h186,h196,h215,h220,h224,Bool.true_eq_false,decide_true,decide_false,Int.reduceEq,reduceIte,if_true,if_false,Bool.false_eq_true,not_true,not_false_eq_true,bS]))
                 ·refine go 5 ?_;refine a0d ?_;refine go 4 ?_;refine a0b ?_;refine a0a ?_;refine a0b ?_;refine a0a ?_;refine a0d ?_;refine a0a ?_;refine a0d ?_;refine a0a ?_;exact a5B (_) ({ a3i l e with scrapped:=true }) (_) ⟨ILe.refl _,hs11,by simp only[a0j,h28,p42,a0K,h96,h99,h106,h109,a2a,a1v,a0I,a1q,a1d,a0N,a0P,a1h,a5M,a4J,a2r,p28,p42,p96,p99,p106,p109,p124,p166,p177,p186,p196,p215,p220,p224,h96,h99,h106,h109,h124,h166,h177,h186,h196,h215,h220,h224,Bool.true_eq_false,decide_true,decide_false,Int.reduceEq,reduceIte,if_true,if_false,Bool.false_eq_true,not_true,not_false_eq_true,bS]⟩ sb rfl rfl
               ·refine go 3 ?_;refine a0a ?_;refine a0a ?_;refine a0d ?_;refine a0a ?_;refine a0d ?_;refine a0a ?_;exact a5B (_) (a3i l e) (_) ⟨ILe.refl _,hs11,by simp only[a0j,h28,p42,a0K,h96,h99,h106,h109,a2a,a1v,a0I,a1q,a1d,a0N,a0P,a1h,a5M,a4J,a2r,p28,p42,p96,p99,p106,p109,p124,p166,p177,p186,p196,p215,h96,h99,h106,h109,h124,h166,h177,h186,h196,h215,Bool.true_eq_false,decide_true,decide_false,Int.reduceEq,reduceIte,if_true,if_false,Bool.false_eq_true,not_true,not_false_eq_true,bS]⟩ sb rfl rfl
         ·rintro J p2 s2 ⟨hJ,⟨B2,d2,rfl,hB2⟩,hA⟩;refine go 5 ?_;refine a0m (c8M _ _ l (hv0.le hJ) hl6 p2 B2 d2 ⟨_,rfl,B2,d2,rfl,hB2⟩ g4 (cg4.le hJ) hsrt) rfl rfl fun v232 I232 j232 q232=>?_;obtain⟨w232,rfl,⟨B232,d232,rfl,hw232⟩⟩:=q232;refine go 3 ?_;refine a0b ?_;refine go 6 ?_;exact q_i (StIs.put hA ⟨B232,d232,rfl,hw232⟩)
end Go.Proofs.YtgmkjpafapgccaaGreat
namespace Go.Proofs.YtgmkjpafapgccaaGreat
open Go Go.Sx Tryz
set_option linter.all false
set_option maxRecDepth 20000
set_option maxHeartbeats 4000000
theorem b1j (I:IMap) (l:List Evt) (N:Nat) (hN:l.length=N) (g a b n:Nat) (f:FuncId) (h:a+n≤b) (hb:b+n≤l.length) (hl:l.length≤1000000) :
    FnM prog 351 #[.slice (some ⟨g,0,none⟩) N N,.int .i64 ((a:Nat):Int),.int .i64 ((b:Nat):Int),.int .i64 ((n:Nat):Int),.func (.func f) #[] #[]] I (.blk g 130 (a1u (l)).flatten) (.blk g 130 (a1u (a9H l a b n)).flatten):=by
 refine enter func351 call351 rfl ntmps351 rfl fun w0=>?_;refine go 6 ?_
 refine a0x (α:=Nat) 0 (fun i=>I)
  (fun i=>[(0,.slice (some ⟨g,0,none⟩) N N),(1,.int .i64 ((a:Nat):Int)),(2,.int .i64 ((b:Nat):Int)),(3,.int .i64 ((n:Nat):Int)),(10,.int .i64 ((i:Nat):Int))])
  (fun i=>[.blk g 130 (a1u (a9H l a b i)).flatten])
  (fun i=>i≤n)
  (fun i=>n-i) (Nat.zero_le _) rfl sb rfl ?_
 intro i hi;refine gC 8 (fun h13 p13=>?_) fun h13 p13=>?_
 ·have hlt:i<n:=oM;have hm:=a3R l a b i;have h1:a+i<(a9H l a b i).length:=oM;have h2:b+i<(a9H l a b i).length:=oM;refine go 4 ?_;refine ds1 ?_;refine dG 0 12 ?_;refine a0F 12 rfl rfl (by kernel_rfl) rfl (.cons _ .slnil) rfl (a0l he rfl rfl rfl (b+i) oM oM) ?_;refine dG 14 4 ?_;refine a0F 18 rfl rfl (by kernel_rfl) rfl (.cons _ .slnil) rfl (a0l he rfl rfl rfl (a+i) oM oM) ?_;refine dT2 13 19 ?_ ?_
  ·refine a0q rfl (a1H m0 (a0k _) he rfl (b+i) oM (a1s h2)) ?_;refine dH 19 0 ?_;refine a0q rfl (a1H m0 (a0k _) he rfl (a+i) oM (a1s h1)) ?_;refine go 1 ?_;refine a0F 20 rfl rfl (by kernel_rfl) rfl (.cons _ .slnil) rfl (a0l he rfl rfl rfl (a+i) oM oM) ?_;refine dH 21 0 ?_;refine a1U _ (a+i) (by first|exact a0k _|exact (a0k _).set rfl _) he rfl rfl rfl rfl rfl oM (by simp[a0t];omega) ?_;refine go 1 ?_;refine a0F 22 rfl rfl (by kernel_rfl) rfl (.cons _ .slnil) rfl (a0l he rfl rfl rfl (b+i) oM oM) ?_;refine dH 23 0 ?_;refine a1U _ (b+i) (by first|exact a0k _|exact (a0k _).set rfl _) he rfl rfl rfl rfl rfl oM (by simp[a0t];omega) ?_;refine go 10 ?_;exact a0w (i+1) oM oM rfl sb (by rw[a9H];first|rw[←a4K h1 h2] | rw[←a3X h1 h2 oM])
  ·refine a0q rfl (a1H m0 (a0k _) he rfl (a+i) oM (a1s h1)) ?_;refine dH 13 0 ?_;refine a0q rfl (a1H m0 (a0k _) he rfl (b+i) oM (a1s h2)) ?_;refine go 1 ?_;refine a0F 20 rfl rfl (by kernel_rfl) rfl (.cons _ .slnil) rfl (a0l he rfl rfl rfl (a+i) oM oM) ?_;refine dH 21 0 ?_;refine a1U _ (a+i) (by first|exact a0k _|exact (a0k _).set rfl _) he rfl rfl rfl rfl rfl oM (by simp[a0t];omega) ?_;refine go 1 ?_;refine a0F 22 rfl rfl (by kernel_rfl) rfl (.cons _ .slnil) rfl (a0l he rfl rfl rfl (b+i) oM oM) ?_;refine dH 23 0 ?_;refine a1U _ (b+i) (by first|exact a0k _|exact (a0k _).set rfl _) he rfl rfl rfl rfl rfl oM (by simp[a0t];omega) ?_;refine go 10 ?_;exact a0w (i+1) oM oM rfl sb (by rw[a9H];first|rw[←a4K h1 h2] | rw[←a3X h1 h2 oM])
 ·refine go 5 ?_;obtain rfl:i=n:=oM;exact q_m
theorem c2D (I:IMap) (l:List Evt) (N:Nat) (hN:l.length=N) (g a b:Nat) (f:FuncId) (hp:∀x y:Evt,FnV prog f #[.agg (Day.ch x).toArray,.agg (Day.ch y).toArray] I (.int .i64 (a9t (Day.day x) (Day.day y)))) (hab:a≤b) (hb:b≤l.length) (hl:l.length≤1000000) :
    FnX prog 315 #[.slice (some ⟨g,0,none⟩) N N,.int .i64 ((a:Nat):Int),.int .i64 ((b:Nat):Int),.func (.func f) #[] #[]] I [.blk g 130 (a1u (l)).flatten] (fun u r=>u = .tuple #[]∧∃m,r = .blk g 130 (a1u (m)).flatten∧Seg l m a b):=by
 refine enter func315 call315 rfl ntmps315 rfl fun w0=>?_;refine go 3 ?_;refine o_v rfl (OV.cast (u:=.int .i64 ((a+1:Nat):Int)) (a2u rfl rfl ⟨oM,oM⟩) (congrArg (Value.int .i64) oM)) ?_;refine go 4 ?_
 refine a0B (a+1) (l) (fun i m=>I)
  (fun i m=>[(0,.slice (some ⟨g,0,none⟩) N N),(1,.int .i64 ((a:Nat):Int)),(2,.int .i64 ((b:Nat):Int)),(3,.func (.func f) #[] #[]),(8,.int .i64 ((i:Nat):Int))])
  (fun i m=>[.blk g 130 (a1u (m)).flatten])
  (fun i m=>a+1≤i∧(i≤b∨(m=l∧i=a+1))∧Seg l m a i)
  (fun i m=>b-i) ⟨Nat.le_refl _,.inr ⟨rfl,rfl⟩,Seg.one l a⟩ rfl sb rfl ?_
 intro i m ⟨h1,h2,hs⟩;refine gC 8 (fun h14 p14=>?_) fun h14 p14=>?_
 ·have hlt:i<b:=oM;refine go 11 ?_
  refine a0B (i) (m) (fun j k=>I)
   (fun j k=>[(0,.slice (some ⟨g,0,none⟩) N N),(1,.int .i64 ((a:Nat):Int)),(2,.int .i64 ((b:Nat):Int)),(3,.func (.func f) #[] #[]),(8,.int .i64 ((i:Nat):Int)),(9,.int .i64 ((j:Nat):Int))])
   (fun j k=>[.blk g 130 (a1u (k)).flatten])
   (fun j k=>a≤j∧j≤i∧Ins l k a i j)
   (fun j k=>j) ⟨oM,Nat.le_refl _,Ins.start hs⟩ rfl sb rfl ?_
  intro j k ⟨hj1,hj2,hk⟩;have hkl:=hk.len;refine go 3 ?_;refine dG 0 4 ?_;refine gS 0 21 (fun h21 p21=>?_) fun h21 p21=>?_
  ·have hjk:j<k.length:=oM;have hjk1:j-1<k.length:=oM;refine dG 4 3 ?_;refine d_t 7 rfl rfl (by kernel_rfl) rfl (fun _ m=>m.keeps (.refl _)) (a1O rfl rfl h21 (a0l he rfl rfl rfl (j) oM oM)) ?_;refine d_t 8 rfl rfl (by kernel_rfl) rfl (fun _ m=>m.keeps (.refl _)) (a1O rfl rfl h21 (a1H m0 (a0k _) he rfl (j) oM (a1s hjk))) ?_;refine dG 9 3 ?_;refine d_t 12 rfl rfl (by kernel_rfl) rfl (fun _ m=>m.keeps (.refl _)) (a1O rfl rfl h21 (a0l he rfl rfl rfl (j-1) oM oM)) ?_;refine d_t 13 rfl rfl (by kernel_rfl) rfl (fun _ m=>m.keeps (.refl _)) (a1O rfl rfl h21 (a1H m0 (a0k _) he rfl (j-1) oM (a1s hjk1))) ?_;refine dH 14 0 ?_;refine a0n rfl rfl h21 (a0y (hp _ _) rfl rfl ?_);refine dG 15 2 ?_;refine gC 2 (fun h34 p34=>?_) fun h34 p34=>?_
   ·refine go 4 ?_;refine ds1 ?_;refine dG 0 8 ?_;refine a0F 8 rfl rfl (by kernel_rfl) rfl (.cons _ .slnil) rfl (a0l he rfl rfl rfl (j-1) oM oM) ?_;refine dG 10 2 ?_;refine a0F 12 rfl rfl (by kernel_rfl) rfl (.cons _ .slnil) rfl (a0l he rfl rfl rfl (j) oM oM) ?_;refine dT2 9 13 ?_ ?_
    ·refine a0q rfl (a1H m0 (a0k _) he rfl (j-1) oM (a1s hjk1)) ?_;refine dH 13 0 ?_;refine a0q rfl (a1H m0 (a0k _) he rfl (j) oM (a1s hjk)) ?_;refine go 1 ?_;refine a0F 14 rfl rfl (by kernel_rfl) rfl (.cons _ .slnil) rfl (a0l he rfl rfl rfl (j) oM oM) ?_;refine dH 15 0 ?_;refine a1U _ (j) (by first|exact a0k _|exact (a0k _).set rfl _) he rfl rfl rfl rfl rfl oM (by simp[a0t];omega) ?_;refine go 1 ?_;refine a0F 16 rfl rfl (by kernel_rfl) rfl (.cons _ .slnil) rfl (a0l he rfl rfl rfl (j-1) oM oM) ?_;refine dH 17 0 ?_;refine a1U _ (j-1) (by first|exact a0k _|exact (a0k _).set rfl _) he rfl rfl rfl rfl rfl oM (by simp[a0t];omega) ?_;refine go 6 ?_;refine o_v rfl (OV.cast (u:=.int .i64 ((j-1:Nat):Int)) (a1j rfl rfl ⟨oM,oM⟩) (congrArg (Value.int .i64) oM)) ?_;refine go 3 ?_;exact a0o (j-1) (swp k j (j-1)) ⟨oM,oM,hk.step oM oM oM (by have:=p34;simp only[a7i]at this;rw[a1e oM,a1e oM];exact this)⟩ oM rfl sb (by first|rw[←a4K (show j<k.length from oM) (show j-1<k.length from oM)] | rw[←a3X (show j<k.length from oM) (show j-1<k.length from oM) oM])
    ·refine a0q rfl (a1H m0 (a0k _) he rfl (j) oM (a1s hjk)) ?_;refine dH 9 0 ?_;refine a0q rfl (a1H m0 (a0k _) he rfl (j-1) oM (a1s hjk1)) ?_;refine go 1 ?_;refine a0F 14 rfl rfl (by kernel_rfl) rfl (.cons _ .slnil) rfl (a0l he rfl rfl rfl (j) oM oM) ?_;refine dH 15 0 ?_;refine a1U _ (j) (by first|exact a0k _|exact (a0k _).set rfl _) he rfl rfl rfl rfl rfl oM (by simp[a0t];omega) ?_;refine go 1 ?_;refine a0F 16 rfl rfl (by kernel_rfl) rfl (.cons _ .slnil) rfl (a0l he rfl rfl rfl (j-1) oM oM) ?_;refine dH 17 0 ?_;refine a1U _ (j-1) (by first|exact a0k _|exact (a0k _).set rfl _) he rfl rfl rfl rfl rfl oM (by simp[a0t];omega) ?_;refine go 6 ?_;refine o_v rfl (OV.cast (u:=.int .i64 ((j-1:Nat):Int)) (a1j rfl rfl ⟨oM,oM⟩) (congrArg (Value.int .i64) oM)) ?_;refine go 3 ?_;exact a0o (j-1) (swp k j (j-1)) ⟨oM,oM,hk.step oM oM oM (by have:=p34;simp only[a7i]at this;rw[a1e oM,a1e oM];exact this)⟩ oM rfl sb (by first|rw[←a4K (show j<k.length from oM) (show j-1<k.length from oM)] | rw[←a3X (show j<k.length from oM) (show j-1<k.length from oM) oM])
   ·refine go 12 ?_;exact a0o (i+1) (k) ⟨oM,.inl oM,hk.done oM oM (.inr (by have:=p34;simp only[a7i]at this;rw[a1e oM,a1e oM];omega))⟩ oM rfl sb rfl
  ·refine dG 4 13 ?_;refine go 15 ?_;exact a0o (i+1) (k) ⟨oM,.inl oM,hk.done oM oM (.inl oM)⟩ oM rfl sb rfl
 ·refine go 5 ?_;exact q_x (by refine⟨rfl,m,rfl,?_⟩;rcases h2 with h2|⟨rfl,h2⟩;exact (show i=b from oM)▸hs;exact Seg.none oM)
theorem d5A (I:IMap) (l:List Evt) (N:Nat) (hN:l.length=N) (g a m b:Nat) (f:FuncId) (ham:a<m) (hmb:m<b) (hb:b≤l.length) (hl:l.length≤1000000) :
    FnX prog 340 #[.slice (some ⟨g,0,none⟩) N N,.int .i64 ((a:Nat):Int),.int .i64 ((m:Nat):Int),.int .i64 ((b:Nat):Int),.func (.func f) #[] #[]] I [.blk g 130 (a1u (l)).flatten] (fun u r=>u = .tuple #[]∧∃k,r = .blk g 130 (a1u (k)).flatten∧k.length=l.length∧∀q,k[q]? = a8K (l[·]?) m (m-a) (b-m) q):=by
 refine enter func340 call340 rfl ntmps340 rfl fun w0=>?_;refine go 4 ?_;refine o_v rfl (OV.cast (u:=.int .i64 ((m-a:Nat):Int)) (a1j rfl rfl ⟨oM,oM⟩) (congrArg (Value.int .i64) oM)) ?_;refine go 7 ?_;refine o_v rfl (OV.cast (u:=.int .i64 ((b-m:Nat):Int)) (a1j rfl rfl ⟨oM,oM⟩) (congrArg (Value.int .i64) oM)) ?_;refine go 5 ?_
 refine a4d (m-a) (b-m) (l) (fun i j k=>I)
  (fun i j k=>[(0,.slice (some ⟨g,0,none⟩) N N),(1,.int .i64 ((a:Nat):Int)),(2,.int .i64 ((m:Nat):Int)),(3,.int .i64 ((b:Nat):Int)),(4,.func (.func f) #[] #[]),(10,.int .i64 ((i:Nat):Int)),(11,.int .i64 ((j:Nat):Int))])
  (fun i j k=>[.blk g 130 (a1u (k)).flatten])
  (fun i j k=>1≤i∧1≤j∧i≤m∧m+j≤l.length∧k.length=l.length∧∀q,a8K (k[·]?) m i j q=a8K (l[·]?) m (m-a) (b-m) q)
  (fun i j k=>i+j) ⟨oM,oM,oM,oM,rfl,fun q=>rfl⟩ rfl sb rfl ?_
 intro i j k ⟨hi1,hj1,him,hmj,hkl,hk⟩;refine gC 8 (fun h20 p20=>?_) fun h20 p20=>?_
 ·refine gC 10 (fun h23 p23=>?_) fun h23 p23=>?_
  ·refine go 5 ?_;refine o_v rfl (OV.cast (u:=.int .i64 ((m-i:Nat):Int)) (a1j rfl rfl ⟨oM,oM⟩) (congrArg (Value.int .i64) oM)) ?_;refine go 4 ?_;refine a2V (b1j _ k N oM g (m-i) m j f oM oM oM) rfl rfl ?_;refine go 5 ?_;refine o_v rfl (OV.cast (u:=.int .i64 ((i-j:Nat):Int)) (a1j rfl rfl ⟨oM,oM⟩) (congrArg (Value.int .i64) oM)) ?_;refine go 4 ?_;exact a2n (i-j) (j) (a9H k (m-i) m j) ⟨oM,oM,oM,oM,(a3R _ _ _ _).trans hkl,fun q=>(c9o oM oM (a5F _ oM oM) q).trans (hk q)⟩ oM rfl sb rfl
  ·refine go 5 ?_;refine o_v rfl (OV.cast (u:=.int .i64 ((m-i:Nat):Int)) (a1j rfl rfl ⟨oM,oM⟩) (congrArg (Value.int .i64) oM)) ?_;refine go 4 ?_;refine o_v rfl (OV.cast (u:=.int .i64 ((m+j-i:Nat):Int)) (a1j rfl rfl ⟨oM,oM⟩) (congrArg (Value.int .i64) oM)) ?_;refine go 3 ?_;refine a2V (b1j _ k N oM g (m-i) (m+j-i) i f oM oM oM) rfl rfl ?_;refine go 5 ?_;refine o_v rfl (OV.cast (u:=.int .i64 ((j-i:Nat):Int)) (a1j rfl rfl ⟨oM,oM⟩) (congrArg (Value.int .i64) oM)) ?_;refine go 4 ?_;exact a2n (i) (j-i) (a9H k (m-i) (m+j-i) i) ⟨oM,oM,oM,oM,(a3R _ _ _ _).trans hkl,fun q=>(c9p oM oM (a5F _ oM oM) q).trans (hk q)⟩ oM rfl sb rfl
 ·obtain rfl:i=j:=by have:=p20;omega
  refine go 9 ?_;refine o_v rfl (OV.cast (u:=.int .i64 ((m-i:Nat):Int)) (a1j rfl rfl ⟨oM,oM⟩) (congrArg (Value.int .i64) oM)) ?_;refine go 4 ?_;refine a2V (b1j _ k N oM g (m-i) m i f oM oM oM) rfl rfl ?_;refine go 2 ?_;exact q_x ⟨rfl,a9H k (m-i) m i,rfl,(a3R _ _ _ _).trans hkl,fun q=>(c9n him (a5F _ oM oM) q).trans (hk q)⟩
theorem c4y (I:IMap) (N g:Nat) (f:FuncId) (hp:∀x y:Evt,FnV prog f #[.agg (Day.ch x).toArray,.agg (Day.ch y).toArray] I (.int .i64 (a9t (Day.day x) (Day.day y)))) (hN0:N≤1000000) (W:Nat) (ih:∀(l:List Evt) (a m b:Nat),l.length=N→b-a<W→a<m→m<b→b≤l.length→SrtD l a m→SrtD l m b→FnX prog 316 #[.slice (some ⟨g,0,none⟩) N N,.int .i64 ((a:Nat):Int),.int .i64 ((m:Nat):Int),.int .i64 ((b:Nat):Int),.func (.func f) #[] #[]] I [.blk g 130 (a1u (l)).flatten] (fun u r=>u = .tuple #[]∧∃m,r = .blk g 130 (a1u (m)).flatten∧Seg l m a b)) (l:List Evt) (a m b:Nat) (hN:l.length=N) (hW:b-a≤W) (ham:a<m) (hmb:m<b) (hb:b≤l.length) (m1:SrtD l a m) (m2:SrtD l m b) :
    FnX prog 316 #[.slice (some ⟨g,0,none⟩) N N,.int .i64 ((a:Nat):Int),.int .i64 ((m:Nat):Int),.int .i64 ((b:Nat):Int),.func (.func f) #[] #[]] I [.blk g 130 (a1u (l)).flatten] (fun u r=>u = .tuple #[]∧∃m,r = .blk g 130 (a1u (m)).flatten∧Seg l m a b):=by
 refine enter func316 call316 rfl ntmps316 rfl fun w0=>?_;refine go 5 ?_;refine o_v rfl (OV.cast (u:=.int .i64 ((m-a:Nat):Int)) (a1j rfl rfl ⟨oM,oM⟩) (congrArg (Value.int .i64) oM)) ?_;refine gC 3 (fun h28 p28=>?_) fun h28 p28=>?_
 ·obtain rfl:m=a+1:=oM;refine go 14 ?_
  refine a0B (a+1) (b) (fun i j=>I)
   (fun i j=>[(0,.slice (some ⟨g,0,none⟩) N N),(1,.int .i64 ((a:Nat):Int)),(2,.int .i64 ((a+1:Nat):Int)),(3,.int .i64 ((b:Nat):Int)),(4,.func (.func f) #[] #[]),(10,.int .i64 ((i:Nat):Int)),(11,.int .i64 ((j:Nat):Int))])
   (fun i j=>[.blk g 130 (a1u (l)).flatten])
   (fun i j=>a+1≤i∧i≤j∧j≤b∧(∀q,a+1≤q→q<i→a0s l q<a0s l a)∧(∀q,j≤q→q<b→a0s l a≤a0s l q))
   (fun i j=>j-i) ⟨oM,oM,oM,fun q _ _=>oM,fun q _ _=>oM⟩ rfl sb rfl ?_
  intro i j ⟨hi1,hij,hjb,hlo,hhi⟩;refine gC 8 (fun h33 p33=>?_) fun h33 p33=>?_
  ·have hh:(i+j) / 2<l.length:=oM;have ha0:a<l.length:=oM;refine go 8 ?_;refine o_v rfl (a2b he he rfl (m:=(i:Int)+(j:Int)) (wrap_u64 _ oM oM)) ?_;refine o_v rfl (a6P rfl (by decide)) ?_;refine o_v rfl (a2b he he rfl (m:=(((i+j) / 2:Nat):Int)) (by rw[IntKind.wrap_i64];omega)) ?_;refine go 5 ?_;refine dG 0 3 ?_;refine a0F 3 rfl rfl (by kernel_rfl) rfl (.refl _) rfl (a0l he rfl rfl rfl ((i+j) / 2) oM oM) ?_;refine a0F 4 rfl rfl (by kernel_rfl) rfl (.refl _) rfl (a1H m0 (a0k _) he rfl ((i+j) / 2) oM (a1s hh)) ?_;refine dG 5 2 ?_;refine a0F 7 rfl rfl (by kernel_rfl) rfl (.refl _) rfl (a0l he rfl rfl rfl (a) oM oM) ?_;refine a0F 8 rfl rfl (by kernel_rfl) rfl (.refl _) rfl (a1H m0 (a0k _) he rfl (a) oM (a1s ha0)) ?_;refine dH 9 0 ?_;refine cV (hp _ _) ?_;refine dG 10 1 ?_;refine gC 2 (fun h50 p50=>?_) fun h50 p50=>?_
   ·refine go 7 ?_;exact a0o ((i+j) / 2+1) (j) ⟨oM,oM,oM,fun q q1 q2=>by have:=m2.le (p:=q) (q:=(i+j) / 2) q1 oM oM;have:=c1N p50;omega,hhi⟩ oM rfl sb rfl
   ·refine go 6 ?_;exact a0o (i) ((i+j) / 2) ⟨oM,oM,oM,hlo,fun q q1 q2=>by have:=m2.le (p:=(i+j) / 2) (q:=q) oM q1 q2;have:=c1M p50;omega⟩ oM rfl sb rfl
  ·obtain rfl:i=j:=oM;refine go 13 ?_
   refine a0x (α:=Nat) 0 (fun t=>I)
    (fun t=>[(0,.slice (some ⟨g,0,none⟩) N N),(1,.int .i64 ((a:Nat):Int)),(2,.int .i64 ((a+1:Nat):Int)),(3,.int .i64 ((b:Nat):Int)),(4,.func (.func f) #[] #[]),(10,.int .i64 ((i:Nat):Int)),(13,.int .i64 ((a+t:Nat):Int))])
    (fun t=>[.blk g 130 (a1u (bub l a t)).flatten])
    (fun t=>a+t+1≤i)
    (fun t=>i-t) oM rfl sb rfl ?_
   intro t ht;refine go 5 ?_;refine o_v rfl (OV.cast (u:=.int .i64 ((i-1:Nat):Int)) (a1j rfl rfl ⟨oM,oM⟩) (congrArg (Value.int .i64) oM)) ?_;refine gC 3 (fun h58 p58=>?_) fun h58 p58=>?_
   ·have hbl:=b0c l a t;have hk1:a+t<(bub l a t).length:=oM;have hk2:a+t+1<(bub l a t).length:=oM;refine go 4 ?_;refine ds1 ?_;refine dG 0 4 ?_;refine a0F 4 rfl rfl (by kernel_rfl) rfl (.cons _ .slnil) rfl (OV.cast (u:=.int .i64 ((a+t+1:Nat):Int)) (a2u rfl rfl ⟨oM,oM⟩) (congrArg (Value.int .i64) oM)) ?_;refine dG 5 2 ?_;refine a0F 7 rfl rfl (by kernel_rfl) rfl (.cons _ .slnil) rfl (OV.cast (u:=.int .i64 ((a+t+1:Nat):Int)) (a2u rfl rfl ⟨oM,oM⟩) (congrArg (Value.int .i64) oM)) ?_;refine a0F 8 rfl rfl (by kernel_rfl) rfl (.cons _ .slnil) rfl (a0l he rfl rfl rfl (a+t+1) oM oM) ?_;refine dG 10 2 ?_;refine a0F 12 rfl rfl (by kernel_rfl) rfl (.cons _ .slnil) rfl (a0l he rfl rfl rfl (a+t) oM oM) ?_;refine dT2 9 13 ?_ ?_
    ·refine a0q rfl (a1H m0 (a0k _) he rfl (a+t+1) oM (a1s hk2)) ?_;refine dH 13 0 ?_;refine a0q rfl (a1H m0 (a0k _) he rfl (a+t) oM (a1s hk1)) ?_;refine go 1 ?_;refine a0F 14 rfl rfl (by kernel_rfl) rfl (.cons _ .slnil) rfl (a0l he rfl rfl rfl (a+t) oM oM) ?_;refine dH 15 0 ?_;refine a1U _ (a+t) (by first|exact a0k _|exact (a0k _).set rfl _) he rfl rfl rfl rfl rfl oM (by simp[a0t];omega) ?_;refine go 1 ?_;refine a0F 16 rfl rfl (by kernel_rfl) rfl (.cons _ .slnil) rfl (a0l he rfl rfl rfl (a+t+1) oM oM) ?_;refine dH 17 0 ?_;refine a1U _ (a+t+1) (by first|exact a0k _|exact (a0k _).set rfl _) he rfl rfl rfl rfl rfl oM (by simp[a0t];omega) ?_;refine go 6 ?_;refine o_v rfl (OV.cast (u:=.int .i64 ((a+(t+1):Nat):Int)) (a2u rfl rfl ⟨oM,oM⟩) (congrArg (Value.int .i64) oM)) ?_;refine go 3 ?_;exact a0w (t+1) oM oM rfl sb (by rw[bub];first|rw[←a4K hk1 hk2] | rw[←a3X hk1 hk2 oM])
    ·refine a0q rfl (a1H m0 (a0k _) he rfl (a+t) oM (a1s hk1)) ?_;refine dH 9 0 ?_;refine a0q rfl (a1H m0 (a0k _) he rfl (a+t+1) oM (a1s hk2)) ?_;refine go 1 ?_;refine a0F 14 rfl rfl (by kernel_rfl) rfl (.cons _ .slnil) rfl (a0l he rfl rfl rfl (a+t) oM oM) ?_;refine dH 15 0 ?_;refine a1U _ (a+t) (by first|exact a0k _|exact (a0k _).set rfl _) he rfl rfl rfl rfl rfl oM (by simp[a0t];omega) ?_;refine go 1 ?_;refine a0F 16 rfl rfl (by kernel_rfl) rfl (.cons _ .slnil) rfl (a0l he rfl rfl rfl (a+t+1) oM oM) ?_;refine dH 17 0 ?_;refine a1U _ (a+t+1) (by first|exact a0k _|exact (a0k _).set rfl _) he rfl rfl rfl rfl rfl oM (by simp[a0t];omega) ?_;refine go 6 ?_;refine o_v rfl (OV.cast (u:=.int .i64 ((a+(t+1):Nat):Int)) (a2u rfl rfl ⟨oM,oM⟩) (congrArg (Value.int .i64) oM)) ?_;refine go 3 ?_;exact a0w (t+1) oM oM rfl sb (by rw[bub];first|rw[←a4K hk1 hk2] | rw[←a3X hk1 hk2 oM])
   ·refine go 8 ?_;exact q_x ⟨rfl,_,rfl,(show i-1-a=t from oM)▸b8n m2 hi1 hjb hb hlo hhi⟩
 ·have hma:a+2≤m:=oM;refine go 7 ?_;refine o_v rfl (OV.cast (u:=.int .i64 ((b-m:Nat):Int)) (a1j rfl rfl ⟨oM,oM⟩) (congrArg (Value.int .i64) oM)) ?_;refine gC 3 (fun h80 p80=>?_) fun h80 p80=>?_
  ·obtain rfl:b=m+1:=oM;refine go 14 ?_
   refine a0B (a) (m) (fun i j=>I)
    (fun i j=>[(0,.slice (some ⟨g,0,none⟩) N N),(1,.int .i64 ((a:Nat):Int)),(2,.int .i64 ((m:Nat):Int)),(3,.int .i64 ((m+1:Nat):Int)),(4,.func (.func f) #[] #[]),(14,.int .i64 ((i:Nat):Int)),(15,.int .i64 ((j:Nat):Int))])
    (fun i j=>[.blk g 130 (a1u (l)).flatten])
    (fun i j=>a≤i∧i≤j∧j≤m∧(∀q,a≤q→q<i→a0s l q≤a0s l m)∧(∀q,j≤q→q<m→a0s l m<a0s l q))
    (fun i j=>j-i) ⟨oM,oM,oM,fun q _ _=>oM,fun q _ _=>oM⟩ rfl sb rfl ?_
   intro i j ⟨hi1,hij,hjb,hlo,hhi⟩;refine gC 8 (fun h85 p85=>?_) fun h85 p85=>?_
   ·have hh:(i+j) / 2<l.length:=oM;have hm0:m<l.length:=oM;refine go 8 ?_;refine o_v rfl (a2b he he rfl (m:=(i:Int)+(j:Int)) (wrap_u64 _ oM oM)) ?_;refine o_v rfl (a6P rfl (by decide)) ?_;refine o_v rfl (a2b he he rfl (m:=(((i+j) / 2:Nat):Int)) (by rw[IntKind.wrap_i64];omega)) ?_;refine go 5 ?_;refine dG 0 3 ?_;refine a0F 3 rfl rfl (by kernel_rfl) rfl (.refl _) rfl (a0l he rfl rfl rfl (m) oM oM) ?_;refine a0F 4 rfl rfl (by kernel_rfl) rfl (.refl _) rfl (a1H m0 (a0k _) he rfl (m) oM (a1s hm0)) ?_;refine dG 5 2 ?_;refine a0F 7 rfl rfl (by kernel_rfl) rfl (.refl _) rfl (a0l he rfl rfl rfl ((i+j) / 2) oM oM) ?_;refine a0F 8 rfl rfl (by kernel_rfl) rfl (.refl _) rfl (a1H m0 (a0k _) he rfl ((i+j) / 2) oM (a1s hh)) ?_;refine dH 9 0 ?_;refine cV (hp _ _) ?_;refine dG 10 2 ?_;refine gC 2 (fun h103 p103=>?_) fun h103 p103=>?_
    ·refine go 7 ?_;exact a0o ((i+j) / 2+1) (j) ⟨oM,oM,oM,fun q q1 q2=>by have:=m1.le (p:=q) (q:=(i+j) / 2) q1 oM oM;have:=c1M p103;omega,hhi⟩ oM rfl sb rfl
    ·refine go 6 ?_;exact a0o (i) ((i+j) / 2) ⟨oM,oM,oM,hlo,fun q q1 q2=>by have:=m1.le (p:=(i+j) / 2) (q:=q) oM q1 q2;have:=c1N p103;omega⟩ oM rfl sb rfl
   ·obtain rfl:i=j:=oM;refine go 13 ?_
    refine a0x (α:=Nat) 0 (fun t=>I)
     (fun t=>[(0,.slice (some ⟨g,0,none⟩) N N),(1,.int .i64 ((a:Nat):Int)),(2,.int .i64 ((m:Nat):Int)),(3,.int .i64 ((m+1:Nat):Int)),(4,.func (.func f) #[] #[]),(14,.int .i64 ((i:Nat):Int)),(17,.int .i64 ((m-t:Nat):Int))])
     (fun t=>[.blk g 130 (a1u (bud l m t)).flatten])
     (fun t=>t+i≤m)
     (fun t=>m-t) oM rfl ⟨rfl,rfl,rfl,rfl,rfl,rfl,congrArg (fun z:Int=>some (Value.int .i64 z)) oM,trivial⟩ rfl ?_
    intro t ht;refine gC 8 (fun h110 p110=>?_) fun h110 p110=>?_
    ·have hbl:=b0d l m t;have hk1:m-t<(bud l m t).length:=oM;have hk2:m-t-1<(bud l m t).length:=oM;refine go 4 ?_;refine ds1 ?_;refine dG 0 4 ?_;refine a0F 4 rfl rfl (by kernel_rfl) rfl (.cons _ .slnil) rfl (OV.cast (u:=.int .i64 ((m-t-1:Nat):Int)) (a1j rfl rfl ⟨oM,oM⟩) (congrArg (Value.int .i64) oM)) ?_;refine dG 5 2 ?_;refine a0F 7 rfl rfl (by kernel_rfl) rfl (.cons _ .slnil) rfl (OV.cast (u:=.int .i64 ((m-t-1:Nat):Int)) (a1j rfl rfl ⟨oM,oM⟩) (congrArg (Value.int .i64) oM)) ?_;refine a0F 8 rfl rfl (by kernel_rfl) rfl (.cons _ .slnil) rfl (a0l he rfl rfl rfl (m-t-1) oM oM) ?_;refine dG 10 2 ?_;refine a0F 12 rfl rfl (by kernel_rfl) rfl (.cons _ .slnil) rfl (a0l he rfl rfl rfl (m-t) oM oM) ?_;refine dT2 9 13 ?_ ?_
     ·refine a0q rfl (a1H m0 (a0k _) he rfl (m-t-1) oM (a1s hk2)) ?_;refine dH 13 0 ?_;refine a0q rfl (a1H m0 (a0k _) he rfl (m-t) oM (a1s hk1)) ?_;refine go 1 ?_;refine a0F 14 rfl rfl (by kernel_rfl) rfl (.cons _ .slnil) rfl (a0l he rfl rfl rfl (m-t) oM oM) ?_;refine dH 15 0 ?_;refine a1U _ (m-t) (by first|exact a0k _|exact (a0k _).set rfl _) he rfl rfl rfl rfl rfl oM (by simp[a0t];omega) ?_;refine go 1 ?_;refine a0F 16 rfl rfl (by kernel_rfl) rfl (.cons _ .slnil) rfl (a0l he rfl rfl rfl (m-t-1) oM oM) ?_;refine dH 17 0 ?_;refine a1U _ (m-t-1) (by first|exact a0k _|exact (a0k _).set rfl _) he rfl rfl rfl rfl rfl oM (by simp[a0t];omega) ?_;refine go 6 ?_;refine o_v rfl (OV.cast (u:=.int .i64 ((m-(t+1):Nat):Int)) (a1j rfl rfl ⟨oM,oM⟩) (congrArg (Value.int .i64) oM)) ?_;refine go 3 ?_;exact a0w (t+1) oM oM rfl sb (by rw[bud];first|rw[←a4K hk1 hk2] | rw[←a3X hk1 hk2 oM])
     ·refine a0q rfl (a1H m0 (a0k _) he rfl (m-t) oM (a1s hk1)) ?_;refine dH 9 0 ?_;refine a0q rfl (a1H m0 (a0k _) he rfl (m-t-1) oM (a1s hk2)) ?_;refine go 1 ?_;refine a0F 14 rfl rfl (by kernel_rfl) rfl (.cons _ .slnil) rfl (a0l he rfl rfl rfl (m-t) oM oM) ?_;refine dH 15 0 ?_;refine a1U _ (m-t) (by first|exact a0k _|exact (a0k _).set rfl _) he rfl rfl rfl rfl rfl oM (by simp[a0t];omega) ?_;refine go 1 ?_;refine a0F 16 rfl rfl (by kernel_rfl) rfl (.cons _ .slnil) rfl (a0l he rfl rfl rfl (m-t-1) oM oM) ?_;refine dH 17 0 ?_;refine a1U _ (m-t-1) (by first|exact a0k _|exact (a0k _).set rfl _) he rfl rfl rfl rfl rfl oM (by simp[a0t];omega) ?_;refine go 6 ?_;refine o_v rfl (OV.cast (u:=.int .i64 ((m-(t+1):Nat):Int)) (a1j rfl rfl ⟨oM,oM⟩) (congrArg (Value.int .i64) oM)) ?_;refine go 3 ?_;exact a0w (t+1) oM oM rfl sb (by rw[bud];first|rw[←a4K hk1 hk2] | rw[←a3X hk1 hk2 oM])
    ·refine go 8 ?_;exact q_x ⟨rfl,_,rfl,(show m-i=t from oM)▸b2f m1 hi1 hjb oM hlo hhi⟩
  ·have hmb2:m+2≤b:=oM;refine go 7 ?_;refine o_v rfl (a2b he he rfl (m:=(a:Int)+(b:Int)) (wrap_u64 _ oM oM)) ?_;refine o_v rfl (a6P rfl (by decide)) ?_;refine o_v rfl (a2b he he rfl (m:=(((a+b) / 2:Nat):Int)) (by rw[IntKind.wrap_i64];omega)) ?_;refine go 7 ?_;refine o_v rfl (OV.cast (u:=.int .i64 ((((a+b) / 2)+m:Nat):Int)) (a2u rfl rfl ⟨oM,oM⟩) (congrArg (Value.int .i64) oM)) ?_;refine go 10 ?_;refine b0e (Ix:=(fun S R=>I)) (Lx:=(fun S R=>[(0,.slice (some ⟨g,0,none⟩) N N),(1,.int .i64 ((a:Nat):Int)),(2,.int .i64 ((m:Nat):Int)),(3,.int .i64 ((b:Nat):Int)),(4,.func (.func f) #[] #[]),(18,.int .i64 ((((a+b) / 2):Nat):Int)),(19,.int .i64 ((((a+b) / 2)+m:Nat):Int)),(20,.int .i64 ((S:Nat):Int)),(21,.int .i64 ((R:Nat):Int))])) (Hx:=(fun S R=>[.blk g 130 (a1u (l)).flatten])) (p:=(fun S R=>(((a+b) / 2)<m∧S=((a+b) / 2)+m-b∧R=((a+b) / 2))∨(m≤((a+b) / 2)∧S=a∧R=m))) ?_ ?_
   ·refine gC 7 (fun h140 p140=>?_) fun h140 p140=>?_
    ·refine go 4 ?_;refine o_v rfl (OV.cast (u:=.int .i64 ((((a+b) / 2)+m-b:Nat):Int)) (a1j rfl rfl ⟨oM,oM⟩) (congrArg (Value.int .i64) oM)) ?_;refine go 8 ?_;exact a3G (((a+b) / 2)+m-b) (((a+b) / 2)) (.inl ⟨oM,rfl,rfl⟩) sb rfl rfl
    ·refine go 11 ?_;exact a3G (a) (m) (.inr ⟨oM,rfl,rfl⟩) sb rfl rfl
   ·intro S R hS;refine go 3 ?_;refine o_v rfl (OV.cast (u:=.int .i64 ((((a+b) / 2)+m-1:Nat):Int)) (a1j rfl rfl ⟨oM,oM⟩) (congrArg (Value.int .i64) oM)) ?_;refine go 5 ?_
    refine a0B (S) (R) (fun s r=>I)
     (fun s r=>[(0,.slice (some ⟨g,0,none⟩) N N),(1,.int .i64 ((a:Nat):Int)),(2,.int .i64 ((m:Nat):Int)),(3,.int .i64 ((b:Nat):Int)),(4,.func (.func f) #[] #[]),(18,.int .i64 ((((a+b) / 2):Nat):Int)),(19,.int .i64 ((((a+b) / 2)+m:Nat):Int)),(20,.int .i64 ((s:Nat):Int)),(21,.int .i64 ((r:Nat):Int)),(22,.int .i64 ((((a+b) / 2)+m-1:Nat):Int))])
     (fun s r=>[.blk g 130 (a1u (l)).flatten])
     (fun s r=>S≤s∧s≤r∧r≤R∧(∀q,S≤q→q<s→a0s l q≤a0s l (((a+b) / 2)+m-1-q))∧(∀q,r≤q→q<R→a0s l (((a+b) / 2)+m-1-q)<a0s l q))
     (fun s r=>r-s) ⟨oM,oM,oM,fun q _ _=>oM,fun q _ _=>oM⟩ rfl sb rfl ?_
    intro s r ⟨hs1,hsr,hrR,hlo,hhi⟩;refine gC 8 (fun h151 p151=>?_) fun h151 p151=>?_
    ·have hh:(s+r) / 2<l.length:=oM;have hh2:((a+b) / 2)+m-1-(s+r) / 2<l.length:=oM;refine go 8 ?_;refine o_v rfl (a2b he he rfl (m:=(s:Int)+(r:Int)) (wrap_u64 _ oM oM)) ?_;refine o_v rfl (a6P rfl (by decide)) ?_;refine o_v rfl (a2b he he rfl (m:=(((s+r) / 2:Nat):Int)) (by rw[IntKind.wrap_i64];omega)) ?_;refine go 5 ?_;refine dG 0 4 ?_;refine a0F 4 rfl rfl (by kernel_rfl) rfl (.refl _) rfl (OV.cast (u:=.int .i64 ((((a+b) / 2)+m-1-(s+r) / 2:Nat):Int)) (a1j rfl rfl ⟨oM,oM⟩) (congrArg (Value.int .i64) oM)) ?_;refine a0F 5 rfl rfl (by kernel_rfl) rfl (.refl _) rfl (a0l he rfl rfl rfl (((a+b) / 2)+m-1-(s+r) / 2) oM oM) ?_;refine a0F 6 rfl rfl (by kernel_rfl) rfl (.refl _) rfl (a1H m0 (a0k _) he rfl (((a+b) / 2)+m-1-(s+r) / 2) oM (a1s hh2)) ?_;refine dG 7 2 ?_;refine a0F 9 rfl rfl (by kernel_rfl) rfl (.refl _) rfl (a0l he rfl rfl rfl ((s+r) / 2) oM oM) ?_;refine a0F 10 rfl rfl (by kernel_rfl) rfl (.refl _) rfl (a1H m0 (a0k _) he rfl ((s+r) / 2) oM (a1s hh)) ?_;refine dH 11 0 ?_;refine cV (hp _ _) ?_;refine dG 12 2 ?_;refine gC 2 (fun h171 p171=>?_) fun h171 p171=>?_
     ·refine go 7 ?_;exact a0o ((s+r) / 2+1) (r) ⟨oM,oM,oM,c9s m1 m2 ham hmb rfl hS (h:=(s+r) / 2) (r:=r) oM oM hrR (c1M p171),hhi⟩ oM rfl sb rfl
     ·refine go 6 ?_;exact a0o (s) ((s+r) / 2) ⟨oM,oM,oM,hlo,c9r m1 m2 ham hmb rfl hS (h:=(s+r) / 2) (s:=s) hs1 oM oM (c1N p171)⟩ oM rfl sb rfl
    ·obtain rfl:s=r:=oM;obtain⟨hx,hy⟩:=c4j m1 m2 ham hmb rfl hS hs1 hrR hlo hhi;have g0:a≤s:=oM;have g1:s≤m:=oM;have g2:m≤((a+b) / 2+m-s):=oM;have g3:((a+b) / 2+m-s)≤b:=oM;have hc:s+(((a+b) / 2+m-s)-m)=((a+b) / 2):=oM;refine go 9 ?_;refine o_v rfl (OV.cast (u:=.int .i64 ((((a+b) / 2+m-s):Nat):Int)) (a1j rfl rfl ⟨oM,oM⟩) (congrArg (Value.int .i64) oM)) ?_;refine go 4 ?_;refine a7f (α:=List Evt) (Ix:=(fun k=>I)) (Lx:=(fun k=>[(0,.slice (some ⟨g,0,none⟩) N N),(1,.int .i64 ((a:Nat):Int)),(2,.int .i64 ((m:Nat):Int)),(3,.int .i64 ((b:Nat):Int)),(4,.func (.func f) #[] #[]),(18,.int .i64 ((((a+b) / 2):Nat):Int)),(20,.int .i64 ((s:Nat):Int)),(24,.int .i64 ((((a+b) / 2+m-s):Nat):Int))])) (Hx:=(fun k=>[.blk g 130 (a1u (k)).flatten])) (p:=(fun k=>Rot l k a s m ((a+b) / 2+m-s) b)) ?_ ?_
     ·refine gS 6 181 (fun h181 p181=>?_) fun h181 p181=>?_
      ·refine gC 6 (fun h185 p185=>?_) fun h185 p185=>?_
       ·refine go 7 ?_;refine a0Q (d5A _ l N hN g s m ((a+b) / 2+m-s) f oM oM oM oM) rfl rfl fun v191 s191 q191=>?_;obtain⟨rfl,k,rfl,hkl,hk⟩:=q191;refine go 2 ?_;exact a2A k (Rot.of g1 g2 oM hkl hk hx) sb rfl rfl
       ·refine go 2 ?_;exact a2A l (Rot.id oM g1 g2) sb rfl rfl
      ·refine go 9 ?_;exact a2A l (Rot.id oM g1 g2) sb rfl rfl
     ·intro k hk;refine go 1 ?_;refine a7f (α:=List Evt) (Ix:=(fun k1=>I)) (Lx:=(fun k1=>[(0,.slice (some ⟨g,0,none⟩) N N),(1,.int .i64 ((a:Nat):Int)),(2,.int .i64 ((m:Nat):Int)),(3,.int .i64 ((b:Nat):Int)),(4,.func (.func f) #[] #[]),(18,.int .i64 ((((a+b) / 2):Nat):Int)),(20,.int .i64 ((s:Nat):Int)),(24,.int .i64 ((((a+b) / 2+m-s):Nat):Int))])) (Hx:=(fun k1=>[.blk g 130 (a1u (k1)).flatten])) (p:=(fun k1=>Seg k k1 a ((a+b) / 2))) ?_ ?_
      ·refine gS 6 195 (fun h195 p195=>?_) fun h195 p195=>?_
       ·refine gC 6 (fun h199 p199=>?_) fun h199 p199=>?_
        ·refine go 7 ?_;refine a0Q (ih k a s ((a+b) / 2) (hk.len.trans hN) oM oM oM (by have:=hk.len;omega) (hk.p1 m1 g1) ((hk.p2 m2 g1 g2 g3).sub (Nat.le_refl _) oM)) rfl rfl fun v205 s205 q205=>?_;obtain⟨rfl,k1,rfl,hk1⟩:=q205;refine go 2 ?_;exact a2A k1 hk1 sb rfl rfl
        ·refine go 2 ?_;exact a2A k (Seg.refl' (hk.left m1 m2 g1 g2 g3 hc oM g0)) sb rfl rfl
       ·refine go 9 ?_;exact a2A k (Seg.refl' (hk.left m1 m2 g1 g2 g3 hc oM g0)) sb rfl rfl
      ·intro k1 hk1;have hl1:k1.length=N:=hk1.len.trans (hk.len.trans hN);refine gS 6 209 (fun h209 p209=>?_) fun h209 p209=>?_
       ·refine gC 6 (fun h213 p213=>?_) fun h213 p213=>?_
        ·refine go 7 ?_;refine a0Q (ih k1 ((a+b) / 2) ((a+b) / 2+m-s) b hl1 oM oM oM oM (hk1.keepD (Nat.le_refl _) ((hk.p3 m1 g0 g1 g2).sub oM (Nat.le_refl _))) (hk1.keepD oM (hk.p4 m2 g1 g2))) rfl rfl fun v219 s219 q219=>?_;obtain⟨rfl,k2,rfl,hk2⟩:=q219;refine go 2 ?_;exact q_x ⟨rfl,k2,rfl,hk.done m1 m2 g0 g1 g2 g3 hb hc hx hy hk1 hk2⟩
        ·refine go 2 ?_;exact q_x ⟨rfl,k1,rfl,hk.done m1 m2 g0 g1 g2 g3 hb hc hx hy hk1 (Seg.refl' (hk1.keepD (Nat.le_refl _) (hk.right m1 m2 g0 g1 g2 hc oM g3)))⟩
       ·refine go 9 ?_;exact q_x ⟨rfl,k1,rfl,hk.done m1 m2 g0 g1 g2 g3 hb hc hx hy hk1 (Seg.refl' (hk1.keepD (Nat.le_refl _) (hk.right m1 m2 g0 g1 g2 hc oM g3)))⟩
theorem b9b (I:IMap) (N g:Nat) (f:FuncId) (hp:∀x y:Evt,FnV prog f #[.agg (Day.ch x).toArray,.agg (Day.ch y).toArray] I (.int .i64 (a9t (Day.day x) (Day.day y)))) (hN0:N≤1000000) (W:Nat):∀(l:List Evt) (a m b:Nat),l.length=N→b-a≤W→a<m→m<b→b≤l.length→SrtD l a m→SrtD l m b→FnX prog 316 #[.slice (some ⟨g,0,none⟩) N N,.int .i64 ((a:Nat):Int),.int .i64 ((m:Nat):Int),.int .i64 ((b:Nat):Int),.func (.func f) #[] #[]] I [.blk g 130 (a1u (l)).flatten] (fun u r=>u = .tuple #[]∧∃m,r = .blk g 130 (a1u (m)).flatten∧Seg l m a b):=by
 induction W using Nat.strongRecOn with
 |_ W ih=>exact fun l a m b hN hW ham hmb hb m1 m2=>c4y I N g f hp hN0 W (fun l' a' m' b' h1 h2 h3 h4 h5 h6 h7=>ih (b'-a') h2 l' a' m' b' h1 (Nat.le_refl _) h3 h4 h5 h6 h7) l a m b hN hW ham hmb hb m1 m2
theorem d5J (I:IMap) (N g:Nat) (f:FuncId) (hp:∀x y:Evt,FnV prog f #[.agg (Day.ch x).toArray,.agg (Day.ch y).toArray] I (.int .i64 (a9t (Day.day x) (Day.day y)))) (hN0:N≤1000000) (l:List Evt) (hN:l.length=N) :
    FnX prog 268 #[.slice (some ⟨g,0,none⟩) N N,.int .i64 ((N:Nat):Int),.func (.func f) #[] #[]] I [.blk g 130 (a1u (l)).flatten] (fun u r=>u = .tuple #[]∧∃m,r = .blk g 130 (a1u (m)).flatten∧Stb l m∧SrtD m 0 N):=by
 refine enter func268 call268 rfl ntmps268 rfl fun w0=>?_;refine go 14 ?_
 refine a0B (0) (l) (fun a m=>I)
  (fun a m=>[(0,.slice (some ⟨g,0,none⟩) N N),(1,.int .i64 ((N:Nat):Int)),(2,.func (.func f) #[] #[]),(6,.int .i64 20),(7,.int .i64 ((a:Nat):Int)),(8,.int .i64 ((a+20:Nat):Int))])
  (fun a m=>[.blk g 130 (a1u (m)).flatten])
  (fun a m=>a≤N∧Stb l m∧Pre m 20 a)
  (fun a m=>N-a) ⟨Nat.zero_le _,Stb.refl l,.zero⟩ rfl sb rfl ?_
 intro a m ⟨ha,hs,hP⟩;have hmN:m.length=N:=hs.1.symm.trans hN;refine gC 8 (fun h13 p13=>?_) fun h13 p13=>?_
 ·refine go 10 ?_;refine a0Q (c2D _ m N hmN g a (a+20) f hp oM oM oM) rfl rfl fun v18 s18 q18=>?_;obtain⟨rfl,k18,rfl,h18⟩:=q18;refine go 11 ?_;refine o_v rfl (OV.cast (u:=.int .i64 ((a+20+20:Nat):Int)) (a2u rfl rfl ⟨oM,oM⟩) (congrArg (Value.int .i64) oM)) ?_;refine go 4 ?_;exact a0o (a+20) (k18) ⟨oM,hs.trans h18.stb,hP.put h18⟩ oM rfl sb rfl
 ·refine go 12 ?_;refine a0Q (c2D _ m N hmN g a N f hp ha oM oM) rfl rfl fun v27 s27 q27=>?_;obtain⟨rfl,m3,rfl,h27⟩:=q27;refine go 3 ?_
  refine a0B (20) (m3) (fun q m=>I)
   (fun q m=>[(0,.slice (some ⟨g,0,none⟩) N N),(1,.int .i64 ((N:Nat):Int)),(2,.func (.func f) #[] #[]),(6,.int .i64 ((q:Nat):Int))])
   (fun q m=>[.blk g 130 (a1u (m)).flatten])
   (fun q m=>1≤q∧Stb l m∧Blk m q N 0)
   (fun q m=>N-q) ⟨oM,hs.trans h27.stb,hP.last h27 ha oM⟩ rfl sb rfl ?_
  intro q m ⟨hq,hs,hB⟩;have hmN:m.length=N:=hs.1.symm.trans hN;refine gC 8 (fun h30 p30=>?_) fun h30 p30=>?_
  ·refine go 6 ?_;refine o_v rfl (OV.cast (u:=.int .i64 ((2 * q:Nat):Int)) (b5E rfl rfl ⟨oM,oM⟩) (congrArg (Value.int .i64) oM)) ?_;refine go 6 ?_
   refine a0B (0) (m) (fun a k=>I)
    (fun a k=>[(0,.slice (some ⟨g,0,none⟩) N N),(1,.int .i64 ((N:Nat):Int)),(2,.func (.func f) #[] #[]),(6,.int .i64 ((q:Nat):Int)),(7,.int .i64 ((a:Nat):Int)),(8,.int .i64 ((a+2 * q:Nat):Int))])
    (fun a k=>[.blk g 130 (a1u (k)).flatten])
    (fun a k=>a≤N∧Stb l k∧Pre k (2 * q) a∧Blk k q N a)
    (fun a k=>N-a) ⟨Nat.zero_le _,hs,.zero,hB⟩ rfl ⟨rfl,rfl,rfl,rfl,rfl,congrArg (fun z:Int=>some (Value.int .i64 z)) oM,trivial⟩ rfl ?_
   intro a k ⟨ha,hkS,hkP,hkB⟩;have hkN:k.length=N:=hkS.1.symm.trans hN;refine gC 8 (fun h35 p35=>?_) fun h35 p35=>?_
   ·obtain⟨t1,t2,t3⟩:=hkB.two oM hq;refine go 9 ?_;refine o_v rfl (OV.cast (u:=.int .i64 ((a+q:Nat):Int)) (a2u rfl rfl ⟨oM,oM⟩) (congrArg (Value.int .i64) oM)) ?_;refine go 3 ?_;refine a0Q (b9b _ N g f hp hN0 _ k a (a+q) (a+2 * q) hkN (Nat.le_refl _) oM oM oM t1 t2) rfl rfl fun v43 s43 q43=>?_;obtain⟨rfl,k43,rfl,h43⟩:=q43;refine go 11 ?_;refine o_v rfl (OV.cast (u:=.int .i64 ((2 * q:Nat):Int)) (b5E rfl rfl ⟨oM,oM⟩) (congrArg (Value.int .i64) oM)) ?_;refine o_v rfl (OV.cast (u:=.int .i64 ((a+2 * q+2 * q:Nat):Int)) (a2u rfl rfl ⟨oM,oM⟩) (congrArg (Value.int .i64) oM)) ?_;refine go 4 ?_;exact a0o (a+2 * q) (k43) ⟨oM,hkS.trans h43.stb,hkP.put h43,t3.same fun z z1 z2=>h43.out z (.inr oM)⟩ oM rfl sb rfl
   ·refine go 6 ?_;refine a7f (α:=List Evt) (Ix:=(fun k=>I)) (Lx:=(fun k=>[(0,.slice (some ⟨g,0,none⟩) N N),(1,.int .i64 ((N:Nat):Int)),(2,.func (.func f) #[] #[]),(6,.int .i64 ((q:Nat):Int))])) (Hx:=(fun k=>[.blk g 130 (a1u (k)).flatten])) (p:=(fun k=>Stb l k∧Blk k (2 * q) N 0)) ?_ ?_
    ·refine go 4 ?_;refine o_v rfl (OV.cast (u:=.int .i64 ((a+q:Nat):Int)) (a2u rfl rfl ⟨oM,oM⟩) (congrArg (Value.int .i64) oM)) ?_;refine gC 10 (fun h54 p54=>?_) fun h54 p54=>?_
     ·obtain⟨t1,t2⟩:=hkB.one oM;refine go 7 ?_;refine a0Q (b9b _ N g f hp hN0 _ k a (a+q) N hkN (Nat.le_refl _) oM oM oM t1 (t2 oM)) rfl rfl fun v60 s60 q60=>?_;obtain⟨rfl,k60,rfl,h60⟩:=q60;refine go 2 ?_;exact a2A k60 ⟨hkS.trans h60.stb,hkP.last h60 ha oM⟩ sb rfl rfl
     ·refine go 2 ?_;exact a2A k ⟨hkS,hkP.last (Seg.refl' (hkB.all oM)) ha oM⟩ sb rfl rfl
    ·intro k ⟨hkS,hkB⟩;refine go 2 ?_;refine o_v rfl (OV.cast (u:=.int .i64 ((2 * q:Nat):Int)) (b5E rfl rfl ⟨oM,oM⟩) (congrArg (Value.int .i64) oM)) ?_;refine go 4 ?_;exact a0o (2 * q) (k) ⟨oM,hkS,hkB⟩ oM rfl sb rfl
  ·refine go 5 ?_;exact q_x ⟨rfl,m,rfl,hs,hB.all oM⟩
theorem c0J (I:IMap) (N g:Nat) (f:FuncId) (hp:∀x y:Evt,FnV prog f #[.agg (Day.ch x).toArray,.agg (Day.ch y).toArray] I (.int .i64 (a9t (Day.day x) (Day.day y)))) (hN0:N≤1000000) (l:List Evt) (hN:l.length=N) :
    FnX prog 201 #[.slice (some ⟨g,0,none⟩) N N,.func (.func f) #[] #[]] I [.blk g 130 (a1u (l)).flatten] (fun u r=>u = .tuple #[]∧∃m,r = .blk g 130 (a1u (m)).flatten∧Stb l m∧SrtD m 0 N):=by
 refine enter func201 call201 rfl ntmps201 rfl fun w0=>?_;refine go 6 ?_;refine a0Q (d5J _ N g f hp hN0 l hN) rfl rfl fun v8 s8 q8=>?_;obtain⟨rfl,m8,rfl,h8⟩:=q8;refine go 2 ?_;exact q_x ⟨rfl,m8,rfl,h8⟩
theorem d2v (I:IMap) (v:Value) (l:List Evt) (hv:RdS I v l) (hl:l.length≤1000000) (f:FuncId) (hp:∀x y:Evt,FnV prog f #[.agg (Day.ch x).toArray,.agg (Day.ch y).toArray] I (.int .i64 (a9t (Day.day x) (Day.day y)))) :
    FnI prog 119 #[v,.func (.func f) #[] #[]] I (fun u J=>RdS J u (a1N l)):=by
 obtain⟨A,c,rfl,hA,hc,hm⟩:=hv;refine enter func119 call119 rfl ntmps119 rfl fun w0=>?_;refine go 10 ?_;refine a4x he he rfl rfl rfl oM oM rfl fun g8=>?_;refine go 8 ?_;obtain⟨xss,hx,hcell⟩:=hA.pieces;obtain rfl:=b5Z hx;refine a6L (a1u l) 0 he rfl rfl (by rw[a0t];simp) (Uk.rep (c:=[.int .i64 0,.int .i64 0,.string ⟨#[]⟩,.string ⟨#[]⟩,.string ⟨#[]⟩,.string ⟨#[]⟩,.string ⟨#[]⟩,.string ⟨#[]⟩,.int .i64 0,.int .i64 0,.int .i64 0,.int .i64 0,.int .i64 0,.int .i64 0]) rfl _) (a0k l) hx.one (fun _=>by rw[Nat.zero_mul]) (fun hp=>by rw[a0t]at hp;obtain⟨b,o,e,h⟩:=hcell hp;exact⟨b,o,e,fun w mm j u hu=>(h j u hu).at_ mm.con⟩) (by rw[a0t];simp) rfl ?_;refine a4C (yss:=a1u l) (by rw[a0t];simp) ?_;refine go 7 ?_;refine a0Q (c0J _ l.length g8 f hp hl l rfl) rfl rfl fun v14 s14 q14=>?_;obtain⟨rfl,m14,rfl,h14,s14⟩:=q14;refine go 10 ?_;have hml:m14.length=l.length:=h14.1.symm;obtain rfl:=b8U h14 (SrtD.pw (by rw[hml];exact s14));refine c4x (m:=l.length) (a0k _) (by rw[a0t,hml]) (by unfold maxLen;omega) ?_;refine a0i (l:=a1N l) rfl hml.symm (a7o _).flat fun J hJ R=>?_;exact q_i R
theorem d6Y (I:IMap) (x y:Evt) :
    FnV prog 120 #[.agg (Day.ch x).toArray,.agg (Day.ch y).toArray] I (.int .i64 (a9t (Day.day x) (Day.day y))):=by
 refine enter func120 call120 rfl ntmps120 rfl fun w0=>?_
 show SX _ _ _ (a9V [.agg x.cells.toArray,.agg y.cells.toArray] 0) _ _
 refine go 4 fun g2=>?_
 refine go 2 fun g3=>?_
 refine go 10 ?_;refine cV (b0m _ _ _) ?_;refine go 5 ?_;exact q_v rfl
theorem d3F (I:IMap) (v:Value) (l:List Evt) (hv:RdS I v l) (hl:l.length≤1000000) :
    FnI prog 56 #[v] I (fun u J=>RdS J u (a1N l)):=by
 refine enter func56 call56 rfl ntmps56 rfl fun w0=>?_;refine go 9 ?_;refine a0m (d2v _ v l hv hl 120 (fun x y=>d6Y _ x y)) rfl rfl fun v4 I4 j4 q4=>?_;refine go 5 ?_;exact q_i q4
end Go.Proofs.YtgmkjpafapgccaaGreat
namespace Go.Proofs.YtgmkjpafapgccaaGreat
open Go Go.Sx Tryz
set_option linter.all false
set_option maxRecDepth 20000
set_option maxHeartbeats 4000000
instance:Has (tyK prog 63) (false,1):=hk
instance:Has (tyK prog 72) (false,1):=hk
instance:Has (a1o prog 3) [.int .i64 0]:=hk
instance:Has (a1o prog 63) [.int .i64 0]:=hk
theorem a6I (I:IMap) (v:Value) (l:List Evt) (hl:l.length≤1000000) (f:FuncId) (cs:List Value) (p:Evt→Bool) (hp:∀I2,ILe I I2→∀x:Evt,FnV prog f ([Value.agg (Day.ch x).toArray]++cs).toArray I2 (.bool (p x))) :
    FnD prog 53 #[v,.func (.func f) #[] cs.toArray] I (.row v 130 14 l.length (a1u l).flatten) (fun u J=>RdS J u (l.filter fun x=>!p x)):=by
 refine enter func53 call53 rfl ntmps53 rfl fun w0=>?_;refine go 10 ?_;refine b0P m0 rfl rfl ((a7o l).flat) (fun I2 hI2 hR=>b3d I2 _ l hR f cs p (fun x _ vs hx=>by cases hx;exact hp I2 hI2 x)) rfl rfl ?_;refine gC 10 (fun h12 p12=>?_) fun h12 p12=>?_
 ·refine go 9 ?_
  have hall:l.filter (fun x=>!p x)=l:=by
    rw[List.filter_eq_self];intro x hx;have:=a2Q p l;rw[show decide (0≤a4G p l)=false from by rw[p12];rfl]at this
    simpa using List.any_eq_false.1 this.symm x hx
  refine a0i (l:=l) rfl rfl (a7o l).flat fun J hJ R=>?_;exact q_d (by rw[hall];exact R)
 ·obtain⟨i0,hi0,hx0,hp0,hn0⟩:∃(i:Nat) (h:i<l.length),a4G p l=(i:Int)∧p l[i]=true∧∀j x,j<i→l[j]? = some x→p x=false:=by
    rcases a5f p l with ⟨h1,_⟩|⟨i,hi,h1,h2⟩
    · exfalso;have:=p12;have : -1≤a4G p l:=c2x p l;omega
    · rw[List.find?_eq_some_iff_getElem]at h2
      obtain⟨h3,k,hk,h4,h5⟩:=h2;obtain⟨h6,h7⟩:=b7W h1 hi;exact⟨i,hi,h1,h6,h7⟩
  refine a6O (a0k l) (a0t l) (fun h0 _=>oM) fun g cap rest hv hR hcap hmax=>?_;subst hv;have hcap1:l.length≤cap:=oM;refine go 6 ?_;refine o_v rfl (OV.cast (u:=.int .i64 ((i0+1:Nat):Int)) (a2u rfl rfl ⟨oM,oM⟩) (congrArg (Value.int .i64) (by rw[hx0];omega))) ?_;refine go 4 ?_
  refine a4d (i0) (i0+1) (l) (fun i j m=>I)
   (fun i j m=>[(0,.slice (some ⟨g,0,none⟩) l.length cap),(1,.func (.func f) #[] cs.toArray),(5,.int .i64 ((i:Nat):Int)),(6,.int .i64 ((j:Nat):Int))])
   (fun i j m=>[.blk g 130 (a1u m++rest).flatten])
   (fun i j m=>Del p l m i j)
   (fun i j m=>l.length-j) (Del.start hi0 hp0 hn0) rfl ⟨rfl,rfl,congrArg (fun z:Int=>some (Value.int .i64 z)) hx0,rfl,trivial⟩ rfl ?_
  intro i j m hD;have hml:=hD.len;have hij:=hD.le;have hjl:=hD.hj;refine gC 9 (fun h19 p19=>?_) fun h19 p19=>?_
  ·have hlt:j<l.length:=oM;have hjm:j<m.length:=oM;have hat:=hD.at_ hlt;refine go 8 ?_;refine o_v rfl (a0l he rfl rfl rfl (j) oM oM) ?_;refine o_v rfl (a1H m0 ((a0k _).append hR) he rfl (j) oM (c2c hjm)) ?_;refine go 2 fun g7=>?_
   refine go 9 ?_;refine cV (hp _ (ILe.refl _) _) ?_;refine gC 3 (fun h29 p29=>?_) fun h29 p29=>?_
   ·refine go 5 ?_;refine o_v rfl (a0l he rfl rfl rfl (i) oM oM) ?_;refine go 1 ?_;refine a0b ?_;refine a1U _ (i) ((a0k _).append hR) he rfl rfl rfl rfl rfl oM (by simp[a0t];omega) ?_;refine go 4 ?_;refine o_v rfl (OV.cast (u:=.int .i64 ((i+1:Nat):Int)) (a2u rfl rfl ⟨oM,oM⟩) (congrArg (Value.int .i64) oM)) ?_;refine go 6 ?_;refine o_v rfl (OV.cast (u:=.int .i64 ((j+1:Nat):Int)) (a2u rfl rfl ⟨oM,oM⟩) (congrArg (Value.int .i64) oM)) ?_;refine go 3 ?_;refine a0b ?_;refine a0a ?_;exact a2n (i+1) (j+1) (m.set i l[j]) (hD.keep hlt (by simpa[hat]using p29)) oM rfl sb (by rw[←c2d _ _ _ oM,hat])
   ·refine go 5 ?_;refine o_v rfl (OV.cast (u:=.int .i64 ((j+1:Nat):Int)) (a2u rfl rfl ⟨oM,oM⟩) (congrArg (Value.int .i64) oM)) ?_;refine go 3 ?_;refine a0a ?_;exact a2n (i) (j+1) (m) (hD.skip hlt (by simpa[hat]using p29)) oM rfl sb rfl
  ·obtain rfl:j=l.length:=oM;have hfi:m.take i=l.filter fun x=>!p x:=by have:=hD.fst;rwa[List.take_length]at this
   refine go 9 ?_;refine o_v rfl (a0L he rfl rfl i rfl oM) ?_;refine go 1 ?_;refine b6y i he he rfl rfl rfl rfl ((a0k _).append hR) (fun _=>a1z (k:=14) oM) (by simp[a0t];omega) ?_;refine go 6 ?_;refine o_v rfl (a2F he rfl rfl i rfl oM) ?_;refine go 5 ?_;have htk:(a1u m++rest).take i=a1u (l.filter fun x=>!p x):=by rw[List.take_append_of_le_length (by rw[a0t];omega),←hfi,a1u,a1u,List.map_take]
   have hll:(l.filter fun x=>!p x).length=i:=by rw[←hfi,List.length_take];omega
   rw[htk];refine a2e (m:=i) (cap:=cap) (a0k _) ((Uk.rep (c:=[.int .i64 0,.int .i64 0,.string ⟨#[]⟩,.string ⟨#[]⟩,.string ⟨#[]⟩,.string ⟨#[]⟩,.string ⟨#[]⟩,.string ⟨#[]⟩,.int .i64 0,.int .i64 0,.int .i64 0,.int .i64 0,.int .i64 0,.int .i64 0]) rfl _).append (Uk.drop ((a0k _).append hR) _)) (by rw[a0t,hll]) (by simp[a0t];omega) hmax ?_;refine a0i (l:=l.filter fun x=>!p x) rfl hll.symm (a7o _).flat fun J hJ R=>?_;exact q_d R
theorem c5s (I:IMap) (x:Evt) (g:Nat) (day:Int) (cg:ICells I g 0 [ci day]) :
    FnV prog 285 #[.agg (Day.ch x).toArray,.pointer (some ⟨g,0,none⟩)] I (.bool (decide (x.day>day))):=by
 refine enter func285 call285 rfl ntmps285 rfl fun w0=>?_
 show SX _ _ _ (a9V [.agg x.cells.toArray,.pointer (some ⟨g,0,none⟩)] 0) _ _
 refine go 4 fun g2=>?_
 refine go 7 ?_;refine o_v rfl (a0v he rfl (cg 0 _ rfl)) ?_;refine go 6 ?_;exact q_v rfl
theorem c8l (I:IMap) (vc:Value) (c:List Kind) (hvc:RdS I vc c) (hsc:SmC c) (v:Value) (l:List Evt) (hv:RdS I v l) (hse:∀e∈l,SmE e) (g3 g2:Nat) (c3:ICells I g3 0 [v]) (c2:ICells I g2 0 [vc]) :
    c0W prog 348 [.pointer (some ⟨g3,0,none⟩),.pointer (some ⟨g2,0,none⟩)] I d8N (fun pre x=>pre++[x] <+: a1b c [] l) (fun pre=>pre=a1b c [] l) (fun _=>True):=by
 have hv0:=hv;obtain⟨A,c0,rfl,hA,hc,hm⟩:=hv;intro ly J I1 Hc hI1 hJm hY hJ0;have hvc:=hvc.le hI1;have hv0:=hv0.le hI1;have hA:=hA.le hI1;have c3:=c3.le hI1;have c2:=c2.le hI1;refine enter func348 call348 rfl ntmps348 rfl fun w0=>?_;refine go 4 fun g4=>?_
 refine go 10 ?_
 refine a5t (0) ([]) (.slice none 0 0) (I1) (Hc) (fun i st v4 I2 Hc=>I2)
  (fun i st v4 I2 Hc=>[(0,.func (.yield ly) #[] #[]),(1,.pointer (some ⟨g3,0,none⟩)),(2,.pointer (some ⟨g2,0,none⟩)),(4,.pointer (some ⟨g4,0,none⟩)),(9,.slice A l.length c0),(10,.int .i64 (l.length:Int)),(11,.int .i64 ((i:Nat):Int))])
  (fun i st v4 I2 Hc=>.blk g4 62 [v4]::Hc)
  (fun i st v4 I2 Hc=>i≤l.length∧ILe I1 I2∧StAt c l i st∧J true ((a1b c [] l).take i) I2 Hc∧RdS I2 v4 st∧SmF st)
  (fun i st v4 I2 Hc=>l.length-i) ⟨Nat.zero_le _,ILe.refl _,StAt.zero c l,hJ0,RdS.nil',SmF.nil⟩ rfl sb rfl ?_
 intro i st v4 I2 Hc ⟨hi,hI2,hSt,hJ,hv4,hsf⟩;have hvc:=hvc.le hI2;have hA:=hA.le hI2;have c2:=c2.le hI2;refine gC 6 (fun h12 p12=>?_) fun h12 p12=>?_
 ·have hlt:i<l.length:=oM;obtain⟨hS1,hS2,hS3,hS4⟩:=hSt.step hlt;refine go 6 ?_;obtain⟨b13,o13,w13,e13,c13,r13⟩:=RdA.at_ hA (i:=i) hlt;obtain rfl:=r13;refine go 4 fun g6=>?_
  refine go 10 ?_;refine a0m (b6i _ vc c hvc hsc v4 st hv4 hsf l[i] (hse _ (List.getElem_mem hlt))) rfl rfl fun v19 I19 j19 q19=>?_;obtain⟨w19,rfl,hw19⟩:=q19;refine go 5 fun g7=>?_
  refine go 1 ?_;refine a0Y _ he rfl rfl rfl rfl rfl (by simp[RdS.one hw19]) ?_;refine go 10 ?_;refine c6U (a0j c st l[i]) hY (hJm _ _ _ _ _ j19 hJ) (⟨_,rfl,hw19⟩) (⟨(a1b c [] l).drop (i+1),by rw[hS1,List.take_append_drop]⟩) rfl rfl rfl fun b25 I25 Hc25 j25 hJ25=>?_;have hw19:=hw19.le j25;refine gS 2 27 (fun h27 p27=>?_) fun h27 p27=>?_
  ·refine go 13 ?_;refine a0a ?_;refine a0a ?_;refine a0a ?_;subst p27;exact c3R false _ hJ25 trivial
  ·refine gC 5 (fun h30 p30=>?_) fun h30 p30=>?_
   ·refine go 7 ?_;refine a0a ?_;refine a0a ?_;refine a0a ?_;subst p27;exact c3R true _ hJ25 (hS1.trans (hS4 (by simpa using p30)))
   ·subst p27;have h0:(a0j c st l[i]).2=0:=by simpa using p30
    have hsm:=a9T (c:=c) hsf (hse _ (List.getElem_mem hlt));refine go 5 ?_;refine a0d ?_;refine a0Y _ he rfl rfl rfl rfl rfl (by simp[RdS.one hw19]) ?_;refine go 8 ?_;refine a0b ?_;refine a0a ?_;refine a0b ?_;refine a0a ?_;exact a2Y (i+1) ((a0j c st l[i]).1) (w19) (I25) (Hc25) ⟨oM,(hI2.trans j19).trans j25,hS3 h0,by rw[←hS1];exact hJ25,hw19,hsm⟩ oM rfl sb rfl
 ·have hil:i=l.length:=oM;refine go 5 ?_;refine a0a ?_;exact c3R true _ hJ (hSt.last oM)
theorem d2A (I:IMap) (A:Option Addr) (m k:Nat) (vc:Value) :
    FnI prog 330 #[.agg #[vc],.slice A m k] I (fun u J=>∃g3 g2,u = .func (.func 348) #[] #[.pointer (some ⟨g3,0,none⟩),.pointer (some ⟨g2,0,none⟩)]∧ICells J g3 0 [.slice A m k]∧ICells J g2 0 [vc]):=by
 refine enter func330 call330 rfl ntmps330 rfl fun w0=>?_;refine go 4 fun g2=>?_
 refine go 2 fun g3=>?_
 refine go 5 ?_;refine a0A fun Ig3 jg3 cg3=>?_;refine a0A fun Ig2 jg2 cg2=>?_;have cg3:=(cg3).le jg2;refine go 6 ?_;exact q_i ⟨_,_,rfl,cg3,cg2⟩
theorem d8x (I:IMap) (vc:Value) (c:List Kind) (hvc:RdS I vc c) (hsc:SmC c) (v:Value) (l:List Evt) (hv:RdS I v l) (hl:l.length≤1000000) (hse:∀e∈l,SmE e) :
    FnI prog 284 #[.agg #[vc],v] I (fun u J=>∃w,u = .tuple #[.agg #[w],.int .i64 (b6X c l).2.1,.int .i64 (b6X c l).2.2]∧RdS J w (b6X c l).1):=by
 refine enter func284 call284 rfl ntmps284 rfl fun w0=>?_;refine go 4 fun g2=>?_
 refine go 2 fun g4=>?_
 refine go 2 fun g5=>?_
 refine go 2 fun g6=>?_
 refine go 7 ?_;refine cV (a7g _ vc c hvc hsc) ?_;refine gC 3 (fun h13 p13=>?_) fun h13 p13=>?_
 ·refine go 4 ?_;refine a0d ?_;refine go 2 ?_;refine a0d ?_;refine go 2 ?_;refine a0d ?_;refine go 6 ?_;have hr:b6X c l=([],-1,1):=by unfold b6X;rw[if_pos (by simpa using h13)]
  exact q_i ⟨_,by rw[hr],by rw[hr];exact RdS.nil'⟩
 ·refine go 6 fun g7=>?_
  refine go 6 fun g8=>?_
  refine go 6 ?_;refine a1P fun hE5 hf5=>?_;refine go 1 ?_;refine dH 0 2 ?_;refine a0m (d3F _ v l hv hl) rfl rfl fun v17 I17 j17 q17=>?_;have hvc:=hvc.le j17;have q17s:=q17;obtain⟨A17,k17,rfl,_⟩:=q17s;refine dH 3 0 ?_;refine a0m (d2A _ A17 _ k17 vc) rfl rfl fun v18 I18 j18 q18=>?_;have hvc:=hvc.le j18;have q17:=q17.le j18;obtain⟨g3,g2,rfl,c3,c2⟩:=q18;refine go 4 ?_;refine a0d ?_;refine a0u ?_;refine a1y ?_;refine a0u ?_;refine a1y ?_;refine b0f (σ:=Value×Int×Value×Int×Int) (ps:=[19,20]) (.slice none 0 0,0,.slice none 0 0,0,0) (fun ⟨v7,i,a,b,e⟩=>[.blk g7 62 [v7],.blk g8 3 [ci i],.blk g4 62 [a],.blk g5 3 [ci b],.blk g6 63 [ci e]]) (fun pre I ⟨v7,i,a,b,e⟩=>i=(pre.length:Nat)∧a = .slice none 0 0∧b=0∧e=0∧(∀x∈pre,x.2=0)∧RdS I v7 (c0a [] pre)) (fun pre I ⟨v7,i,a,b,e⟩ cd=>cd = .ret∧a = .slice none 0 0∧∃pr x t,a1b c [] (a1N l)=pr++x::t∧(∀x∈pr,x.2=0)∧x.2≠0∧b=(pr.length:Nat)∧e=x.2) rfl call348 (c8l _ vc c hvc hsc _ (a1N l) q17 (fun e he=>hse e (a7X.1 he)) g3 g2 c3 c2) (fun I vs x h=>by obtain⟨w,rfl,_⟩:=h;rfl) rfl (fun pre I I' s hI h=>by obtain⟨v7,i,a,b,e⟩:=s;exact⟨h.1,h.2.1,h.2.2.1,h.2.2.2.1,h.2.2.2.2.1,h.2.2.2.2.2.le hI⟩) (fun _ _ _ _ _ _ h=>h) (⟨rfl,rfl,rfl,rfl,(fun _ h=>by cases h),RdS.nil'⟩) rfl ?_ ?_ ?_
  ·rintro r E1 pre x vs I1 ⟨v7,i,a,b,e⟩ hI1 ⟨rfl,rfl,rfl,rfl,hok,hv7⟩ ⟨w,rfl,hw⟩ hpf;obtain⟨t,ht⟩:=id hpf;rw[List.append_assoc]at ht
   have hlen:=hpf.length_le;have hsl:=b2y c (a1N l) [];rw[List.length_append,List.length_singleton]at hlen
   rw[a4B]at hsl
   refine d2F ?_;refine go 4 fun g9=>?_
   refine go 1 ?_;refine a0Y _ he rfl rfl rfl rfl rfl (by simp[RdS.one hw]) ?_;refine go 5 ?_;refine a0b ?_;refine b1b ?_;refine gC 8 (fun h22 p22=>?_) fun h22 p22=>?_
   ·refine go 1 ?_;refine a5R ?_;refine a5R ?_;refine a5R ?_;refine b7I T.mixed ?_;refine dH 0 3 ?_;refine go 1 ?_;refine dH 4 0 ?_;refine a0b ?_;refine go 1 ?_;refine dH 5 0 ?_;refine a0d ?_;refine go 7 ?_;refine a1y ?_;refine a0a ?_;refine a0b ?_;refine a0d ?_;refine a0V ?_;refine a0V ?_;refine a0V ?_;refine a0V ?_;exact d7S ((v7,_,_,_,_)) (hI1) (⟨rfl,rfl,pre,x,t,ht.symm,hok,p22,rfl,rfl⟩) rfl
   ·refine go 6 ?_;refine a0u ?_;refine a0Y _ he rfl rfl rfl rfl rfl (by simp[RdS.one hw]) ?_;refine go 6 ?_;refine a1y ?_;refine go 3 ?_;refine a0u ?_;refine a0a ?_;refine a0V ?_;refine a0V ?_;refine a0V ?_;refine a0u ?_;refine a1y ?_;refine a0V ?_;refine a0V ?_;exact b5j ((w,_,_,0,0)) (hI1) (⟨by simp only[List.length_append,List.length_singleton];push_cast;trivial,rfl,rfl,rfl,(fun y hy=>(List.mem_append.1 hy).elim (hok y) (fun h=>by rw[List.mem_singleton.1 h];exact p22)),(by simpa[c0a]using hw)⟩) rfl
  ·rintro D pre I1 ⟨v7,i,a,b,e⟩ hI1 hfull ⟨rfl,rfl,rfl,rfl,hok,hv7⟩;refine c4s ?_;refine go 6 ?_;refine a0u ?_;refine a0Y _ he rfl rfl rfl rfl rfl (by simp[RdS.one hv7]) ?_;refine go 1 ?_;refine a1y ?_;refine go 2 ?_;refine a3w ?_;refine go 4 ?_;refine a0u ?_;refine b1a ?_;refine go 1 ?_;have hr:b6X c l=(c0a [] pre,-1,0):=by unfold b6X;rw[if_neg (by simp[p13]),b8R _ _ _ (hfull▸hok),←hfull]
   exact q_i ⟨_,by rw[hr],by rw[hr];exact hv7⟩
  ·rintro D pre I1 ⟨v7,i,a,b,e⟩ cd hI1 hpart ⟨rfl,rfl,pr,x,t,ht,hok,hx,rfl,rfl⟩;refine c4s ?_;refine go 3 ?_;refine b1a ?_;refine d8p rfl ⟨_,_,_,rfl,m3,.inr ⟨_,he,rfl,rfl⟩⟩ ⟨_,_,_,rfl,m4,.inl ⟨he,rfl⟩⟩ ⟨_,_,_,rfl,m5,.inl ⟨he,rfl⟩⟩ ?_;have hr:b6X c l=([],((pr.length:Nat):Int),x.2):=by unfold b6X;rw[if_neg (by simp[p13]),b8S _ _ _ pr t x ht hok hx];simp
   exact q_i ⟨_,by rw[hr],by rw[hr];exact RdS.nil'⟩
theorem cAt (I:IMap) (vc:Value) (c:List Kind) (hvc:RdS I vc c) (hsc:SmC c) (v:Value) (l:List Evt) (hv:RdS I v l) (hl:l.length≤1000000) (hse:∀e∈l,SmE e) (day:Int) :
    FnI prog 224 #[.agg #[vc],v,.int .i64 day] I (fun u J=>∃w,u = .tuple #[.agg #[w],.int .i64 (a3U c l day).2.1,.int .i64 (a3U c l day).2.2]∧RdS J w (a3U c l day).1):=by
 refine enter func224 call224 rfl ntmps224 rfl fun w0=>?_;refine go 4 fun g3=>?_
 refine go 2 fun g5=>?_
 refine go 2 fun g6=>?_
 refine go 5 ?_;refine a0b ?_;refine a0A fun Ig5 jg5 cg5=>?_;have hvc:=hvc.le jg5;have hv:=hv.le jg5;refine a1P fun hE1 hf1=>?_;refine ds1 ?_;refine dG 0 2 ?_;refine dG 3 1 ?_;refine dH 2 0 ?_;refine a1X (b4k _ v l hv hl) rfl rfl fun v11 s11 q11=>?_;obtain⟨xss,rfl,hx⟩:=q11;obtain rfl:=b5Z hx;refine dH 4 0 ?_;refine b0O (a6I _ _ l hl 285 [.pointer (some ⟨g5,0,none⟩)] (fun x=>decide (x.day>day)) (fun I2 hI2 x=>c5s I2 x g5 day (cg5.le hI2))) rfl rfl fun v13 I13 j13 q13=>?_;have hvc:=hvc.le j13;refine dH 5 0 ?_;refine a0m (d8x _ vc c hvc hsc _ (l.filter fun e=>!decide (e.day>day)) q13 (Nat.le_trans (List.length_filter_le _ _) hl) (fun e he=>hse e (List.mem_filter.1 he).1)) rfl rfl fun v14 I14 j14 q14=>?_;obtain⟨w14,rfl,hw14⟩:=q14;refine dH 6 3 ?_;refine a0Y _ he rfl rfl rfl rfl rfl (by simp[RdS.one hw14]) ?_;refine dG 10 2 ?_;refine go 4 ?_;exact q_i ⟨_,rfl,hw14⟩
end Go.Proofs.YtgmkjpafapgccaaGreat
namespace Go.Proofs.YtgmkjpafapgccaaGreat
open Go Go.Sx Tryz
set_option linter.all false
set_option maxRecDepth 20000
set_option maxHeartbeats 4000000
theorem b3I (I:IMap) (x:Ivl) :
    FnV prog 336 #[.agg x.cells.toArray] I (.bool (c5l x)):=by
 refine enter func336 call336 rfl ntmps336 rfl fun w0=>?_;refine go 4 fun g1=>?_
 refine gS 9 6 (fun h6 p6=>?_) fun h6 p6=>?_
 ·refine gS 7 13 (fun h13 p13=>?_) fun h13 p13=>?_
  ·refine go 9 ?_;exact q_v (congrArg Value.bool (by simp only[c5l,h6,h13,bS]))
  ·refine go 9 ?_;exact q_v (congrArg Value.bool (by simp only[c5l,h6,h13,bS]))
 ·refine go 16 ?_;exact q_v (congrArg Value.bool (by simp only[c5l,h6,bS]))
theorem c7y (I:IMap) (x:Use) :
    FnV prog 307 #[.agg x.cells.toArray] I (.bool (c9u x)):=by
 refine enter func307 call307 rfl ntmps307 rfl fun w0=>?_;refine go 4 fun g1=>?_
 refine go 6 ?_;refine o_v rfl (a1R (x.km.cells) m0 he rfl rfl rfl) ?_;refine go 1 ?_;refine cV (b3I _ x.km) ?_;refine gS 1 6 (fun h6 p6=>?_) fun h6 p6=>?_
 ·refine go 1 ?_;refine a0z (a0n rfl rfl h6 (a0q rfl (a1R (x.cycles.cells) m0 he rfl rfl rfl) ?_));refine go 1 ?_;refine a0n rfl rfl h6 (a0y (b3I _ x.cycles) rfl rfl ?_);refine gS 2 11 (fun h11 p11=>?_) fun h11 p11=>?_
  ·refine go 1 ?_;refine a0z (a0n rfl rfl h11 (a0q rfl (a1R (x.load.cells) m0 he rfl rfl rfl) ?_));refine go 1 ?_;refine a0n rfl rfl h11 (a0y (b3I _ x.load) rfl rfl ?_);refine go 6 ?_;exact q_v (congrArg Value.bool (by simp only[c9u,h6,h11,bS]))
  ·refine go 9 ?_;exact q_v (congrArg Value.bool (by simp only[c9u,h6,h11,bS]))
 ·refine go 14 ?_;exact q_v (congrArg Value.bool (by simp only[c9u,h6,bS]))
theorem c0A (I:IMap) (e:Evt) (hs:SmE e) :
    FnV prog 258 #[.agg e.cells.toArray] I (.bool (a1D e)):=by
 refine enter func258 call258 rfl ntmps258 rfl fun w0=>?_;refine go 4 fun g1=>?_
 refine go 5 ?_;refine a1V (I':=I) (L':=[(1,.pointer (some ⟨g1,0,none⟩)),(28,.bool (a7n e))]) (H':=[.blk g1 130 e.cells]) ?_ ?_
 ·refine gS 5 8 (fun h8 p8=>?_) fun h8 p8=>?_
  ·refine go 22 ?_;exact a0r ⟨rfl,(bB (by simp only[a7n,h8,bS])),trivial⟩ rfl rfl
  ·refine gS 5 13 (fun h13 p13=>?_) fun h13 p13=>?_
   ·refine go 17 ?_;exact a0r ⟨rfl,(bB (by simp only[a7n,h8,h13,bS])),trivial⟩ rfl rfl
   ·refine gS 5 18 (fun h18 p18=>?_) fun h18 p18=>?_
    ·refine go 12 ?_;exact a0r ⟨rfl,(bB (by simp only[a7n,h8,h13,h18,bS])),trivial⟩ rfl rfl
    ·refine gS 5 23 (fun h23 p23=>?_) fun h23 p23=>?_
     ·refine go 7 ?_;exact a0r ⟨rfl,(bB (by simp only[a7n,h8,h13,h18,h23,bS])),trivial⟩ rfl rfl
     ·refine go 3 ?_;refine a0n rfl rfl h23 (a0y (b4N _ _ hs.1) rfl rfl ?_);refine go 4 ?_;exact a0r ⟨rfl,(bB (by simp only[a7n,h8,h13,h18,h23,bS])),trivial⟩ rfl rfl
 ·refine gC 0 (fun h28 p28=>?_) fun h28 p28=>?_
  ·refine go 8 ?_;exact q_v (congrArg Value.bool (by rw[←a8S];simp only[b1o,h28];rfl))
  ·refine go 13 fun g3=>?_
   refine go 10 ?_;refine a1V (I':=I) (L':=[(1,.pointer (some ⟨g1,0,none⟩)),(3,.pointer (some ⟨g3,0,none⟩)),(4,.bool (a8x e))]) (H':=[.blk g3 130 (a7y e).cells,.blk g1 130 e.cells]) ?_ ?_
   ·refine gC 13 (fun h38 p38=>?_) fun h38 p38=>?_
    ·refine go 13 ?_;refine cV (b4N _ _ hs.2.1) ?_;refine go 4 ?_;exact a0r ⟨rfl,rfl,(bB (by simp only[a8x,p28,p38,h28,h38,Int.reduceEq,reduceIte,if_true,if_false,decide_true,decide_false,bS])),trivial⟩ (by rw[a7y,if_pos p38];rfl) rfl
    ·refine gC 6 (fun h46 p46=>?_) fun h46 p46=>?_
     ·refine go 22 ?_;refine cV (b4N _ _ hs.2.2.1) ?_;refine gS 1 57 (fun h57 p57=>?_) fun h57 p57=>?_
      ·refine go 3 ?_;refine a0n rfl rfl h57 (a0y (b4N _ _ hs.2.2.2.1) rfl rfl ?_);refine gS 2 62 (fun h62 p62=>?_) fun h62 p62=>?_
       ·refine go 10 ?_;exact a0r ⟨rfl,rfl,(bB (by simp only[a8x,p28,p38,p46,p57,p62,h28,h38,h46,h57,h62,Int.reduceEq,reduceIte,if_true,if_false,decide_true,decide_false,bS])),trivial⟩ (by rw[a7y,if_neg p38,if_pos p46];rfl) rfl
       ·refine go 10 ?_;exact a0r ⟨rfl,rfl,(bB (by simp only[a8x,p28,p38,p46,p57,p62,h28,h38,h46,h57,h62,Int.reduceEq,reduceIte,if_true,if_false,decide_true,decide_false,bS])),trivial⟩ (by rw[a7y,if_neg p38,if_pos p46];rfl) rfl
      ·refine go 15 ?_;exact a0r ⟨rfl,rfl,(bB (by simp only[a8x,p28,p38,p46,p57,h28,h38,h46,h57,Int.reduceEq,reduceIte,if_true,if_false,decide_true,decide_false,bS])),trivial⟩ (by rw[a7y,if_neg p38,if_pos p46];rfl) rfl
     ·refine gC 6 (fun h69 p69=>?_) fun h69 p69=>?_
      ·refine go 3 ?_;refine o_v rfl (a1R (e.use.cells) m1 he rfl rfl rfl) ?_;refine go 7 ?_;refine o_v rfl (a1R (e.use.cells) m1 he rfl rfl rfl) ?_;refine go 1 ?_;refine cV (c7y _ e.use) ?_;refine go 4 ?_;exact a0r ⟨rfl,rfl,(bB (by simp only[a8x,p28,p38,p46,p69,h28,h38,h46,h69,Int.reduceEq,reduceIte,if_true,if_false,decide_true,decide_false,bS])),trivial⟩ (by rw[a7y,if_neg p38,if_neg p46,if_pos p69];rfl) rfl
      ·refine gC 6 (fun h77 p77=>?_) fun h77 p77=>?_
       ·refine go 22 ?_;refine cV (b4N _ _ hs.2.2.2.2.1) ?_;refine gS 1 88 (fun h88 p88=>?_) fun h88 p88=>?_
        ·refine gS 6 94 (fun h94 p94=>?_) fun h94 p94=>?_
         ·refine go 9 ?_;exact a0r ⟨rfl,rfl,(bB (by simp only[a8x,p28,p38,p46,p69,p77,p88,p94,h28,h38,h46,h69,h77,h88,h94,Int.reduceEq,reduceIte,if_true,if_false,decide_true,decide_false,bS])),trivial⟩ (by rw[a7y,if_neg p38,if_neg p46,if_neg p69,if_pos p77];rfl) rfl
         ·refine go 9 ?_;exact a0r ⟨rfl,rfl,(bB (by simp only[a8x,p28,p38,p46,p69,p77,p88,p94,h28,h38,h46,h69,h77,h88,h94,Int.reduceEq,reduceIte,if_true,if_false,decide_true,decide_false,bS])),trivial⟩ (by rw[a7y,if_neg p38,if_neg p46,if_neg p69,if_pos p77];rfl) rfl
        ·refine go 15 ?_;exact a0r ⟨rfl,rfl,(bB (by simp only[a8x,p28,p38,p46,p69,p77,p88,h28,h38,h46,h69,h77,h88,Int.reduceEq,reduceIte,if_true,if_false,decide_true,decide_false,bS])),trivial⟩ (by rw[a7y,if_neg p38,if_neg p46,if_neg p69,if_pos p77];rfl) rfl
       ·refine go 3 ?_;exact a0r ⟨rfl,rfl,(bB (by simp only[a8x,p28,p38,p46,p69,p77,h28,h38,h46,h69,h77,Int.reduceEq,reduceIte,if_true,if_false,decide_true,decide_false,bS])),trivial⟩ (by rw[a7y,if_neg p38,if_neg p46,if_neg p69,if_neg p77];rfl) rfl
   ·refine gS 4 101 (fun h101 p101=>?_) fun h101 p101=>?_
    ·refine go 2 ?_;refine a0z (a0n rfl rfl h101 (a0q rfl (b1n T.eqg_130 (b2V (a7y e) e) rfl rfl) ?_));refine go 6 ?_;exact q_v (congrArg Value.bool (by rw[←a8S];simp only[b1o,h28,h101,bS]))
    ·refine go 9 ?_;exact q_v (congrArg Value.bool (by rw[←a8S];simp only[b1o,h28,h101,bS]))
end Go.Proofs.YtgmkjpafapgccaaGreat
namespace Go.Proofs.YtgmkjpafapgccaaGreat
open Go Go.Sx Tryz
set_option linter.all false
set_option maxRecDepth 20000
set_option maxHeartbeats 4000000
instance:Has (a6J prog 30) (109,2):=hk
instance:Has (a6J prog 45) (3,1):=hk
instance:Has (a1k prog 109 0) (0,false,1):=hk
instance:Has (a1k prog 109 1) (1,false,1):=hk
instance:Has (tyK prog 109) (true,2):=hk
instance:Has (tyK prog 30) (false,1):=hk
instance:Has (tyK prog 45) (false,1):=hk
instance:Has (prog.underlying 195) (.map 130 4):=hk
instance T.und_30:Has (prog.underlying 30) (.slice 109):=hk
instance T.und_45:Has (prog.underlying 45) (.slice 3):=hk
instance:Has (a1o prog 109) [.slice none 0 0,.bool false]:=hk
theorem c9c:KeyOK prog 130 d6D:=a8y (cells:=Evt.cells) (by kernel_rfl) (fun p q=>b2V p q) (fun p=>by kernel_rfl) (fun p=>by simp[Evt.cells,b2O,b2N])
theorem a7R (I:IMap) (r:Rep) (S:Option Addr) (d:Nat) (hr:RdS I (.slice S r.options.length d) r.options) (hs:∀e∈r.options,SmE e) :
    FnV prog 40 #[.agg (r.cells (.slice S r.options.length d)).toArray] I (.bool (a0g r)):=by
 have hSA:RdA I S r.options:=(by obtain⟨_,_,e,h,_⟩:=hr;cases e;exact h);have hl4:d≤9223372036854775807:=(by obtain⟨_,_,e,h,h1,h2⟩:=hr;cases e;exact h2);have hl5:=hr.lenLe;refine enter func40 call40 rfl ntmps40 rfl fun w0=>?_;refine go 4 fun g1=>?_
 refine go 5 ?_;refine a1V (I':=I) (L':=[(1,.pointer (some ⟨g1,0,none⟩)),(15,.bool (decide (((r.options.length:Nat):Int)=0)||decide ((4:Int)<(r.options.length:Nat))))]) (H':=[.blk g1 109 (r.cells (.slice S r.options.length d))]) ?_ ?_
 ·refine gS 6 10 (fun h10 p10=>?_) fun h10 p10=>?_
  ·refine go 7 ?_;exact a0r ⟨rfl,(bB (by simp only[h10,bS])),trivial⟩ rfl rfl
  ·refine go 7 ?_;exact a0r ⟨rfl,(bB (by simp only[h10,bS])),trivial⟩ rfl rfl
 ·refine gC 0 (fun h15 p15=>?_) fun h15 p15=>?_
  ·refine go 8 ?_;exact q_v (congrArg Value.bool (by simp only[a0g,h15];rfl))
  ·refine go 5 ?_;refine a5i (d6D) he rfl fun r16=>?_;refine go 13 ?_
   refine a0x (α:=Nat) 0 (fun i=>I)
    (fun i=>[(1,.pointer (some ⟨g1,0,none⟩)),(3,.map (some r16)),(18,.slice S r.options.length d),(19,.int .i64 ((r.options.length:Nat):Int)),(20,.int .i64 ((i:Nat):Int))])
    (fun i=>[.mp r16 (a1A d6D (a2G _root_.id (fun _=>Value.bool true) (r.options.take i))),.blk g1 109 (r.cells (.slice S r.options.length d))])
    (fun i=>i≤r.options.length∧a3v a4z r.options i=true)
    (fun i=>r.options.length-i) ⟨Nat.zero_le _,rfl⟩ rfl sb rfl ?_
   intro i ⟨hi,hn⟩;refine gC 6 (fun h21 p21=>?_) fun h21 p21=>?_
   ·have hlt:i<r.options.length:=oM;refine go 6 ?_;obtain⟨b22,o22,w22,e22,c22,r22⟩:=RdA.at_ hSA (i:=i) hlt;obtain rfl:=r22;refine go 4 fun g5=>?_
    refine go 6 ?_;refine a1V (I':=I) (L':=[(1,.pointer (some ⟨g1,0,none⟩)),(3,.map (some r16)),(18,.slice S r.options.length d),(19,.int .i64 ((r.options.length:Nat):Int)),(20,.int .i64 ((i:Nat):Int)),(5,.pointer (some ⟨g5,0,none⟩)),(31,.bool (hit _root_.id (r.options.take i) r.options[i] || !a1D r.options[i]))]) (H':=[.blk g5 130 r.options[i].cells,.mp r16 (a1A d6D (a2G _root_.id (fun _=>Value.bool true) (r.options.take i))),.blk g1 109 (r.cells (.slice S r.options.length d))]) ?_ ?_
    ·refine go 3 ?_;refine o_v rfl (c4L m1 (c9c) he he (r.options[i]) rfl rfl (a9w _root_.id _ _)) ?_;refine gS 1 27 (fun h27 p27=>?_) fun h27 p27=>?_
     ·refine go 6 ?_;exact a0r ⟨rfl,rfl,rfl,rfl,rfl,rfl,(bB (by simp only[h21,h27,bS])),trivial⟩ rfl rfl
     ·refine go 2 ?_;refine a0n rfl rfl h27 (a0y (b6a _ r.options[i] (hs _ (List.getElem_mem hlt))) rfl rfl ?_);refine go 4 ?_;exact a0r ⟨rfl,rfl,rfl,rfl,rfl,rfl,(bB (by simp only[h21,h27,bS])),trivial⟩ rfl rfl
    ·refine gC 0 (fun h31 p31=>?_) fun h31 p31=>?_
     ·refine go 13 ?_;exact q_v (congrArg Value.bool (by simp only[a0g,h15,a1g hlt (show a4z (r.options.take i) r.options[i]=false from (congrArg not h31).trans rfl),bS]))
     ·refine go 6 ?_;have h31n:hit _root_.id (r.options.take i) r.options[i]=false:=by revert h31;cases hit _root_.id (r.options.take i) r.options[i]<;>simp
      refine a0b ?_;refine a2S (a2G _root_.id (fun _=>Value.bool true) (r.options.take (i+1))) (c9c) he (r.options[i]) rfl rfl rfl ((b0E _root_.id (fun _=>Value.bool true) (r.options.take i) r.options[i] (a7u h31n)).trans (by rw[a0c hlt])) ?_;refine go 8 ?_;refine a0b ?_;refine a0a ?_;exact a0w (i+1) ⟨oM,a1r hn hlt (show a4z (r.options.take i) r.options[i]=true from (congrArg not h31).trans rfl)⟩ oM rfl sb rfl
   ·refine go 12 ?_;have e:i=r.options.length:=oM;subst e;exact q_v (congrArg Value.bool (by simp only[a0g,hn,h15];rfl))
theorem a3I (I:IMap) (r:Rep) (S:Option Addr) (d:Nat) (hr:RdS I (.slice S r.options.length d) r.options) (hs:∀e∈r.options,SmE e) :
    FnV prog 66 #[.agg (r.cells (.slice S r.options.length d)).toArray] I (.int .i64 (chs r)):=by
 have hl5:=hr.lenLe;refine enter func66 call66 rfl ntmps66 rfl fun w0=>?_;refine go 4 fun g1=>?_
 refine go 9 ?_;refine cV (a7R _ r S d hr hs) ?_;refine gC 4 (fun h3 p3=>?_) fun h3 p3=>?_
 ·refine go 9 ?_;exact q_v (congrArg (Value.int .i64) (by simp only[chs,show a0g r=false by simpa using h3,Bool.true_eq_false,Bool.false_eq_true,if_true,if_false]))
 ·have hl4:=a3g (r:=r) (by simpa using h3);refine gC 7 (fun h7 p7=>?_) fun h7 p7=>?_
  ·refine go 5 ?_;refine o_v rfl (a2u rfl rfl ⟨oM,by have:=hl4;omega⟩) ?_;refine go 7 ?_;exact q_v (congrArg (Value.int .i64) (by simp only[chs,show a0g r=true by simpa using h3,h7,Bool.true_eq_false,Bool.false_eq_true,if_true,if_false]))
  ·refine go 13 ?_;exact q_v (congrArg (Value.int .i64) (by simp only[chs,show a0g r=true by simpa using h3,h7,Bool.true_eq_false,Bool.false_eq_true,if_true,if_false]))
theorem c2v (I:IMap) (vc:Value) (c:List Kind) (hvc:RdS I vc c) (hsc:SmC c) (v:Value) (l:List Rep) (hv:RdS I v l) (hsl:∀r∈l,∀e∈r.options,SmE e) (w:Value) (ch:List Int) (hw:RdS I w ch) (n:Int) :
    FnV prog 216 #[.agg #[vc],v,w,.int .i64 n] I (.bool (a1L c l ch n)):=by
 obtain⟨A,c0,rfl,hA,hc,hm⟩:=hv;obtain⟨B,c1,rfl,hB,hc1,hm1⟩:=hw;refine enter func216 call216 rfl ntmps216 rfl fun w0=>?_;refine go 4 fun g4=>?_
 refine go 5 ?_;refine a1V (I':=I) (L':=[(4,.pointer (some ⟨g4,0,none⟩)),(1,.slice A l.length c0),(2,.slice B ch.length c1),(3,.int .i64 n),(21,.bool (!a1I c || !decide (((ch.length:Nat):Int)=(l.length:Nat))))]) (H':=[.blk g4 24 [vc]]) ?_ ?_
 ·refine go 3 ?_;refine cV (a7g _ vc c hvc hsc) ?_;refine gS 2 15 (fun h15 p15=>?_) fun h15 p15=>?_
  ·refine go 8 ?_;exact a0r ⟨rfl,rfl,rfl,rfl,(bB (by simp only[h15,bS])),trivial⟩ rfl rfl
  ·refine go 8 ?_;exact a0r ⟨rfl,rfl,rfl,rfl,(bB (by simp only[h15,bS])),trivial⟩ rfl rfl
 ·refine gC 0 (fun h21 p21=>?_) fun h21 p21=>?_
  ·refine go 8 ?_;exact q_v (congrArg Value.bool (by simp only[a1L,h21];rfl))
  ·have hlc:ch.length=l.length:=by revert h21;simp;omega
   refine go 11 ?_
   refine a0x (α:=Nat) 0 (fun i=>I)
    (fun i=>[(4,.pointer (some ⟨g4,0,none⟩)),(1,.slice A l.length c0),(2,.slice B ch.length c1),(3,.int .i64 n),(22,.slice A l.length c0),(23,.int .i64 ((l.length:Nat):Int)),(24,.int .i64 ((i:Nat):Int))])
    (fun i=>[.blk g4 24 [vc]])
    (fun i=>i≤l.length∧a8o (a8W n) l ch i=true)
    (fun i=>l.length-i) ⟨Nat.zero_le _,rfl⟩ rfl sb rfl ?_
   intro i ⟨hi,hn⟩;refine gC 6 (fun h25 p25=>?_) fun h25 p25=>?_
   ·have hlt:i<l.length:=oM;have hlt2:i<ch.length:=oM;refine go 7 ?_;obtain⟨b27,o27,w27,e27,c27,r27⟩:=RdA.at_ hA (i:=i) hlt;obtain⟨q27,rfl,S27,d27,rfl,hS27,hd27,hm27⟩:=r27;refine go 4 fun g10=>?_
    refine go 9 ?_;refine cV (a3I _ l[i] S27 d27 ⟨_,_,rfl,hS27,hd27,hm27⟩ (hsl _ (List.getElem_mem hlt))) ?_;refine go 4 ?_;refine a1V (I':=I) (L':=[(4,.pointer (some ⟨g4,0,none⟩)),(1,.slice A l.length c0),(2,.slice B ch.length c1),(3,.int .i64 n),(22,.slice A l.length c0),(23,.int .i64 ((l.length:Nat):Int)),(24,.int .i64 ((i:Nat):Int)),(48,.bool ((decide (chs l[i]=0)||decide (ch[i]<n))||decide (chs l[i]≤ch[i])))]) (H':=[.blk g4 24 [vc]]) ?_ ?_
    ·refine gS 4 33 (fun h33 p33=>?_) fun h33 p33=>?_
     ·refine go 17 ?_;refine a0a ?_;exact a0r ⟨rfl,rfl,rfl,rfl,rfl,rfl,rfl,(bB (by simp only[h25,h33,bS])),trivial⟩ rfl rfl
     ·refine go 2 ?_;obtain⟨b36,o36,w36,e36,c36,r36⟩:=RdA.at_ hB (i:=i) hlt2;obtain rfl:=r36;refine a0z (a0n rfl rfl h33 (a0q rfl (a0l he rfl rfl e36 (i) oM hlt2) ?_));refine gS 5 41 (fun h41 p41=>?_) fun h41 p41=>?_
      ·refine go 9 ?_;refine a0a ?_;exact a0r ⟨rfl,rfl,rfl,rfl,rfl,rfl,rfl,(bB (by simp only[h25,h33,h41,bS])),trivial⟩ rfl rfl
      ·refine go 2 ?_;obtain⟨b44,o44,w44,e44,c44,r44⟩:=RdA.at_ hB (i:=i) hlt2;obtain rfl:=r44;refine a0z (a0n rfl rfl h41 (a0q rfl (a0l he rfl rfl e44 (i) oM hlt2) ?_));refine go 6 ?_;refine a0a ?_;exact a0r ⟨rfl,rfl,rfl,rfl,rfl,rfl,rfl,(bB (by simp only[h25,h33,h41,bS])),trivial⟩ rfl rfl
    ·refine gC 0 (fun h48 p48=>?_) fun h48 p48=>?_
     ·refine go 12 ?_;exact q_v (congrArg Value.bool (by simp only[a1L,h21,b3X (f:=a8W n) hlt hlt hlt2 (by simp only[a8W,h48];rfl),bS]))
     ·refine go 8 ?_;exact a0w (i+1) ⟨oM,a8p hn hlt hlt2 (by simp only[a8W,h48];rfl)⟩ oM rfl sb rfl
   ·refine go 12 ?_;have e:i=l.length:=oM;subst e;exact q_v (congrArg Value.bool (by simp only[a1L,hn,h21];rfl))
theorem d4l (I:IMap) (A B:Option Addr) (a c b d:Nat) :
    FnI prog 262 #[.slice A a c,.slice B b d] I (fun u J=>∃g2 g3,u = .func (.func 310) #[] #[.pointer (some ⟨g2,0,none⟩),.pointer (some ⟨g3,0,none⟩)]∧ICells J g2 0 [.slice A a c]∧ICells J g3 0 [.slice B b d]):=by
 refine enter func262 call262 rfl ntmps262 rfl fun w0=>?_;refine go 4 fun g2=>?_
 refine go 2 fun g3=>?_
 refine go 5 ?_;refine a0b ?_;refine a0A fun Ig2 jg2 cg2=>?_;refine a0A fun Ig3 jg3 cg3=>?_;have cg2:=(cg2).le jg3;refine go 6 ?_;exact q_i ⟨_,_,rfl,cg2,cg3⟩
theorem d3W (I:IMap) (v:Value) (l:List Rep) (hv:RdS I v l) (w:Value) (ch:List Int) (hw:RdS I w ch) (hlc:ch.length=l.length) (g2 g3:Nat) (c2:ICells I g2 0 [v]) (c3:ICells I g3 0 [w]) :
    c0W prog 310 [.pointer (some ⟨g2,0,none⟩),.pointer (some ⟨g3,0,none⟩)] I (fun _ vs (x:Int)=>vs=[ci x]) (fun pre x=>pre++[x] <+: a1l l ch l.length) (fun pre=>pre=a1l l ch l.length) (fun _=>True):=by
 obtain⟨A,c0,rfl,hA,hc,hm⟩:=hv;obtain⟨B,c1,rfl,hB,hc1,hm1⟩:=hw;intro ly J I1 Hc hI1 hJm hY hJ0;have hA:=hA.le hI1;have hB:=hB.le hI1;have c2:=c2.le hI1;have c3:=c3.le hI1;refine enter func310 call310 rfl ntmps310 rfl fun w0=>?_;refine go 8 ?_
 refine a4d ((0:Nat)) (I1) (Hc) (fun i I2 Hc=>I2)
  (fun i I2 Hc=>[(0,.func (.yield ly) #[] #[]),(1,.pointer (some ⟨g2,0,none⟩)),(2,.pointer (some ⟨g3,0,none⟩)),(8,.slice A l.length c0),(9,.int .i64 ((l.length:Nat):Int)),(10,.int .i64 ((i:Nat):Int))])
  (fun i I2 Hc=>Hc)
  (fun i I2 Hc=>i≤l.length∧ILe I1 I2∧J true (a1l l ch i) I2 Hc)
  (fun i I2 Hc=>l.length-i) ⟨Nat.zero_le _,ILe.refl _,hJ0⟩ rfl sb rfl ?_
 intro i I2 Hc ⟨hi,hI2,hJ⟩;have hA:=hA.le hI2;have hB:=hB.le hI2;have c3:=c3.le hI2;refine gC 6 (fun h11 p11=>?_) fun h11 p11=>?_
 ·have hlt:i<l.length:=oM;have hlt2:i<ch.length:=oM;refine go 7 ?_;obtain⟨b13,o13,w13,e13,c13,r13⟩:=RdA.at_ hA (i:=i) hlt;obtain⟨q13,rfl,S13,d13,rfl,hS13,hd13,hm13⟩:=r13;refine go 4 fun g5=>?_
  refine go 14 ?_
  refine a4d ((0:Nat)) (I2) (Hc) (fun j I3 Hc3=>I3)
   (fun j I3 Hc3=>[(0,.func (.yield ly) #[] #[]),(1,.pointer (some ⟨g2,0,none⟩)),(2,.pointer (some ⟨g3,0,none⟩)),(8,.slice A l.length c0),(9,.int .i64 ((l.length:Nat):Int)),(10,.int .i64 ((i:Nat):Int)),(4,.int .i64 ((i:Nat):Int)),(5,.pointer (some ⟨g5,0,none⟩)),(16,.slice S13 l[i].options.length d13),(17,.int .i64 ((l[i].options.length:Nat):Int)),(18,.int .i64 ((j:Nat):Int))])
   (fun j I3 Hc3=>.blk g5 109 (l[i].cells (.slice S13 l[i].options.length d13))::Hc3)
   (fun j I3 Hc3=>j≤l[i].options.length∧ILe I2 I3∧J true (a5j l ch i j) I3 Hc3)
   (fun j I3 Hc3=>l[i].options.length-j) ⟨Nat.zero_le _,ILe.refl _,by rw[b6G];exact hJ⟩ rfl sb rfl ?_
  intro j I3 Hc3 ⟨hj,hI3,hJ3⟩;have hB:=hB.le hI3;have c3:=c3.le hI3;have hS13:=hS13.le hI3;refine gC 6 (fun h19 p19=>?_) fun h19 p19=>?_
  ·have hlj:j<l[i].options.length:=oM;refine go 6 ?_;obtain⟨b20,o20,w20,e20,c20,r20⟩:=RdA.at_ hS13 (i:=j) hlj;obtain rfl:=r20;refine o_v rfl (a0l he rfl rfl e20 (j) oM hlj) ?_;refine go 3 fun g7=>?_
   refine go 8 ?_;obtain⟨b24,o24,w24,e24,c24,r24⟩:=RdA.at_ hB (i:=i) hlt2;obtain rfl:=r24;refine o_v rfl (a0l he rfl rfl e24 (i) oM hlt2) ?_;refine gS 3 27 (fun h27 p27=>?_) fun h27 p27=>?_
   ·refine go 4 ?_;refine a0n rfl rfl h27 (b8C (l[i].options[j].day) hY (hJm _ _ _ _ _ (ILe.refl _) hJ3) (rfl) (c0k hlt hlt2 p27 hlj) rfl rfl rfl (fun b31 I31 Hc31 j31 hJ31=>?_));refine gC 4 (fun h33 p33=>?_) fun h33 p33=>?_
    ·have hb31:b31=false:=by simpa using h33
     refine go 10 ?_;refine a0a ?_;refine a0a ?_;subst hb31;exact c3R false _ hJ31 trivial
    ·have hb31:b31=true:=by simpa using h33
     refine go 8 ?_;refine a0a ?_;exact a2n (j+1) (I31) (Hc31) ⟨oM,hI3.trans j31,by rw[b0Q hlt hlt2 p27 hlj];exact hb31▸hJ31⟩ oM rfl sb rfl
   ·refine go 17 ?_;refine a0a ?_;exact a2n (j+1) (I3) (Hc3) ⟨oM,hI3,by rw[b6F hlt hlt2 p27 j];exact hJ3⟩ oM rfl sb rfl
  ·refine go 11 ?_;refine a0a ?_;exact a2n (i+1) (I3) (Hc3) ⟨oM,hI2.trans hI3,by rw[←b2o hlt hlt2];exact (show j=l[i].options.length from oM)▸hJ3⟩ oM rfl sb rfl
 ·have hil:i=l.length:=oM;refine go 5 ?_;exact c3R true _ hJ (by rw[hil];rfl)
end Go.Proofs.YtgmkjpafapgccaaGreat
