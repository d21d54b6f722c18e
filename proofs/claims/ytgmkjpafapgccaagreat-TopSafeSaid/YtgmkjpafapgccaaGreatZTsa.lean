
import Derived.Carry
import Derived.ChangeArms
import Derived.ChangeMaps
import Derived.Deep.Slices
import Derived.IntWalk
import Derived.KernelRfl
import Derived.Laws.AppendOwnNone
import Derived.Laws.Cells
import Derived.Laws.Entries
import Derived.Laws.MakeOwn
import Derived.Laws.NewBlocks
import Derived.Laws.Rows
import Derived.Laws.Shifts
import Derived.Laws.StructEq
import Derived.Lib.AppendZerosOnto
import Derived.Lib.Bytealg
import Derived.Lib.Overlaps
import Derived.Maps.AppendAt
import Derived.OpenShut
import Derived.Orders
import Derived.OrdersIn
import Derived.ProofKit
import Derived.RangeFuncRecord
import Derived.Room.Entries
import Derived.ShutString
import Derived.Tactics
import Derived.TacticsIn
import Derived.WalkKit
set_option linter.all false
namespace Go.Sx
open Go
theorem oM {p:Prop} (h:p:=by omega):p:=h
theorem bB {b c:Bool} (h:b=c):some (Value.bool b)=some (Value.bool c):=congrArg (fun b=>some (Value.bool b)) h
theorem bO:(∀(p:Prop) [Decidable p],(decide p=true)=p)∧(∀(p:Prop) [Decidable p],(decide p=false)=¬p)∧(∀b:Bool,((!b)=true)=(b=false))∧(∀b:Bool,((!b)=false)=(b=true))∧(∀a b:Bool,((a&&b)=true)=(a=true∧b=true))∧(∀a b:Bool,((a||b)=true)=(a=true∨b=true))∧(∀a b:Bool,((a||b)=false)=(a=false∧b=false)):=by
 refine⟨?_,?_,?_,?_,?_,?_,?_⟩<;>simp
theorem bS:(∀b:Bool,(true&&b)=b)∧(∀b:Bool,(b&&true)=b)∧(∀b:Bool,(false&&b)=false)∧(∀b:Bool,(b&&false)=false)∧(∀b:Bool,(true||b)=true)∧(∀b:Bool,(b||true)=true)∧(∀b:Bool,(false||b)=b)∧(∀b:Bool,(b||false)=b)∧((!true)=false)∧((!false)=true):=by
 refine⟨?_,?_,?_,?_,?_,?_,?_,?_,?_,?_⟩<;>simp
def fen (ρ:Option Nat):Fence:={ Fence.wide with round:=ρ }
def _root_.Go.Code.wq (ρ:Option Nat) (P:Program) (c:Code) (Q:Exit→Act→World→Prop) (a:Act) (w:World):Prop:=c.wpIn (fen ρ) 0 P Q a w
inductive Mk where
 |m (r:Nat)
 |f (d:Deferred)
def Mk.of:Mk→Deferred
 |.m r=>{ target:=.collected r,args:=#[] }
 |.f d=>d
structure Sz where
 sz:Nat
 D:List Mk
def Sz.marks (n:Sz):List Deferred:=n.D.map Mk.of
def After (P:Program) (s:Sem Next) (w:World) (R:Ending→World→Prop):Prop:=
 match s.run P w with
 |.ok (.value v) w'=>R (.returned v) w'
 |.ok (.enter f args) w'=>Calls P f args w' R
 |.ok (.round l f tmps assign body) w'=>RoundIn Fence.wide 0 P l f tmps assign body w' R
 |_=>False
theorem After.mono {P:Program} {s:Sem Next} {w:World} {R R':Ending→World→Prop} (h:After P s w R) (hr:∀e w,R e w→R' e w):After P s w R':=by
 unfold After at *
 split at h
 ·exact hr _ _ h
 ·exact Calls.mono h hr
 ·exact RoundIn.mono h hr
 ·exact h.elim
theorem a3n {ρ:Option Nat} {P:Program} {c:Code} {Q Q':Exit→Act→World→Prop} {a:Act} {w:World} (hq:∀e a w,Q e a w→Q' e a w) (h:c.wq ρ P Q a w):c.wq ρ P Q' a w:=Go.wpIn_mono h hq
def _root_.Go.Oper.wq (P:Program) (o:Oper) (a:Act) (w:World) (K:Act→World→Prop):Prop:=
 match (execOp a.eval o).run P w with
 |.ok .skip w'=>K (a.put o.dst undef) w'
 |_=>After P (execOp a.eval o) w fun e w'=>match e with
  |.returned v=>K (a.put o.dst v) w'
  |_=>False
theorem a9L {P:Program} {o:Oper} {a:Act} {w w':World} {K:Act→World→Prop} {v:Value} (h:(execOp a.eval o).run P w = .ok (.value v) w'):o.wq P a w K=K (a.put o.dst v) w':=by
 simp[Oper.wq,After,h]
theorem d3e {P:Program} {o:Oper} {a:Act} {w w':World} {K:Act→World→Prop} (h:(execOp a.eval o).run P w = .ok .skip w'):o.wq P a w K=K (a.put o.dst undef) w':=by
 simp[Oper.wq,h]
theorem a8l {P:Program} {o:Oper} {a:Act} {w:World} {K:Act→World→Prop} (h:After P (execOp a.eval o) w fun e w'=>match e with
  |.returned v=>K (a.put o.dst v) w'
  |_=>False):o.wq P a w K:=by
 unfold Oper.wq
 split
 ·rename_i w' hr;unfold After at h;rw[hr]at h;exact h.elim
 ·exact h
theorem d3d {P:Program} {o:Oper} {a:Act} {w:World} {K K':Act→World→Prop} (hk:∀a w,K a w→K' a w) (h:o.wq P a w K):o.wq P a w K':=by
 unfold Oper.wq at *
 split
 ·rename_i w' hr;rw[hr]at h;exact hk _ _ h
 ·rename_i hn
  split at h
  ·rename_i w' hr;exact absurd hr (hn w')
  ·refine h.mono fun e w' he=>?_
   cases e with
   |returned v=>exact hk _ _ he
   |panicked c=>exact he
   |outgrown=>exact he
theorem b5Y {P:Program} {o:Oper} {a:Act} {w:World} {c:Call} (ho:o.op = .defer c) {K:Act→World→Prop}:¬o.wq P a w K:=by
 intro h;unfold Oper.wq After at h
 have e:execOp a.eval o=(do Pure.pure (.defer (←resolve a.eval c o.type))):=by unfold execOp;rw[ho]
 rw[e]at h
 simp only[Sem.run_bind]at h
 cases hr:(resolve a.eval c o.type).run P w with
 |ok d w'=>rw[hr]at h;simp[Result.andThen]at h
 |halt x w'=>rw[hr]at h;simp[Result.andThen]at h
theorem b0g {P:Program} {ρ:Option Nat} {f:FuncId} {args:Array Value} {w:World} {R:Ending→World→Prop} {k:Nat} (h:Calls P f args w R):CallsIn (fen ρ) k P f args w R:=
 (callsIn_wide (n:=k)).2 h
theorem b6S {P:Program} {ρ:Option Nat} {l:Nat} {f:FuncId} {tmps:Array Value} {assign body:Code} {w:World} {R:Ending→World→Prop} (h:RoundIn Fence.wide 0 P l f tmps assign body w R):RoundIn (fen ρ) 0 P l f tmps assign body w R:=h
theorem b7r {P:Program} {o:Oper} {a:Act} {w:World} {ρ:Option Nat} {K:Act→World→Prop} {Q:Exit→Act→World→Prop} (h:o.wq P a w K):o.wpIn (fen ρ) 0 P a w K Q:=by
 refine⟨fun _ _=>trivial,?_⟩;rw[Oper.semAt_eq _ _ _ (fun c hc=>b5Y hc h)];unfold Oper.wq at h
 split at h
 ·rename_i w' hr;rw[hr];exact h
 ·unfold After at h
  split at h
  ·rename_i v w' hr;rw[hr];exact h
  ·rename_i f args w' hr
   rw[hr];refine⟨fun hd=>by simp[fen,Fence.wide]at hd,b0g (Calls.mono h fun e w'' he=>?_)⟩
   cases e<;>first|exact he|exact he.elim
  ·rename_i l f tmps assign body w' hr
   rw[hr];refine⟨fun hd=>by simp[fen,Fence.wide]at hd,b6S (RoundIn.mono h fun e w'' he=>?_)⟩
   cases e<;>first|exact he|exact he.elim
  ·exact h.elim
def one (P:Program) (ops:Array Oper) (_Q:Exit→Act→World→Prop) (o:Oper) (K:Act→World→Prop) (a:Act) (w:World):Prop:=
 if Region.wanted o (yielded ops a.tmps) then o.wq P a w K else K (a.put o.dst undef) w
theorem b3C {P:Program} {ops:Array Oper} {Q Q':Exit→Act→World→Prop} {o:Oper} {a:Act} {w:World} {K K':Act→World→Prop} (hk:∀a w,K a w→K' a w) (h:one P ops Q o K a w):one P ops Q' o K' a w:=by
 unfold one at *
 split
 ·rename_i hw;rw[if_pos hw]at h;exact d3d hk h
 ·rename_i hw;rw[if_neg hw]at h;exact hk _ _ h
def wpL (P:Program) (ops:Array Oper) (Q:Exit→Act→World→Prop):List Oper→Act→World→Prop
 | [],a,w=>Q .normal a w
 |o::rest,a,w=>one P ops Q o (wpL P ops Q rest) a w
theorem c9A {P:Program} {ops:Array Oper} {Q:Exit→Act→World→Prop} {ρ:Option Nat}:∀(l:List Oper) (a:Act) (w:World),wpL P ops Q l a w→wpListIn (fen ρ) 0 P ops Q l a w
 | [],_,_,h=>h
 |o::rest,a,w,h=>by
  have h:one P ops Q o (wpL P ops Q rest) a w:=h;have h:one P ops Q o (wpListIn (fen ρ) 0 P ops Q rest) a w:=b3C (fun a w h=>c9A rest a w h) h;unfold one at h
  unfold wpListIn
  split
  ·rename_i hw;rw[if_pos hw]at h;exact b7r h
  ·rename_i hw;rw[if_neg hw]at h;exact⟨fun _ _=>trivial,h⟩
abbrev LL:=List (Nat×Value)
def look:LL→Nat→Option Value
 | [],_=>none
 |(d,v)::L,i=>bif Nat.beq i d then some v else look L i
structure St (n:Sz) (a:Act) (L:LL):Prop where
 size:a.tmps.size=n.sz
 defers:a.defers=n.marks
 get:∀i v,look L i=some v→a.tmps[i]? = some v
def ev (L:LL):Operand→Option Value
 |.tmp t=>look L t
 |.const v=>some v
 |.global g=>some (.pointer (some ⟨g,0,none⟩))
 |.func f=>some (.func (.func f) #[] #[])
theorem St.ev {n:Sz} {a:Act} {L:LL} {x:Operand} {v:Value} (h:St n a L) (hx:ev L x=some v):a.eval x=v:=by
 cases x with
 |tmp t=>
  have:=h.get t v hx
  simp[Act.eval,this]
 |const c=>simpa[Sx.ev,Act.eval]using hx
 |global g=>simpa[Sx.ev,Act.eval]using hx
 |func f=>simpa[Sx.ev,Act.eval]using hx
theorem St.put {n:Sz} {a:Act} {L:LL} {d:Nat} {v:Value} (h:St n a L) (hd:Nat.blt d n.sz=true):St n (a.put (some d) v) ((d,v)::L) where
 size:=by simp[Act.put,h.size]
 defers:=by simp[Act.put,h.defers]
 get:=by
  intro i u hu;have hd':d<a.tmps.size:=by rw[h.size];simpa[Nat.blt_eq]using hd
  simp only[look]at hu
  by_cases e:i=d
  ·subst e
   simp at hu
   subst hu
   simp[Act.put,hd']
  ·have:Nat.beq i d=false:=by rw[Bool.eq_false_iff];intro hb;exact e (Nat.eq_of_beq_eq_true hb)
   rw[this]at hu
   simp only[cond_false]at hu
   simp only[Act.put]
   rw[Array.getElem?_setIfInBounds_ne (Ne.symm e)];exact h.get i u hu
def Sub:LL→LL→Prop
 | [],_=>True
 |p::r,L=>look L p.1=some p.2∧Sub r L
theorem St.sub {n:Sz} {a:Act} {L L':LL} (h:St n a L) (hs:Sub L' L):St n a L' where
 size:=h.size
 defers:=h.defers
 get:=by
  intro i v
  induction L' with
  |nil=>intro hv;simp[look]at hv
  |cons p r ih=>
   obtain⟨d,u⟩:=p;obtain⟨h1,h2⟩:=hs;intro hv
   simp only[look]at hv
   cases hb:Nat.beq i d with
   |true=>
    rw[hb]at hv
    simp at hv
    subst hv;obtain rfl:i=d:=Nat.eq_of_beq_eq_true hb;exact h.get _ _ h1
   |false=>
    rw[hb]at hv
    exact ih h2 hv
abbrev IMap:=Nat→Option Obj
def ILe (I I':IMap):Prop:=∀b o,I b=some o→I' b=some o
theorem ILe.refl (I:IMap):ILe I I:=fun _ _ h=>h
theorem ILe.trans {I I' I'':IMap} (h:ILe I I') (h':ILe I' I''):ILe I I'':=fun b o x=>h' b o (h b o x)
def Con (I:IMap) (w:World):Prop:=∀b o,I b=some o→w.heap[b]? = some o
inductive Res where
 |blk (g:Nat) (t:TypeId) (cs:List Value)
 |row (v:Value) (t:TypeId) (k n:Nat) (xs:List Value)
 |mp (r:Nat) (es:List (Value×Value))
 |any (g:Nat) (o:Obj)
def a3z:Value→Option Nat
 |.slice (some a) _ _=>some a.block
 |_=>none
def Res.foot:Res→Option Nat
 |.blk g _ _=>some g
 |.row v _ _ _ _=>a3z v
 |.mp r _=>some r
 |.any g _=>some g
def IsRow (h:Option Nat→Option Obj) (v:Value) (t:TypeId) (k n:Nat) (xs:List Value):Prop:=
 xs.length=n * k∧((v = .slice none 0 0∧n=0) ∨
  ∃g cap cur,v = .slice (some ⟨g,0,none⟩) n cap∧h (some g)=some (.cells cur t (0,0))∧n≤cap∧cap≤maxLen∧cur.size=cap * k∧cur.toList.take (n * k)=xs)
def c5m (o:Obj) (es:List (Value×Value)):Prop:=
 ∃entries clock,o = .map entries clock∧entries.toList.map (fun e=>(e.key,e.val))=es∧(entries.toList.map (·.born)).Nodup∧∀e∈entries.toList,e.born<clock
def Res.holdsAt (h:Option Nat→Option Obj):Res→Prop
 |.blk g t cs=>h (some g)=some (.cells cs.toArray t (0,0))
 |.row v t k n xs=>IsRow h v t k n xs
 |.mp r es=>∃o,h (some r)=some o∧c5m o es
 |.any g o=>h (some g)=some o
def b4L (w:World):Option Nat→Option Obj
 |some g=>w.heap[g]?
 |none=>none
def Res.holds (w:World) (r:Res):Prop:=r.holdsAt (b4L w)
theorem Res.lt {w:World} {r:Res} {g:Nat} (h:r.holds w) (hf:r.foot=some g):g<w.heap.size:=by
 have key:∀o,w.heap[g]? = some o→g<w.heap.size:=fun o ho=>(Array.getElem?_eq_some_iff.1 ho).1
 cases r with
 |blk g' t cs=>simp only[Res.foot,Option.some.injEq]at hf;subst hf;exact key _ h
 |row v t k n xs=>
  obtain⟨_,h⟩:=h
  rcases h with ⟨rfl,_⟩|⟨g',cap,cur,rfl,hh,_⟩
  ·simp[Res.foot,a3z]at hf
  ·simp only[Res.foot,a3z,Option.some.injEq]at hf;subst hf;exact key _ hh
 |mp r es=>simp only[Res.foot,Option.some.injEq]at hf;subst hf;obtain⟨o,ho,_⟩:=h;exact key _ ho
 |any g' o=>simp only[Res.foot,Option.some.injEq]at hf;subst hf;exact key _ h
theorem Res.keep {w w':World} {r:Res} (h:r.holds w) (hk:∀g,r.foot=some g→w'.heap[g]? = w.heap[g]?):r.holds w':=by
 cases r with
 |blk g t cs=>exact (hk g rfl).trans h
 |row v t k n xs=>
  obtain⟨h1,h⟩:=h;refine⟨h1,?_⟩
  rcases h with h|⟨g,cap,cur,rfl,hh,hl⟩
  ·exact .inl h
  ·exact .inr ⟨g,cap,cur,rfl,(hk g rfl).trans hh,hl⟩
 |mp r es=>obtain⟨o,ho,h2⟩:=h;exact⟨o,(hk r rfl).trans ho,h2⟩
 |any g o=>exact (hk g rfl).trans h
theorem b1q {p:Program} {w w':World} {at_:Addr} {u:TypeId} {k:Addr} {v:Value} {b:Bool} {l:List Addr} (h:w.viewStore p at_ u k v b = .ok (w',l)):w'.drawn=w.drawn:=by
 unfold World.viewStore at h
 simp only[bind,Except.bind,pure,Except.pure]at h
 repeat' split at h
 all_goals first
  |cases h;rfl
  |cases h
theorem b1A {p:Program} {w w':World} {a:Addr} {v:Value} {b:Bool} {l:List Addr} (h:w.farStore p a v b = .ok (w',l)):w'.drawn=w.drawn:=by
 unfold World.farStore at h
 split at h
 ·split at h
  ·rename_i r hr
   cases h
   exact b1q hr
  ·cases h
 ·cases h
theorem a9X {α:Type}:∀(k:Ask α) (w:World),w.drawn≤(w.ask k).2.drawn
 |.done a,w=>Nat.le_refl _
 |.ask what range k,w=>by
  unfold World.ask
  dsimp only
  split
  ·exact a9X (k 0) w
  ·exact Nat.le_trans (Nat.le_succ _) (a9X (k _) { w with drawn:=w.drawn+1 })
theorem c4z (w:World) (c:Sys):w.drawn≤(w.sys c).2.drawn:=by
 have h:=a9X (Kernel.perform c w.os) w;unfold World.sys
 split
 ·exact Nat.le_refl _
 ·rename_i r os w1 hne heq
  rw[heq]at h
  exact h
theorem a1i {α:Type} {P:Program}:∀(s:Sem α) {w w':World} {v:α},s.run P w = .ok v w'→w.drawn≤w'.drawn
 |.pure a,w,w',v,h=>by simp only[Sem.run]at h;cases h;exact Nat.le_refl _
 |.load m a k,w,w',v,h=>by
  simp only[Sem.run]at h
  split at h
  ·exact a1i _ h
  ·split at h
   ·exact a1i _ h
   ·cases h
 |.store m a x k,w,w',v,h=>by
  have key:(match w.cell? a with
   | some _ => if w.frozen? a then Result.halt (.unsupported (.unsafePointer "a write to bytes that a string shares")) w else k.run P (w.setCell a x)
   |none=>match w.farStore P a x (m == .atomic) with
    |.ok (w,_)=>k.run P w
    |.error h=>.halt h w)=Result.ok v w'→w.drawn≤w'.drawn:=by
   intro h
   split at h
   ·split at h
    ·cases h
    ·have h2:=a1i k h;exact h2
   ·split at h
    ·rename_i w1 l hf
     have:=b1A hf;have h2:=a1i k h
     omega
    ·cases h
  cases x<;>first
   |(simp only[Sem.run]at h;cases h;done)
   |(simp only[Sem.run]at h;exact key h)
 |.new o k,w,w',v,h=>by simp only[Sem.run]at h;have h2:=a1i (k w.heap.size) h;exact h2
 |.shape r k,w,w',v,h=>by simp only[Sem.run]at h;exact a1i _ h
 |.freeze a n k,w,w',v,h=>by
  simp only[Sem.run]at h
  have e:(w.freeze a n).drawn=w.drawn:=by unfold World.freeze;split<;>rfl
  have:=a1i k h
  omega
 |.frozen a k,w,w',v,h=>by simp only[Sem.run]at h;exact a1i _ h
 |.getObj r k,w,w',v,h=>by
  simp only[Sem.run]at h
  split at h
  ·cases h
  ·exact a1i _ h
  ·cases h
 |.setObj r o k,w,w',v,h=>by
  simp only[Sem.run]at h
  split at h
  ·cases h
  ·have h2:=a1i k h;exact h2
  ·cases h
 |.choose q k,w,w',v,h=>by
  simp only[Sem.run]at h
  split at h
  ·exact a1i _ h
  ·exact Nat.le_trans (Nat.le_succ _) (a1i (k _) h)
 |.sys c k,w,w',v,h=>by
  simp only[Sem.run]at h
  exact Nat.le_trans (c4z w c) (a1i _ h)
 |.program k,w,w',v,h=>by simp only[Sem.run]at h;exact a1i _ h
 |.mark m k,w,w',v,h=>by simp only[Sem.run]at h;exact a1i k h
 |.halt x,w,w',v,h=>by simp only[Sem.run]at h;cases h
structure Upd (X:List Nat) (w w':World):Prop where
 os:w'.os=w.os
 tape:w'.tape=w.tape∧w.drawn≤w'.drawn
 output:w'.output=w.output
 size:w.heap.size≤w'.heap.size
 block:∀k,k<w.heap.size→k∉X→w'.heap[k]? = w.heap[k]?
theorem Upd.refl (X:List Nat) (w:World):Upd X w w:=⟨rfl,⟨rfl,Nat.le_refl _⟩,rfl,Nat.le_refl _,fun _ _ _=>rfl⟩
structure Ent where
 X:List Nat
 I:IMap
 w:World
def a2c (H:List Res):List Nat:=H.filterMap Res.foot
structure Mem (E:Ent) (I:IMap) (H:List Res) (w:World):Prop where
 upd:Upd E.X E.w w
 con:Con I w
 mono:ILe E.I I
 fresh:∀b,I b≠none→E.I b≠none∨E.w.heap.size≤b∨b∈E.X
 holds:∀r∈H,r.holds w
 priv:∀r∈H,∀g,r.foot=some g→I g=none∧(E.w.heap.size≤g∨g∈E.X)
 dist:(a2c H).Nodup
theorem a6a {H:List Res} {g:Nat}:g∈a2c H↔∃r∈H,r.foot=some g:=by simp[a2c,List.mem_filterMap]
theorem Mem.size {E:Ent} {I:IMap} {H:List Res} {w:World} (h:Mem E I H w):E.w.heap.size≤w.heap.size:=h.upd.size
theorem Mem.ilt {E:Ent} {I:IMap} {H:List Res} {w:World} (h:Mem E I H w) {b:Nat} {o:Obj} (hb:I b=some o):b<w.heap.size:=
 (Array.getElem?_eq_some_iff.1 (h.con b o hb)).1
theorem Mem.step {E:Ent} {I:IMap} {r r':Res} {H:List Res} {w w':World} (h:Mem E I (r::H) w)
  (hos:w'.os=w.os) (htape:w'.tape=w.tape∧w.drawn≤w'.drawn) (hout:w'.output=w.output) (hsize:w.heap.size≤w'.heap.size)
  (hblock:∀k,k<w.heap.size→r.foot≠some k→w'.heap[k]? = w.heap[k]?)
  (hr:r'.holds w') (hf:∀g,r'.foot=some g→r.foot=some g∨w.heap.size≤g):Mem E I (r'::H) w':=by
 have hE:=h.upd.size
 have hsame:∀k,k<E.w.heap.size→k∉E.X→r.foot≠some k:=fun k hk hX e=>by
  have:=(h.priv r (by simp) k e).2
  rcases this with hle|hx
  ·omega
  ·exact hX hx
 have hnd:=h.dist
 have hrest:∀q∈H,∀g,q.foot=some g→r.foot≠some g:=fun q hq g hg e=>by
  have:(a2c (r::H)).Nodup:=hnd
  simp only[a2c,List.filterMap_cons,e]at this
  rw[List.nodup_cons]at this
  exact this.1 (List.mem_filterMap.2 ⟨q,hq,hg⟩)
 refine⟨⟨hos.trans h.upd.os,⟨htape.1.trans h.upd.tape.1,Nat.le_trans h.upd.tape.2 htape.2⟩,hout.trans h.upd.output,oM,fun k hk hX=>?_⟩,fun b o hb=>?_,h.mono,h.fresh,?_,?_,?_⟩
 ·rw[hblock k oM (hsame k hk hX)];exact h.upd.block k hk hX
 ·have hc:=h.con b o hb;rw[hblock b (h.ilt hb) (fun e=>by have:=(h.priv r (by simp) b e).1;rw[hb]at this;cases this)];exact hc
 ·intro q hq
  rcases List.mem_cons.1 hq with rfl|hq
  ·exact hr
  ·have hq':q.holds w:=h.holds q (by simp[hq]);exact Res.keep hq' fun g hg=>hblock g (Res.lt hq' hg) (hrest q hq g hg)
 ·intro q hq g hg
  rcases List.mem_cons.1 hq with rfl|hq
  ·rcases hf g hg with e|hge
   ·exact h.priv r (by simp) g e
   ·refine⟨?_,.inl oM⟩
    cases hI:I g with
    |none=>rfl
    |some o=>have:=h.ilt hI;omega
  ·exact h.priv q (by simp[hq]) g hg
 ·have hndH:(a2c H).Nodup:=by
   simp only[a2c,List.filterMap_cons]at hnd
   split at hnd
   ·exact hnd
   ·exact (List.nodup_cons.1 hnd).2
  simp only[a2c,List.filterMap_cons]
  split
  ·exact hndH
  ·rename_i g hg
   refine List.nodup_cons.2 ⟨fun hm=>?_,hndH⟩;obtain⟨q,hq,hqf⟩:=List.mem_filterMap.1 hm
   rcases hf g hg with e|hge
   ·exact hrest q hq g hqf e
   ·have:=Res.lt (h.holds q (by simp[hq])) hqf
    omega
theorem Mem.nilrow {E:Ent} {I:IMap} {H:List Res} {w:World} (h:Mem E I H w) (t:TypeId) (k:Nat):Mem E I (.row (.slice none 0 0) t k 0 []::H) w:=
 ⟨h.upd,h.con,h.mono,h.fresh,by
  intro q hq
  rcases List.mem_cons.1 hq with rfl|hq
  ·exact⟨by simp,.inl ⟨rfl,rfl⟩⟩
  ·exact h.holds q hq,by
  intro q hq g hg
  rcases List.mem_cons.1 hq with rfl|hq
  ·simp[Res.foot,a3z]at hg
  ·exact h.priv q hq g hg,by have:=h.dist;simp only[a2c,List.filterMap_cons,Res.foot,a3z]at this ⊢;exact this⟩
theorem Mem.drop {E:Ent} {I:IMap} {r:Res} {H:List Res} {w:World} (h:Mem E I (r::H) w):Mem E I H w:=
 ⟨h.upd,h.con,h.mono,h.fresh,fun q hq=>h.holds q (by simp[hq]),fun q hq=>h.priv q (by simp[hq]),by
  have hnd:=h.dist
  simp only[a2c,List.filterMap_cons]at hnd
  split at hnd
  ·exact hnd
  ·exact (List.nodup_cons.1 hnd).2⟩
theorem Mem.perm {E:Ent} {I:IMap} {H H':List Res} {w:World} (h:Mem E I H w) (hp:H.Perm H'):Mem E I H' w:=
 ⟨h.upd,h.con,h.mono,h.fresh,fun q hq=>h.holds q (hp.mem_iff.2 hq),fun q hq=>h.priv q (hp.mem_iff.2 hq),(hp.filterMap _).nodup_iff.1 h.dist⟩
theorem Mem.new {E:Ent} {I:IMap} {H:List Res} {w w':World} (h:Mem E I H w) {r:Res}
  (hos:w'.os=w.os) (htape:w'.tape=w.tape∧w.drawn≤w'.drawn) (hout:w'.output=w.output) (hsize:w.heap.size≤w'.heap.size)
  (hblock:∀k,k<w.heap.size→w'.heap[k]? = w.heap[k]?) (hr:r.holds w') (hf:∀g,r.foot=some g→w.heap.size≤g):Mem E I (r::H) w':=
 (h.nilrow 0 0).step hos htape hout hsize (fun k hk _=>hblock k hk) hr fun g hg=>.inr (hf g hg)
theorem Mem.other {E:Ent} {I:IMap} {H:List Res} {w w':World} (h:Mem E I H w)
  (hos:w'.os=w.os) (htape:w'.tape=w.tape∧w.drawn≤w'.drawn) (hout:w'.output=w.output) (hsize:w.heap.size≤w'.heap.size)
  (hblock:∀k,k<w.heap.size→w'.heap[k]? = w.heap[k]?):Mem E I H w':=
 (h.new (r:=.row (.slice none 0 0) 0 0 0 []) hos htape hout hsize hblock ⟨by simp,.inl ⟨rfl,rfl⟩⟩ (fun g hg=>by simp[Res.foot,a3z]at hg)).drop
theorem Mem.drew {E:Ent} {I:IMap} {H:List Res} {w:World} (h:Mem E I H w):Mem E I H w.drew:=
 h.other rfl ⟨rfl,Nat.le_succ _⟩ rfl (Nat.le_refl _) fun _ _=>rfl
theorem a5b (w:World) (o:Obj) (k:Nat) (h:k<w.heap.size):(w.alloc o).heap[k]? = w.heap[k]?:=by
 show (w.heap.push o)[k]? = _
 rw[Array.getElem?_push,if_neg oM]
theorem Mem.alloc {E:Ent} {I:IMap} {H:List Res} {w:World} (h:Mem E I H w) (t:TypeId) (cs:List Value) :
  Mem E I (.blk w.heap.size t cs::H) (w.alloc (.cells cs.toArray t)):=
 h.new rfl ⟨rfl,Nat.le_refl _⟩ rfl (by simp) (fun k hk=>a5b w _ k hk) (heap_alloc_new w _) fun g hg=>by simp only[Res.foot,Option.some.injEq]at hg;omega
def IMap.pub (I:IMap) (g:Nat) (o:Obj):IMap:=fun b=>if b=g then some o else I b
theorem IMap.pub_same (I:IMap) (g:Nat) (o:Obj):I.pub g o g=some o:=by simp[IMap.pub]
theorem IMap.pub_le {I:IMap} {g:Nat} (o:Obj) (h:I g=none):ILe I (I.pub g o):=fun b u hu=>by
 unfold IMap.pub
 split
 ·rename_i e;subst e;rw[h]at hu;cases hu
 ·exact hu
theorem Mem.pub {E:Ent} {I:IMap} {r:Res} {H:List Res} {w:World} {g:Nat} {o:Obj} (h:Mem E I (r::H) w) (hf:r.foot=some g) (ho:w.heap[g]? = some o) :
  Mem E (I.pub g o) H w:=by
 have hp:=h.priv r (by simp) g hf;refine⟨h.upd,fun b u hu=>?_,h.mono.trans (IMap.pub_le o hp.1),fun b hb=>?_,h.drop.holds,fun q hq g' hg'=>?_,h.drop.dist⟩
 ·unfold IMap.pub at hu
  split at hu
  ·rename_i e;subst e;cases hu;exact ho
  ·exact h.con b u hu
 ·unfold IMap.pub at hb
  split at hb
  ·rename_i e;subst e;exact .inr hp.2
  ·exact h.fresh b hb
 ·have:=h.drop.priv q hq g' hg';refine⟨?_,this.2⟩;unfold IMap.pub
  split
  ·rename_i e
   subst e;have hnd:=h.dist
   simp only[a2c,List.filterMap_cons,hf]at hnd
   exact absurd (List.mem_filterMap.2 ⟨q,hq,hg'⟩) (List.nodup_cons.1 hnd).1
  ·exact this.1
def SX (n:Sz) (E:Ent) (I:IMap) (L:LL) (H:List Res) (K:Act→World→Prop):Prop:=∀a w,St n a L→Mem E I H w→K a w
section
variable {P:Program} {ρ:Option Nat} {n:Sz} {E:Ent} {I I':IMap} {L L':LL} {H H':List Res} {K K':Act→World→Prop} {Q:Exit→Act→World→Prop} {ops:Array Oper}
theorem b3N (h:SX n E I L H K) (hk:∀a w,K a w→K' a w):SX n E I L H K':=fun a w s m=>hk a w (h a w s m)
theorem a4D (hp:H.Perm H') (h:SX n E I L H' K):SX n E I L H K:=fun a w s m=>h a w s (m.perm hp)
theorem a0a {r:Res} (h:SX n E I L H K):SX n E I L (r::H) K:=fun a w s m=>h a w s m.drop
theorem c4v {p:Prop} (hp:∀w,Mem E I H w→p) (h:p→SX n E I L H K):SX n E I L H K:=fun a w s m=>h (hp w m) a w s m
theorem a0E (t:TypeId) (k:Nat) (h:SX n E I L (.row (.slice none 0 0) t k 0 []::H) K):SX n E I L H K:=fun a w s m=>h a w s (m.nilrow t k)
theorem c8o {v:Bool} (t:Nat) (_:look L t=some (.bool v)) (h1:v=true→SX n E I L H K) (h2:v=false→SX n E I L H K):SX n E I L H K:=by
 cases v
 ·exact h2 rfl
 ·exact h1 rfl
theorem a0b {r0 r:Res} (h:SX n E I L (r::r0::H) K):SX n E I L (r0::r::H) K:=a4D (.swap r r0 H) h
theorem a0d {r0 r1 r:Res} (h:SX n E I L (r::r0::r1::H) K):SX n E I L (r0::r1::r::H) K:=
 a4D (List.perm_middle (l₁:=[r0,r1])) h
theorem a0u {r0 r1 r2 r:Res} (h:SX n E I L (r::r0::r1::r2::H) K):SX n E I L (r0::r1::r2::r::H) K:=
 a4D (List.perm_middle (l₁:=[r0,r1,r2])) h
theorem a1y {r0 r1 r2 r3 r:Res} (h:SX n E I L (r::r0::r1::r2::r3::H) K):SX n E I L (r0::r1::r2::r3::r::H) K:=
 a4D (List.perm_middle (l₁:=[r0,r1,r2,r3])) h
theorem a3w {r0 r1 r2 r3 r4 r:Res} (h:SX n E I L (r::r0::r1::r2::r3::r4::H) K):SX n E I L (r0::r1::r2::r3::r4::r::H) K:=
 a4D (List.perm_middle (l₁:=[r0,r1,r2,r3,r4])) h
theorem a0V {r0 r1 r2 r3 r4 r5 r:Res} (h:SX n E I L (r::r0::r1::r2::r3::r4::r5::H) K):SX n E I L (r0::r1::r2::r3::r4::r5::r::H) K:=
 a4D (List.perm_middle (l₁:=[r0,r1,r2,r3,r4,r5])) h
theorem a5R {r0 r1 r2 r3 r4 r5 r6 r:Res} (h:SX n E I L (r::r0::r1::r2::r3::r4::r5::r6::H) K):SX n E I L (r0::r1::r2::r3::r4::r5::r6::r::H) K:=
 a4D (List.perm_middle (l₁:=[r0,r1,r2,r3,r4,r5,r6])) h
theorem d7a {x y:Code} (h:SX n E I L H (x.wq ρ P (Exit.then (y.wq ρ P Q) Q))):SX n E I L H ((Code.seq x y).wq ρ P Q):=fun a w s m=>wpIn_seq (h a w s m)
theorem d3I (h:SX n E I L H (Q .normal)):SX n E I L H (Code.skip.wq ρ P Q):=fun a w s m=>wpIn_skip (h a w s m)
theorem c9P {id:Nat} {c:Code} (h:SX n E I L H (c.wq ρ P (Exit.inBlock id Q))):SX n E I L H ((Code.block id c).wq ρ P Q):=fun a w s m=>wpIn_block (h a w s m)
theorem d3H {id:Nat} (h:SX n E I L H (Q (.exit id))):SX n E I L H ((Code.exit id).wq ρ P Q):=fun a w s m=>wpIn_exit (h a w s m)
theorem d6Z (h:SX n E I L H (Q .ret)):SX n E I L H (Code.ret.wq ρ P Q):=fun a w s m=>wpIn_ret (h a w s m)
theorem c5A {id:Nat} {l:List Oper} (h:SX n E I L H (wpL P l.toArray Q l)):SX n E I L H ((Code.region id l.toArray false).wq ρ P Q):=
 fun a w s m=>wpIn_region_lit (c9A _ _ _ (h a w s m))
theorem d3G {c:Operand} {x y:Code} {b:Bool} (hc:ev L c=some (.bool b)) (ht:b=true→SX n E I L H (x.wq ρ P Q)) (hf:b=false→SX n E I L H (y.wq ρ P Q)) :
  SX n E I L H ((Code.cond c x y).wq ρ P Q):=fun a w s m=>
 wpIn_cond_split (s.ev hc) (fun e=>ht e a w s m) (fun e=>hf e a w s m)
theorem d3J {c:Operand} {x y:Code} (hc:ev L c=some (.bool true)) (ht:SX n E I L H (x.wq ρ P Q)):SX n E I L H ((Code.cond c x y).wq ρ P Q):=
 fun a w s m=>wpIn_cond_true (s.ev hc) (ht a w s m)
theorem c9R {c:Operand} {x y:Code} (hc:ev L c=some (.bool false)) (ht:SX n E I L H (y.wq ρ P Q)):SX n E I L H ((Code.cond c x y).wq ρ P Q):=
 fun a w s m=>wpIn_cond_false (s.ev hc) (ht a w s m)
theorem d5t {N:Act→World→Prop} (h:SX n E I L H N):SX n E I L H (Exit.then N Q .normal):=h
theorem b6P {N:Act→World→Prop} {id:Nat} (h:SX n E I L H (Q (.exit id))):SX n E I L H (Exit.then N Q (.exit id)):=h
theorem c0y {N:Act→World→Prop} (h:SX n E I L H (Q .ret)):SX n E I L H (Exit.then N Q .ret):=h
theorem d1V {id:Nat} (h:SX n E I L H (Q .normal)):SX n E I L H (Exit.inBlock id Q .normal):=h
theorem b6N {id:Nat} (h:SX n E I L H (Q .ret)):SX n E I L H (Exit.inBlock id Q .ret):=h
theorem c0w {id:Nat} (h:SX n E I L H (Q .normal)):SX n E I L H (Exit.inBlock id Q (.exit id)):=fun a w s m=>by
 simp only[Exit.inBlock,if_true];exact h a w s m
theorem c0x {id id':Nat} (hne:Nat.beq id' id=false) (h:SX n E I L H (Q (.exit id'))):SX n E I L H (Exit.inBlock id Q (.exit id')):=fun a w s m=>by
 have:id'≠id:=fun e=>by subst e;simp at hne
 simp only[Exit.inBlock,this,if_false];exact h a w s m
theorem b7q {c:Code} {a:Act} {w:World} (J:Nat→Act→World→Prop) (k:Nat) (h₀:J k a w)
  (round:∀k a w,J k a w→c.wq ρ P (Exit.then (fun a' w'=>∃k',k'<k∧J k' a' w') Q) a w):(Code.loop c).wq ρ P Q a w:=by
 intro b s cs hro hb hr
 have key:∀k a w,J k a w→∃e a' w',Q e a' w'∧ArrivesIn (Machine.fenced P (fen ρ)) P (lone (b.atR a (.code c :: .inLoop c::s)) cs w) b s cs e a' w':=by
  intro k
  induction k using Nat.strongRecOn with
  |_ k ih=>
   intro a w hJ;obtain⟨e,a₁,w₁,hq,harr⟩:=round k a w hJ b (.inLoop c::s) cs hro hb hr
   cases e with
   |normal=>
    obtain⟨k',hlt,hJ₁⟩:=hq;obtain⟨e₂,a₂,w₂,hq₂,harr₂⟩:=ih k' hlt a₁ w₁ hJ₁;exact⟨e₂,a₂,w₂,hq₂,.of_steps (StepsIn.trans harr (.one (fenced_calm (fr:=b.atR a₁ (.inLoop c::s)) hb hr rfl) stepR_inLoop)) harr₂⟩
   |exit id=>exact⟨_,a₁,w₁,hq,.pass (x:=.inLoop c) rfl (fun _ _=>.inl (by simp)) harr⟩
   |goto l=>exact⟨_,a₁,w₁,hq,.pass (x:=.inLoop c) rfl (fun _ _=>.inl (by simp)) harr⟩
   |ret=>exact⟨_,a₁,w₁,hq,.pass (x:=.inLoop c) rfl (fun _ _=>.inl (by simp)) harr⟩
   |panic ch=>exact⟨_,a₁,w₁,hq,.pass (x:=.inLoop c) rfl (fun _ _=>.inl (by simp)) harr⟩
   |outgrown=>exact⟨_,a₁,w₁,hq,.pass (x:=.inLoop c) rfl (fun _ _=>.inl (by simp)) harr⟩
 obtain⟨e,a',w',hq,harr⟩:=key k a w h₀;exact⟨e,a',w',hq,.of_steps (.one (fenced_calm (fr:=b.atR a (.code (.loop c)::s)) hb hr rfl) stepR_loop) harr⟩
def c5n {α:Type} (n:Sz) (E:Ent) (Ix:α→IMap) (Lx:α→LL) (Hx:α→List Res) (p:α→Prop) (μ:α→Nat) (x:α) (a:Act) (w:World):Prop:=
 ∃y,p y∧μ y<μ x∧St n a (Lx y)∧Mem E (Ix y) (Hx y) w
theorem a0x {α:Type} (x0:α) (Ix:α→IMap) (Lx:α→LL) (Hx:α→List Res) (p:α→Prop) (μ:α→Nat) {c:Code}
  (h0:p x0) (hI:Ix x0=I) (hL:Sub (Lx x0) L) (hH:Hx x0=H)
  (round:∀x,p x→SX n E (Ix x) (Lx x) (Hx x) (c.wq ρ P (Exit.then (c5n n E Ix Lx Hx p μ x) Q))):SX n E I L H ((Code.loop c).wq ρ P Q):=by
 intro a w s m
 exact b7q (fun k a w=>∃x,p x∧μ x=k∧St n a (Lx x)∧Mem E (Ix x) (Hx x) w) (μ x0) ⟨x0,h0,rfl,s.sub hL,by rw[hI,hH];exact m⟩
  fun k a w ⟨x,hp,hk,hs,hm⟩=>a3n (fun e a' w' q=>by
   cases e with
   |normal=>obtain⟨y,hpy,hlt,hsy,hmy⟩:=q;exact⟨μ y,oM,y,hpy,rfl,hsy,hmy⟩
   |_=>exact q) (round x hp a w hs hm)
theorem a0w {α:Type} {Ix:α→IMap} {Lx:α→LL} {Hx:α→List Res} {p:α→Prop} {μ:α→Nat} {x:α} (y:α) (hp:p y) (hμ:μ y<μ x)
  (hI:Ix y=I) (hL:Sub (Lx y) L) (hH:Hx y=H):SX n E I L H (c5n n E Ix Lx Hx p μ x):=
 fun a w s m=>⟨y,hp,hμ,s.sub hL,by rw[hI,hH];exact m⟩
theorem a1V {I':IMap} {L':LL} {H':List Res} {c:Code} {N:Act→World→Prop}
  (h1:SX n E I L H (c.wq ρ P (Exit.then (fun a w=>St n a L'∧Mem E I' H' w) Q))) (h2:SX n E I' L' H' N):SX n E I L H (c.wq ρ P (Exit.then N Q)):=fun a w s m=>
 a3n (fun e a w q=>by cases e<;>first|exact q|exact h2 a w q.1 q.2) (h1 a w s m)
theorem c1q {L':LL} {c:Code} {N:Act→World→Prop}
  (h1:SX n E I L H (c.wq ρ P (Exit.then (fun a w=>St n a L'∧Mem E I H w) Q))) (h2:SX n E I L' H N):SX n E I L H (c.wq ρ P (Exit.then N Q)):=a1V h1 h2
theorem a7f {α:Type} {Ix:α→IMap} {Lx:α→LL} {Hx:α→List Res} {p:α→Prop} {c:Code} {N:Act→World→Prop}
  (h1:SX n E I L H (c.wq ρ P (Exit.then (fun a w=>∃x,p x∧St n a (Lx x)∧Mem E (Ix x) (Hx x) w) Q))) (h2:∀x,p x→SX n E (Ix x) (Lx x) (Hx x) N):SX n E I L H (c.wq ρ P (Exit.then N Q)):=fun a w s m=>
 a3n (fun e a w q=>by cases e<;>first|exact q|(obtain⟨x,hp,hs,hm⟩:=q;exact h2 x hp a w hs hm)) (h1 a w s m)
theorem a0r (hL:Sub L' L) (hH:H'=H) (hI:I'=I):SX n E I L H (fun a w=>St n a L'∧Mem E I' H' w):=fun _ _ s m=>⟨s.sub hL,by rw[hH,hI];exact m⟩
theorem a2A {α:Type} {Ix:α→IMap} {Lx:α→LL} {Hx:α→List Res} {p:α→Prop} (x:α) (hp:p x) (hL:Sub (Lx x) L) (hH:Hx x=H) (hI:Ix x=I) :
  SX n E I L H (fun a w=>∃x,p x∧St n a (Lx x)∧Mem E (Ix x) (Hx x) w):=fun _ _ s m=>⟨x,hp,s.sub hL,by rw[hH,hI];exact m⟩
theorem d7M (h:SX n E I L H (Q .normal)):SX n E I L H (wpL P ops Q []):=fun a w s m=>h a w s m
end
end Go.Sx
set_option linter.all false
namespace Go.Sx
open Go
def evs (L:LL):List Operand→Option (List Value)
 | []=>some []
 |x::xs=>match ev L x,evs L xs with
  |some v,some vs=>some (v::vs)
  |_,_=>none
theorem a6q {n:Sz} {L:LL} {a:Act} (s:St n a L):∀(xs:List Operand) (vs:List Value),evs L xs=some vs→xs.map a.eval=vs:=by
 intro xs
 induction xs with
 |nil=>intro vs h;simp only[evs,Option.some.injEq]at h;subst h;rfl
 |cons x xs ih=>
  intro vs h
  simp only[evs]at h
  split at h
  ·rename_i v us hv hus
   cases h
   simp only[List.map_cons,s.ev hv,ih us hus]
  ·cases h
def tyK (P:Program) (t:TypeId):Option (Bool×Nat):=
 match P.underlying t,P.info? t with
 |some d,some i=>some ((match d with | .struct _ | .array _ _=>true|_=>false),i.size)
 |_,_=>none
def a1k (P:Program) (t i:Nat):Option (Nat×Bool×Nat):=
 match P.underlying t with
 |some (.struct fs)=>match fs[i]? with
  |some f=>(tyK P f.type).map fun x=>(f.offset,x.1,x.2)
  |none=>none
 |_=>none
def a6J (P:Program) (t:TypeId):Option (TypeId×Nat):=
 match P.underlying t with
 |some (.slice e)=>(tyK P e).map fun x=>(e,x.2)
 |_=>none
def c8O (P:Program) (t:TypeId):Option (Nat×TypeId×Nat):=
 match P.underlying t with
 |some (.array n e)=>(tyK P e).map fun x=>(n,e,x.2)
 |_=>none
def a1o (P:Program) (t:TypeId):Option (List Value):=((P.info? t).bind (·.zero)).map (·.cells.toList)
section
variable {P:Program}
theorem a1a {t:TypeId} {b:Bool} {k:Nat} (h:tyK P t=some (b,k)) (w:World):(isAgg t).run P w = .ok b w∧(sizeOf t).run P w = .ok k w:=by
 unfold tyK at h
 split at h
 ·rename_i d i hd hi
  simp only[Option.some.injEq,Prod.mk.injEq]at h
  obtain⟨h1,h2⟩:=h;refine⟨?_,by simp[sizeOf,typeInfo,hi,h2]⟩
  simp only[isAgg,Sem.run_bind,run_underlying hd,Result.andThen_ok]
  cases d<;>simp_all
 ·cases h
theorem b0t {t i off k:Nat} {b:Bool} (h:a1k P t i=some (off,b,k)) :
  ∃fs f,P.underlying t=some (.struct fs)∧fs[i]? = some f∧f.offset=off∧tyK P f.type=some (b,k):=by
 unfold a1k at h
 split at h
 ·rename_i fs hfs
  split at h
  ·rename_i f hf
   cases hk:tyK P f.type with
   |none=>simp[hk]at h
   |some x=>
    simp only[hk,Option.map_some,Option.some.injEq,Prod.mk.injEq]at h
    exact⟨fs,f,hfs,hf,h.1,by rw[hk];simp[←h.2.1,←h.2.2]⟩
  ·cases h
 ·cases h
theorem a5U {t e k:Nat} (h:a6J P t=some (e,k)):P.underlying t=some (.slice e)∧∃b,tyK P e=some (b,k):=by
 unfold a6J at h
 split at h
 ·rename_i e' he
  cases hk:tyK P e' with
  |none=>simp[hk]at h
  |some x=>
   simp only[hk,Option.map_some,Option.some.injEq,Prod.mk.injEq]at h
   obtain⟨rfl,rfl⟩:=h;exact⟨he,x.1,hk⟩
 ·cases h
theorem a9W {t n e k:Nat} (h:c8O P t=some (n,e,k)):P.underlying t=some (.array n e)∧∃b,tyK P e=some (b,k):=by
 unfold c8O at h
 split at h
 ·rename_i n' e' he
  cases hk:tyK P e' with
  |none=>simp[hk]at h
  |some x=>
   simp only[hk,Option.map_some,Option.some.injEq,Prod.mk.injEq]at h
   obtain⟨rfl,rfl,rfl⟩:=h;exact⟨he,x.1,hk⟩
 ·cases h
theorem a6C {t:TypeId} {zs:List Value} (h:a1o P t=some zs) (w:World):∃z,(zeroValue t).run P w = .ok z w∧z.cells=zs.toArray:=by
 unfold a1o at h
 cases hi:P.info? t with
 |none=>simp[hi]at h
 |some i=>
  cases hz:i.zero with
  |none=>simp[hi,hz]at h
  |some z=>
   simp only[hi,hz,Option.bind_some,Option.map_some,Option.some.injEq]at h
   exact⟨z,by simp[zeroValue,typeInfo,hi,hz],by rw[←h]⟩
end
theorem Mem.blk {E:Ent} {I:IMap} {H:List Res} {w:World} {g t:Nat} {cs:List Value} (m:Mem E I (.blk g t cs::H) w):w.heap[g]? = some (.cells cs.toArray t (0,0)):=
 m.holds (.blk g t cs) (List.mem_cons_self ..)
def ICell (I:IMap) (b off:Nat) (v:Value):Prop:=∃cs t fz,I b=some (.cells cs t fz)∧cs[off]? = some v
def ICells (I:IMap) (b off:Nat) (vs:List Value):Prop:=∀j u,vs[j]? = some u→ICell I b (off+j) u
theorem ICell.le {I I':IMap} {b off:Nat} {v:Value} (h:ICell I b off v) (hI:ILe I I'):ICell I' b off v:=by
 obtain⟨cs,t,fz,h1,h2⟩:=h;exact⟨cs,t,fz,hI _ _ h1,h2⟩
theorem ICells.sub {I:IMap} {b off:Nat} {vs:List Value} (h:ICells I b off vs) (q k:Nat):ICells I b (off+q) ((vs.drop q).take k):=fun j u hu=>by
 rw[List.getElem?_take]at hu
 split at hu
 ·rw[List.getElem?_drop]at hu
  have:=h _ _ hu
  rwa[←Nat.add_assoc]at this
 ·cases hu
theorem ICells.le {I I':IMap} {b off:Nat} {vs:List Value} (h:ICells I b off vs) (hI:ILe I I'):ICells I' b off vs:=fun j u hu=>(h j u hu).le hI
theorem ICell.at_ {I:IMap} {b off:Nat} {v:Value} {w:World} (h:ICell I b off v) (hc:Con I w):w.cell? ⟨b,off,none⟩=some v:=by
 obtain⟨cs,t,fz,h1,h2⟩:=h;rw[cell_of_row w b off cs t fz (hc _ _ h1)];exact h2
theorem add_lit (b o n:Nat):Addr.add ⟨b,o,none⟩ n=⟨b,o+n,none⟩:=Addr.add_lit b o n
section
variable {P:Program} {w:World}
theorem a6f {t:TypeId} {a:Addr} {v:Value} (ht:tyK P t=some (false,1)) (h:w.cell? a=some v):(loadVar t a).run P w = .ok v w:=by
 simp[loadVar,(a1a ht w).1,h]
theorem a4Q {t:TypeId} {a:Addr} {cs:List Value} {k:Nat} (ht:tyK P t=some (true,k)) (hk:cs.length=k) (h:∀j v,cs[j]? = some v→w.cell? (a.add j)=some v) :
  (loadVar t a).run P w = .ok (.agg cs.toArray) w:=by
 subst hk
 simp[loadVar,(a1a ht w).1,(a1a ht w).2,run_loadCells_list w a cs h]
end
section
variable {P:Program} {ρ:Option Nat} {n:Sz} {E:Ent} {I:IMap} {L:LL} {H:List Res} {Q:Exit→Act→World→Prop} {ops:Array Oper} {K:Act→World→Prop}
variable {d ty:Nat} {pos:String} {af:Array Edge} {x y z:Operand}
theorem a0z {o:Oper} {rest:List Oper} (h:SX n E I L H (one P ops Q o (wpL P ops Q rest))):SX n E I L H (wpL P ops Q (o::rest)):=h
def OV (P:Program) (n:Sz) (E:Ent) (I:IMap) (L:LL) (H:List Res) (o:Oper) (v:Value):Prop:=
 ∀a w,St n a L→Mem E I H w→(execOp a.eval o).run P w = .ok (.value v) w
theorem a9n {α:Type} {op:Op} (V:α→Value) (Ix:α→IMap) (Hx:α→List Res) (p:α→Prop) (hd:Nat.blt d n.sz=true)
  (h:∀a w,St n a L→Mem E I H w→∃x w',p x∧(execOp a.eval ⟨some d,op,ty,pos,af,none⟩).run P w = .ok (.value (V x)) w'∧Mem E (Ix x) (Hx x) w')
  (k:∀x,p x→SX n E (Ix x) ((d,V x)::L) (Hx x) K):SX n E I L H (one P ops Q ⟨some d,op,ty,pos,af,none⟩ K):=by
 intro a w s m;obtain⟨x,w',hp,hr,hm⟩:=h a w s m;unfold one;rw[if_pos (by rfl)];rw[a9L hr];exact k x hp _ _ (s.put hd) hm
theorem a0q {op:Op} {v:Value} (hd:Nat.blt d n.sz=true) (h:OV P n E I L H ⟨some d,op,ty,pos,af,none⟩ v)
  (k:SX n E I ((d,v)::L) H K):SX n E I L H (one P ops Q ⟨some d,op,ty,pos,af,none⟩ K):=
 a9n (fun _:Unit=>v) (fun _=>I) (fun _=>H) (fun _=>True) hd (fun a w s m=>⟨(),w,trivial,h a w s m,m⟩) fun _ _=>k
theorem o_v {op:Op} {v:Value} {rest:List Oper} (hd:Nat.blt d n.sz=true) (h:OV P n E I L H ⟨some d,op,ty,pos,af,none⟩ v)
  (k:SX n E I ((d,v)::L) H (wpL P ops Q rest)):SX n E I L H (wpL P ops Q (⟨some d,op,ty,pos,af,none⟩::rest)):=a0z (a0q hd h k)
theorem b8B {op:Op} {I':IMap} {H':List Res}
  (h:∀a w,St n a L→Mem E I H w→∃w',(execOp a.eval ⟨none,op,ty,pos,af,none⟩).run P w = .ok .skip w'∧Mem E I' H' w')
  (k:SX n E I' L H' K):SX n E I L H (one P ops Q ⟨none,op,ty,pos,af,none⟩ K):=by
 intro a w s m;obtain⟨w',hr,hm⟩:=h a w s m;unfold one;rw[if_pos (by rfl)];rw[d3e hr];exact k _ _ s hm
theorem a0n {dst:Option Nat} {op:Op} {j t:Nat} {b v:Bool} (ht:(ops[j]?).bind (·.dst)=some t) (hb:look L t=some (.bool v)) (hv:v=b)
  (k:SX n E I L H (one P ops Q ⟨dst,op,ty,pos,af,none⟩ K)):SX n E I L H (one P ops Q ⟨dst,op,ty,pos,af,some (j,b)⟩ K):=by
 intro a w s m;have h:=k a w s m;subst hv;have hy:Region.wanted ⟨dst,op,ty,pos,af,some (j,v)⟩ (yielded ops a.tmps)=true:=by simp[Region.wanted,yielded,ht,s.get _ _ hb]
 have hn:Region.wanted ⟨dst,op,ty,pos,af,none⟩ (yielded ops a.tmps)=true:=rfl;unfold one at h ⊢
 rw[if_pos hy];rw[if_pos hn]at h
 exact h
theorem d8I {op:Op} {j t:Nat} {b v:Bool} (ht:(ops[j]?).bind (·.dst)=some t) (hb:look L t=some (.bool v)) (hv:v = !b) (hd:Nat.blt d n.sz=true)
  (k:SX n E I ((d,undef)::L) H K):SX n E I L H (one P ops Q ⟨some d,op,ty,pos,af,some (j,b)⟩ K):=by
 intro a w s m;have h:=k _ _ (s.put hd) m;subst hv;have hy:Region.wanted ⟨some d,op,ty,pos,af,some (j,b)⟩ (yielded ops a.tmps)=false:=by simp[Region.wanted,yielded,ht,s.get _ _ hb]
 unfold one;rw[if_neg (by simp[hy])];exact h
theorem d7N {op:Op} {j t:Nat} {b v:Bool} (ht:(ops[j]?).bind (·.dst)=some t) (hb:look L t=some (.bool v)) (hv:v = !b)
  (k:SX n E I L H K):SX n E I L H (one P ops Q ⟨none,op,ty,pos,af,some (j,b)⟩ K):=by
 intro a w s m;have h:=k _ _ s m;subst hv;have hy:Region.wanted ⟨none,op,ty,pos,af,some (j,b)⟩ (yielded ops a.tmps)=false:=by simp[Region.wanted,yielded,ht,s.get _ _ hb]
 unfold one;rw[if_neg (by simp[hy])];exact h
theorem d7O {op:Op} {j t:Nat} {b:Bool} (ht:(ops[j]?).bind (·.dst)=some t) (hb:look L t=some undef) (hd:Nat.blt d n.sz=true)
  (k:SX n E I ((d,undef)::L) H K):SX n E I L H (one P ops Q ⟨some d,op,ty,pos,af,some (j,b)⟩ K):=by
 intro a w s m;have h:=k _ _ (s.put hd) m;have hy:Region.wanted ⟨some d,op,ty,pos,af,some (j,b)⟩ (yielded ops a.tmps)=false:=by simp[Region.wanted,yielded,ht,s.get _ _ hb,undef]
 unfold one;rw[if_neg (by simp[hy])];exact h
theorem b5D {v:Value} (hx:ev L x=some v):OV P n E I L H ⟨some d,.move x,ty,pos,af,none⟩ (v):=
 (fun a w s _=>by simp[execOp,s.ev hx])
theorem b9g {v:Value} (hx:ev L x=some v):OV P n E I L H ⟨some d,.assign x,ty,pos,af,none⟩ (v):=
 (fun a w s _=>by simp[execOp,s.ev hx])
theorem b3P {b c:Bool} (hb:b=true) (hx:ev L x=some (.bool b)) (hy:ev L y=some (.bool c)):OV P n E I L H ⟨some d,.pick x y (.const (.bool false)),ty,pos,af,none⟩ (.bool c):=
 (fun a w s _=>by subst hb;simp[execOp,s.ev hx,s.ev hy,asBool])
theorem c4I {b:Bool} (hb:b=false) (hx:ev L x=some (.bool b)):OV P n E I L H ⟨some d,.pick x y (.const (.bool false)),ty,pos,af,none⟩ (.bool false):=
 (fun a w s _=>by subst hb;simp[execOp,s.ev hx,asBool,show ∀v,a.eval (.const v)=v from fun _=>rfl])
theorem c9v {b c:Bool} (hb:b=false) (hx:ev L x=some (.bool b)) (hz:ev L z=some (.bool c)):OV P n E I L H ⟨some d,.pick x (.const (.bool true)) z,ty,pos,af,none⟩ (.bool c):=
 (fun a w s _=>by subst hb;simp[execOp,s.ev hx,s.ev hz,asBool])
theorem c9w {b:Bool} (hb:b=true) (hx:ev L x=some (.bool b)):OV P n E I L H ⟨some d,.pick x (.const (.bool true)) z,ty,pos,af,none⟩ (.bool true):=
 (fun a w s _=>by subst hb;simp[execOp,s.ev hx,asBool,show ∀v,a.eval (.const v)=v from fun _=>rfl])
theorem b1O {b:Bool} (hx:ev L x=some (.bool b)) {t:Nat}:OV P n E I L H ⟨some d,.unOp .not t x,ty,pos,af,none⟩ (.bool (!b)):=
 (fun a w s _=>by simp[execOp,s.ev hx,Op.unary])
variable {kd:IntKind} {i j:Int} {tx tyy:Nat}
theorem b7m (hx:ev L x=some (.int kd i)) (hy:ev L y=some (.int kd j)):OV P n E I L H ⟨some d,.binOp .lss tx x y tyy,ty,pos,af,none⟩ (.bool (decide (i<j))):=
 (fun a w s _=>by simp[execOp,s.ev hx,s.ev hy,eqGuard_at_int,binOp_lss])
theorem d2R (hx:ev L x=some (.int kd i)) (hy:ev L y=some (.int kd j)):OV P n E I L H ⟨some d,.binOp .leq tx x y tyy,ty,pos,af,none⟩ (.bool (decide (i≤j))):=
 (fun a w s _=>by simp[execOp,s.ev hx,s.ev hy,eqGuard_at_int,binOp_leq])
theorem c4M (hx:ev L x=some (.int kd i)) (hy:ev L y=some (.int kd j)):OV P n E I L H ⟨some d,.binOp .gtr tx x y tyy,ty,pos,af,none⟩ (.bool (decide (j<i))):=
 (fun a w s _=>by simp[execOp,s.ev hx,s.ev hy,eqGuard_at_int,binOp_gtr])
theorem b7l (hx:ev L x=some (.int kd i)) (hy:ev L y=some (.int kd j)):OV P n E I L H ⟨some d,.binOp .geq tx x y tyy,ty,pos,af,none⟩ (.bool (decide (j≤i))):=
 (fun a w s _=>by simp[execOp,s.ev hx,s.ev hy,eqGuard_at_int,binOp_geq])
theorem c4K (hx:ev L x=some (.int kd i)) (hy:ev L y=some (.int kd j)):OV P n E I L H ⟨some d,.binOp .eql tx x y tyy,ty,pos,af,none⟩ (.bool (decide (i=j))):=
 (fun a w s _=>by simp[execOp,s.ev hx,s.ev hy,eqGuard_at_int,binOp_eql];exact Bool.beq_eq_decide_eq i j)
theorem b7n (hx:ev L x=some (.int kd i)) (hy:ev L y=some (.int kd j)):OV P n E I L H ⟨some d,.binOp .neq tx x y tyy,ty,pos,af,none⟩ (.bool (!decide (i=j))):=
 (fun a w s _=>by simp[execOp,s.ev hx,s.ev hy,eqGuard_at_int,binOp_neq,bne];exact Bool.beq_eq_decide_eq i j)
def I64 (i:Int):Prop:=-9223372036854775808≤i∧i≤9223372036854775807
theorem a2u (hx:ev L x=some (.int .i64 i)) (hy:ev L y=some (.int .i64 j)) (hb:I64 (i+j)):OV P n E I L H ⟨some d,.binOp .add tx x y tyy,ty,pos,af,none⟩ (.int .i64 (i+j)):=
 (fun a w s _=>by simp[execOp,s.ev hx,s.ev hy,eqGuard_at_int,binOp_add,Op.intArith];exact IntWalk.i64_in _ ⟨hb.1,hb.2⟩)
theorem a1j (hx:ev L x=some (.int .i64 i)) (hy:ev L y=some (.int .i64 j)) (hb:I64 (i-j)):OV P n E I L H ⟨some d,.binOp .sub tx x y tyy,ty,pos,af,none⟩ (.int .i64 (i-j)):=
 (fun a w s _=>by simp[execOp,s.ev hx,s.ev hy,eqGuard_at_int,binOp_sub,Op.intArith];exact IntWalk.i64_in _ ⟨hb.1,hb.2⟩)
theorem b5E (hx:ev L x=some (.int .i64 i)) (hy:ev L y=some (.int .i64 j)) (hb:I64 (i * j)):OV P n E I L H ⟨some d,.binOp .mul tx x y tyy,ty,pos,af,none⟩ (.int .i64 (i * j)):=
 (fun a w s _=>by simp[execOp,s.ev hx,s.ev hy,eqGuard_at_int,binOp_mul,Op.intArith];exact IntWalk.i64_in _ ⟨hb.1,hb.2⟩)
theorem a8b (s t:ByteArray):(s.toList == t.toList)=decide (s=t):=by
 rw[Bool.beq_eq_decide_eq]
 congr 1
 rw[ByteArray.toList_eq,ByteArray.toList_eq];exact propext ⟨fun h=>ByteArray.ext (Array.toList_inj.1 h),fun h=>by rw[h]⟩
def sLt (s t:ByteArray):Bool:=Op.bytesLess s.toList t.toList
variable {s t:ByteArray}
theorem d5U (hx:ev L x=some (.string s)) (hy:ev L y=some (.string t)):OV P n E I L H ⟨some d,.binOp .eql tx x y tyy,ty,pos,af,none⟩ (.bool (decide (s=t))):=
 (fun a w st _=>by simp only[execOp,st.ev hx,st.ev hy,eqGuard_at_string,binOp,Op.stringOp,a8b];rfl)
theorem d6b (hx:ev L x=some (.string s)) (hy:ev L y=some (.string t)):OV P n E I L H ⟨some d,.binOp .neq tx x y tyy,ty,pos,af,none⟩ (.bool (!decide (s=t))):=
 (fun a w st _=>by simp only[execOp,st.ev hx,st.ev hy,eqGuard_at_string,binOp,Op.stringOp,a8b];rfl)
theorem d5Y (hx:ev L x=some (.string s)) (hy:ev L y=some (.string t)):OV P n E I L H ⟨some d,.binOp .lss tx x y tyy,ty,pos,af,none⟩ (.bool (sLt s t)):=
 (fun a w st _=>by simp only[execOp,st.ev hx,st.ev hy,eqGuard_at_string,binOp,Op.stringOp];rfl)
theorem d5V (hx:ev L x=some (.string s)) (hy:ev L y=some (.string t)):OV P n E I L H ⟨some d,.binOp .geq tx x y tyy,ty,pos,af,none⟩ (.bool (!sLt s t)):=
 (fun a w st _=>by simp only[execOp,st.ev hx,st.ev hy,eqGuard_at_string,binOp,Op.stringOp];rfl)
theorem d5X (hx:ev L x=some (.string s)) (hy:ev L y=some (.string t)):OV P n E I L H ⟨some d,.binOp .leq tx x y tyy,ty,pos,af,none⟩ (.bool (sLt s t||decide (s=t))):=
 (fun a w st _=>by simp only[execOp,st.ev hx,st.ev hy,eqGuard_at_string,binOp,Op.stringOp,a8b];rfl)
theorem d5W (hx:ev L x=some (.string s)) (hy:ev L y=some (.string t)):OV P n E I L H ⟨some d,.binOp .gtr tx x y tyy,ty,pos,af,none⟩ (.bool (!(sLt s t||decide (s=t)))):=
 (fun a w st _=>by simp only[execOp,st.ev hx,st.ev hy,eqGuard_at_string,binOp,Op.stringOp,a8b];rfl)
theorem c4J {b c:Bool} (ht:P.underlying tx=some .bool) (hx:ev L x=some (.bool b)) (hy:ev L y=some (.bool c)):OV P n E I L H ⟨some d,.binOp .neq tx x y tyy,ty,pos,af,none⟩ (.bool (!(b == c))):=
 (fun a w st _=>by simp[execOp,st.ev hx,st.ev hy,eqGuard_at_bool,run_neq_bool w tx b c ht])
theorem c4R {ts:Nat} (ht:P.underlying ts=some .string) (hx:ev L x=some (.string s)) (hy:ev L y=some (.int .i64 i)) (q:Nat) (hq:i=(q:Int)) (hlt:q<s.size):OV P n E I L H ⟨some d,.index ts x y,ty,pos,af,none⟩ (.int .u8 ((s[q]!.toNat:Nat):Int)):=
 (fun a w st _=>by
  subst hq;have hs:s[q]? = some (s[q]!):=by rw[getElem?_pos s q hlt,getElem!_pos s q hlt]
  simp[execOp,st.ev hx,st.ev hy,Instr.index,asIntOf,run_underlying ht,hs])
theorem a3M {A:Option Addr} {m c ts e:Nat} (ht:P.underlying ts=some (.slice e)) (hx:ev L x=some (.slice A m c)):OV P n E I L H ⟨some d,.call { callee:=.builtin .len,args:=#[x],argTypes:=#[ts] },ty,pos,af,none⟩ (.int .i64 (m:Int)):=
 (fun a w st _=>by simp[execOp,st.ev hx,resolve,invoke,builtin,Builtin.len_,run_underlying ht,goInt])
theorem c4O {ts:Nat} (ht:P.underlying ts=some .string) (hx:ev L x=some (.string s)):OV P n E I L H ⟨some d,.call { callee:=.builtin .len,args:=#[x],argTypes:=#[ts] },ty,pos,af,none⟩ (.int .i64 (s.size:Int)):=
 (fun a w st _=>by simp[execOp,st.ev hx,resolve,invoke,builtin,Builtin.len_,run_underlying ht,goInt])
theorem a2M {vs:Array Value} {q:Nat} {v:Value} (hx:ev L x=some (.tuple vs)) (hq:vs[q]? = some v):OV P n E I L H ⟨some d,.extract x q,ty,pos,af,none⟩ (v):=
 (fun a w st _=>by simp[execOp,st.ev hx,Instr.extract,hq])
theorem d2P {cs:List Value} {tt q off:Nat} {v:Value} (hf:a1k P tt q=some (off,false,1)) (hx:ev L x=some (.agg cs.toArray)) (hv:cs[off]? = some v):OV P n E I L H ⟨some d,.field tt x q,ty,pos,af,none⟩ (v):=
 (fun a w st _=>by
  obtain⟨fs,f,h1,h2,h3,h4⟩:=b0t hf;subst h3
  simp[execOp,st.ev hx,Instr.field,run_underlying h1,h2,asAgg,part,(a1a h4 w).1,hv])
theorem c8v {cs:List Value} {tt q off kk:Nat} (vs:List Value) (hf:a1k P tt q=some (off,true,kk)) (hx:ev L x=some (.agg cs.toArray)) (hv:(cs.drop off).take kk=vs):OV P n E I L H ⟨some d,.field tt x q,ty,pos,af,none⟩ (.agg vs.toArray):=
 (fun a w st _=>by
  obtain⟨fs,f,h1,h2,h3,h4⟩:=b0t hf;subst h3 hv
  have e:cs.toArray.extract f.offset (f.offset+kk)=((cs.drop f.offset).take kk).toArray:=by
   rw[List.extract_toArray]
   simp[List.extract]
  simp[execOp,st.ev hx,Instr.field,run_underlying h1,h2,asAgg,part,(a1a h4 w).1,(a1a h4 w).2,e])
theorem b7k {tt q off b o k':Nat} {ag:Bool} (hf:a1k P tt q=some (off,ag,k'+1)) (hx:ev L x=some (.pointer (some ⟨b,o,none⟩))):OV P n E I L H ⟨some d,.fieldAddr tt x q,ty,pos,af,none⟩ (.pointer (some ⟨b,o+off,none⟩)):=
 (fun a w st _=>by
  obtain⟨fs,f,h1,h2,h3,h4⟩:=b0t hf;subst h3
  simp[execOp,st.ev hx,Instr.fieldAt,Instr.sureAddr,run_underlying h1,h2,fieldPlace,(a1a h4 w).2,add_lit])
theorem c0Q {b:Addr} (hx:ev L x=some (.pointer (some b))):OV P n E I L H ⟨some d,.nilCheck x,ty,pos,af,none⟩ (.pointer (some b)):=
 (fun a w st _=>by simp[execOp,st.ev hx])
theorem a0l {A:Option Addr} {m c b o e kk tt:Nat} (he:a6J P tt=some (e,kk)) (hx:ev L x=some (.slice A m c)) (hy:ev L y=some (.int .i64 i)) (hA:A=some ⟨b,o,none⟩) (q:Nat) (hq:i=(q:Int)) (hlt:q<m)
  : OV P n E I L H ⟨some d,.indexAddr tt x y,ty,pos,af,none⟩ (.pointer (some ⟨b,o+q * kk,none⟩)):=
 (fun a w st _=>by
  obtain⟨h1,bb,h2⟩:=a5U he;subst hA hq;have hlt':(q:Int)<(m:Int):=oM
  simp[execOp,st.ev hx,st.ev hy,Instr.indexAt,asIntOf,run_underlying h1,(a1a h2 w).2,hlt,add_lit])
theorem a8g {b o e kk tt m:Nat} {kd:IntKind} (he:c8O P tt=some (m,e,kk)) (hx:ev L x=some (.pointer (some ⟨b,o,none⟩))) (hy:ev L y=some (.int kd i)) (q:Nat) (hq:i=(q:Int)) (hlt:q<m)
  : OV P n E I L H ⟨some d,.indexAddr tt x y,ty,pos,af,none⟩ (.pointer (some ⟨b,o+q * kk,none⟩)):=
 (fun a w st _=>by
  obtain⟨h1,bb,h2⟩:=a9W he;subst hq;have hlt':(q:Int)<(m:Int):=oM
  simp[execOp,st.ev hx,st.ev hy,Instr.indexAt,asIntOf,Instr.sureAddr,run_underlying h1,(a1a h2 w).2,hlt,add_lit])
theorem a2b {ts td:Nat} {ks kd:IntKind} {m:Int} (hs:P.underlying ts=some (.int ks)) (ht:P.underlying td=some (.int kd)) (hx:ev L x=some (.int ks i)) (hw:kd.wrap i=m)
  : OV P n E I L H ⟨some d,.convert ts td x,ty,pos,af,none⟩ (.int kd m):=
 (fun a w st _=>by
  subst hw
  simp[execOp,st.ev hx,convert,run_underlying hs,run_underlying ht,Conv.intToInt])
def c5K (A:Option Addr) (c lo k:Nat):Option Addr:=if c=lo then A else A.map (·.add (lo * k))
theorem a2F {A:Option Addr} {m c e kk tt:Nat} (he:a6J P tt=some (e,kk)) (hx:ev L x=some (.slice A m c)) (hy:ev L y=some (.int .i64 i)) (q:Nat) (hq:i=(q:Int)) (hle:q≤c)
  : OV P n E I L H ⟨some d,.slice tt x none (some y) none,ty,pos,af,none⟩ (.slice A q c):=
 (fun a w st _=>by
  obtain⟨h1,bb,h2⟩:=a5U he;subst hq;have hA:(A.map fun x=>x.add 0)=A:=by cases A<;>simp[Addr.add]
  simp[execOp,st.ev hx,st.ev hy,Instr.sliceAt,Instr.slice,Instr.sliceBounds,Instr.sliceBound,asIntOf,run_underlying h1,(a1a h2 w).2,hle,hA])
theorem a0L {A:Option Addr} {m c e kk tt:Nat} (he:a6J P tt=some (e,kk)) (hx:ev L x=some (.slice A m c)) (hy:ev L y=some (.int .i64 i)) (q:Nat) (hq:i=(q:Int)) (hle:q≤m)
  : OV P n E I L H ⟨some d,.slice tt x (some y) none none,ty,pos,af,none⟩ (.slice (c5K A c q kk) (m-q) (c-q)):=
 (fun a w st _=>by
  obtain⟨h1,bb,h2⟩:=a5U he;subst hq
  simp[execOp,st.ev hx,st.ev hy,Instr.sliceAt,Instr.slice,Instr.sliceBounds,Instr.sliceBound,asIntOf,run_underlying h1,(a1a h2 w).2,hle,c5K])
theorem c0P {fn:Fn} {first captured:List Operand} {fs cs:List Value} (hf:evs L first=some fs) (hc:evs L captured=some cs) :
  OV P n E I L H ⟨some d,.makeFunc fn first.toArray captured.toArray,ty,pos,af,none⟩ (.func fn fs.toArray cs.toArray):=
 (fun a w st _=>by
  have h1:first.toArray.map a.eval=fs.toArray:=by rw[←a6q st first fs hf];simp
  have h2:captured.toArray.map a.eval=cs.toArray:=by rw[←a6q st captured cs hc];simp
  simp only[execOp,Instr.makeFunc,h1,h2]
  rfl)
theorem d7K {v:Value} {tt:Nat} (cs:List Value) (hx:ev L x=some v) (hc:v.cells=cs.toArray) (hd:Nat.blt d n.sz=true)
  (k:∀g,SX n E I ((d,.pointer (some ⟨g,0,none⟩))::L) (.blk g tt cs::H) K) :
  SX n E I L H (one P ops Q ⟨some d,.box tt x,ty,pos,af,none⟩ K):=
 a9n (fun g:Nat=>.pointer (some ⟨g,0,none⟩)) (fun _=>I) (fun g=>.blk g tt cs::H) (fun _=>True) hd
  (fun a w st m=>⟨w.heap.size,w.alloc (.cells cs.toArray tt),trivial,by simp[execOp,st.ev hx,Instr.box,newVar,newRow,hc],m.alloc tt cs⟩) fun g _=>k g
theorem d1s {tt:Nat} {zs:List Value} (hz:a1o P tt=some zs) (hd:Nat.blt d n.sz=true)
  (k:∀g,SX n E I ((d,.pointer (some ⟨g,0,none⟩))::L) (.blk g tt zs::H) K) :
  SX n E I L H (one P ops Q ⟨some d,.alloc tt,ty,pos,af,none⟩ K):=
 a9n (fun g:Nat=>.pointer (some ⟨g,0,none⟩)) (fun _=>I) (fun g=>.blk g tt zs::H) (fun _=>True) hd
  (fun a w st m=>by
   obtain⟨z,h1,h2⟩:=a6C hz w
   exact⟨w.heap.size,w.alloc (.cells zs.toArray tt),trivial,by simp[execOp,Instr.alloc,newVar,newRow,h1,h2],m.alloc tt zs⟩) fun g _=>k g
theorem b1m {g off tt t':Nat} {cs:List Value} {v:Value} (hm:Res.blk g t' cs∈H) (ht:tyK P tt=some (false,1)) (hx:ev L x=some (.pointer (some ⟨g,off,none⟩))) (hv:cs[off]? = some v):OV P n E I L H ⟨some d,.load tt x,ty,pos,af,none⟩ (v):=
 (fun a w st m=>by
  have hg:w.heap[g]? = some (.cells cs.toArray t' (0,0)):=m.holds _ hm;have hc:w.cell? ⟨g,off,none⟩=some v:=by rw[cell_of_row w g off _ t' _ hg];simpa using hv
  simp[execOp,st.ev hx,Instr.loadAt,Instr.sureAddr,a6f ht hc])
theorem a2N {g tt t' kk:Nat} {cs:List Value} (hm:Res.blk g t' cs∈H) (ht:tyK P tt=some (true,kk)) (hx:ev L x=some (.pointer (some ⟨g,0,none⟩))) (hk:cs.length=kk):OV P n E I L H ⟨some d,.load tt x,ty,pos,af,none⟩ (.agg cs.toArray):=
 (fun a w st m=>by
  have hg:w.heap[g]? = some (.cells cs.toArray t' (0,0)):=m.holds _ hm;have hc:=a4Q (P:=P) (w:=w) (a:=⟨g,0,none⟩) ht hk (fun j v hv=>by rw[add_lit,cell_of_row w g _ _ t' _ hg];simpa using hv)
  simp[execOp,st.ev hx,Instr.loadAt,Instr.sureAddr,hc])
theorem a1R {g off tt t' kk:Nat} {cs:List Value} (vs:List Value) (hm:Res.blk g t' cs∈H) (ht:tyK P tt=some (true,kk)) (hx:ev L x=some (.pointer (some ⟨g,off,none⟩))) (hv:(cs.drop off).take kk=vs) (hk:vs.length=kk):OV P n E I L H ⟨some d,.load tt x,ty,pos,af,none⟩ (.agg vs.toArray):=
 (fun a w st m=>by
  have hg:w.heap[g]? = some (.cells cs.toArray t' (0,0)):=m.holds _ hm
  have hc:=a4Q (P:=P) (w:=w) (a:=⟨g,off,none⟩) ht hk (fun j v hj=>by
   rw[add_lit,cell_of_row w g _ _ t' _ hg];rw[←hv,List.getElem?_take]at hj
   split at hj
   ·simpa[List.getElem?_drop]using hj
   ·cases hj)
  simp[execOp,st.ev hx,Instr.loadAt,Instr.sureAddr,hc])
theorem a0v {b off tt:Nat} {v:Value} (ht:tyK P tt=some (false,1)) (hx:ev L x=some (.pointer (some ⟨b,off,none⟩))) (hv:ICell I b off v):OV P n E I L H ⟨some d,.load tt x,ty,pos,af,none⟩ (v):=
 (fun a w st m=>by simp[execOp,st.ev hx,Instr.loadAt,Instr.sureAddr,a6f ht (hv.at_ m.con)])
theorem a0S {b off tt kk:Nat} {vs:List Value} (ht:tyK P tt=some (true,kk)) (hx:ev L x=some (.pointer (some ⟨b,off,none⟩))) (hv:ICells I b off vs) (hk:vs.length=kk):OV P n E I L H ⟨some d,.load tt x,ty,pos,af,none⟩ (.agg vs.toArray):=
 (fun a w st m=>by
  have hc:=a4Q (P:=P) (w:=w) (a:=⟨b,off,none⟩) ht hk (fun j v hj=>by rw[add_lit];exact (hv j v hj).at_ m.con)
  simp[execOp,st.ev hx,Instr.loadAt,Instr.sureAddr,hc])
end
section
variable {P:Program}
theorem a6N {w:World} {g off t:Nat} {cs:List Value} {v:Value} (hg:w.heap[g]? = some (.cells cs.toArray t (0,0))) (ho:off<cs.length) (hv:v.oneCell'=true) :
  (store ⟨g,off,none⟩ v).run P w = .ok () (w.setCell ⟨g,off,none⟩ v):=by
 have hc:w.cell? ⟨g,off,none⟩=some (cs[off]):=by rw[cell_of_row w g off _ t _ hg];simp[ho]
 have hf:w.frozen? ⟨g,off,none⟩=false:=by simp[World.frozen?,hg]
 rw[run_store P w _ v _ hv]
 simp[hc,hf]
theorem a5X {w:World} {g off t:Nat} {cs:List Value} (v:Value) (hg:w.heap[g]? = some (.cells cs.toArray t (0,0))) :
  (w.setCell ⟨g,off,none⟩ v).heap[g]? = some (.cells (cs.set off v).toArray t (0,0)):=by
 have:=heap_setCell_same w g off cs.toArray t v hg;rw[this]
 simp
theorem a4Z {t g:Nat}:∀(vs:List Value) (w:World) (cs:List Value) (off i:Nat),w.heap[g]? = some (.cells cs.toArray t (0,0))→off+i+vs.length≤cs.length→(∀v∈vs,v.oneCell'=true) →
  ∃w',(storeCells ⟨g,off,none⟩ vs i).run P w = .ok () w'∧w'.heap[g]? = some (.cells (cs.take (off+i)++vs++cs.drop (off+i+vs.length)).toArray t (0,0)) ∧
   w'.os=w.os∧w'.tape=w.tape∧w'.output=w.output∧w'.heap.size=w.heap.size∧∀k,k≠g→w'.heap[k]? = w.heap[k]?:=by
 intro vs
 induction vs with
 |nil=>intro w cs off i hg hl _;exact⟨w,rfl,by simpa using hg,rfl,rfl,rfl,rfl,fun _ _=>rfl⟩
 |cons v vs ih=>
  intro w cs off i hg hl hv
  simp only[List.length_cons]at hl
  have h1:=a6N (P:=P) (v:=v) hg (off:=off+i) oM (hv v (by simp));have h2:=a5X (off:=off+i) v hg;obtain⟨w',hr,hh,r1,r2,r3,r4,r5⟩:=ih (w.setCell ⟨g,off+i,none⟩ v) (cs.set (off+i) v) off (i+1) h2 (by simp;omega) (fun u hu=>hv u (by simp[hu]));refine⟨w',?_,?_,r1,r2,r3,by rw[r4];simp,fun k hk=>by rw[r5 k hk];exact heap_setCell_other w _ k v hk⟩
  ·simp only[storeCells,add_lit,Sem.run_bind,h1,Result.andThen_ok]
   exact hr
  ·rw[hh]
   congr 3
   have e1:(cs.set (off+i) v).take (off+(i+1))=cs.take (off+i)++[v]:=by
    rw[show off+(i+1)=(off+i)+1 from oM,List.take_succ_eq_append_getElem (by simp;omega)];rw[List.take_set_of_le (Nat.le_refl _)]
    simp
   have e2:(cs.set (off+i) v).drop (off+(i+1)+vs.length)=cs.drop (off+i+(v::vs).length):=by
    rw[List.drop_set_of_lt oM]
    congr 1
    simp only[List.length_cons]
    omega
   rw[e1,e2]
   simp
end
section
variable {P:Program} {ρ:Option Nat} {n:Sz} {E:Ent} {I:IMap} {L:LL} {H:List Res} {Q:Exit→Act→World→Prop} {ops:Array Oper} {K:Act→World→Prop}
variable {ty:Nat} {pos:String} {af:Array Edge} {x y:Operand}
theorem a0Y {g tt t' kk:Nat} {b:Bool} {cs:List Value} {v:Value} (vs:List Value) (ht:tyK P tt=some (b,kk)) (hx:ev L x=some (.pointer (some ⟨g,0,none⟩))) (hy:ev L y=some v)
  (hv:v.cells=vs.toArray) (hk:vs.length=kk) (ho:cs.length=kk) (h1:vs.all (·.oneCell')=true)
  (k:SX n E I L (.blk g t' vs::H) K):SX n E I L (.blk g t' cs::H) (one P ops Q ⟨none,.store tt x y,ty,pos,af,none⟩ K):=
 b8B (fun a w st m=>by
  have hg:w.heap[g]? = some (.cells cs.toArray t' (0,0)):=m.blk;obtain⟨w',hr,hh,r1,r2,r3,r4,r5⟩:=a4Z (P:=P) vs w cs 0 0 hg oM (fun v hv=>by simpa using List.all_eq_true.1 h1 v hv);refine⟨w',?_,m.step r1 ⟨r2,a1i _ hr⟩ r3 oM (fun k hk hne=>r5 k (fun e=>hne (by subst e;rfl))) ?_ (fun g' hg'=>.inl hg')⟩
  ·simp[execOp,st.ev hx,st.ev hy,Instr.storeAt,Instr.sureAddr,storeVar,(a1a ht w).2,hv,hk,hr]
  ·show w'.heap[g]? = _
   rw[hh];have:cs.drop vs.length=[]:=List.drop_eq_nil_of_le oM
   simp[this]) k
theorem a8C {g off tt t':Nat} {b:Bool} {cs:List Value} {v:Value} (ht:tyK P tt=some (b,1)) (hx:ev L x=some (.pointer (some ⟨g,off,none⟩))) (hy:ev L y=some v)
  (hv:v.oneCell'=true) (ho:Nat.blt off cs.length=true)
  (k:SX n E I L (.blk g t' (cs.set off v)::H) K):SX n E I L (.blk g t' cs::H) (one P ops Q ⟨none,.store tt x y,ty,pos,af,none⟩ K):=
 b8B (fun a w st m=>by
  have hg:w.heap[g]? = some (.cells cs.toArray t' (0,0)):=m.blk;have hr:=a6N (P:=P) (v:=v) hg (off:=off) (by simpa[Nat.blt_eq]using ho) hv;have hc:v.cells=#[v]:=by cases v<;>first|rfl|cases hv
  refine⟨_,?_,m.step (w':=w.setCell ⟨g,off,none⟩ v) (r':=.blk g t' (cs.set off v)) rfl ⟨rfl,Nat.le_refl _⟩ rfl (by simp) (fun k hk hne=>heap_setCell_other w _ k v (fun e=>hne (by subst e;rfl))) (a5X v hg) (fun g' hg'=>.inl hg')⟩
  simp[execOp,st.ev hx,st.ev hy,Instr.storeAt,Instr.sureAddr,storeVar,(a1a ht w).2,hc,storeCells,add_lit,hr]) k
theorem d7P {g off tt t' kk:Nat} {b:Bool} {cs:List Value} {v:Value} (vs ds:List Value) (ht:tyK P tt=some (b,kk)) (hx:ev L x=some (.pointer (some ⟨g,off,none⟩))) (hy:ev L y=some v)
  (hv:v.cells=vs.toArray) (hk:vs.length=kk) (ho:Nat.ble (off+kk) cs.length=true) (h1:vs.all (·.oneCell')=true) (hds:cs.take off++(vs++cs.drop (off+kk))=ds)
  (k:SX n E I L (.blk g t' ds::H) K):SX n E I L (.blk g t' cs::H) (one P ops Q ⟨none,.store tt x y,ty,pos,af,none⟩ K):=
 b8B (fun a w st m=>by
  have hg:w.heap[g]? = some (.cells cs.toArray t' (0,0)):=m.blk;obtain⟨w',hr,hh,r1,r2,r3,r4,r5⟩:=a4Z (P:=P) vs w cs off 0 hg (by have:=Nat.le_of_ble_eq_true ho;omega) (fun v hv=>by simpa using List.all_eq_true.1 h1 v hv);refine⟨w',?_,m.step r1 ⟨r2,a1i _ hr⟩ r3 oM (fun k hk hne=>r5 k (fun e=>hne (by subst e;rfl))) ?_ (fun g' hg'=>.inl hg')⟩
  ·simp[execOp,st.ev hx,st.ev hy,Instr.storeAt,Instr.sureAddr,storeVar,(a1a ht w).2,hv,hk,hr]
  ·show w'.heap[g]? = _
   rw[hh,←hds,←hk]
   simp) k
end
end Go.Sx
set_option linter.all false
namespace Go.Sx
open Go
def a9p (E:Ent) (post:Value→IMap→List Res→Prop) (e:Ending) (w:World):Prop:=∃v I H,e = .returned v∧Mem E I H w∧post v I H
structure FnH (P:Program) (f:FuncId) (args:Array Value) (I:IMap) (H:List Res) (post:Value→IMap→List Res→Prop):Prop where
 go:∀w,Mem ⟨a2c H,I,w⟩ I H w→After P (callFunc f args) w (a9p ⟨a2c H,I,w⟩ post)
def FnV (P:Program) (f:FuncId) (args:Array Value) (I:IMap) (v:Value):Prop:=FnH P f args I [] fun u I' H'=>u=v∧I'=I∧H'=[]
def FnI (P:Program) (f:FuncId) (args:Array Value) (I:IMap) (post:Value→IMap→Prop):Prop:=FnH P f args I [] fun u I' H'=>post u I'∧H'=[]
def a9V:List Value→Nat→LL
 | [],_=>[]
 |v::r,i=>(i,v)::a9V r (i+1)
theorem b2e (vs:List Value):∀(k i:Nat) (v:Value),look (a9V vs k) i=some v→k≤i∧vs[i-k]? = some v:=by
 induction vs with
 |nil=>intro k i v h;simp[a9V,look]at h
 |cons u vs ih=>
  intro k i v h
  simp only[a9V,look]at h
  cases hb:Nat.beq i k with
  |true=>
   obtain rfl:i=k:=Nat.eq_of_beq_eq_true hb;rw[hb]at h
   simp at h
   exact⟨Nat.le_refl _,by simpa using h⟩
  |false=>
   rw[hb]at h
   obtain⟨h1,h2⟩:=ih (k+1) i v h;refine⟨oM,?_⟩;rw[show i-k=(i-(k+1))+1 from oM,List.getElem?_cons_succ];exact h2
section
variable {P:Program} {ρ:Option Nat} {n:Sz} {E:Ent} {I:IMap} {L:LL} {H:List Res} {Q:Exit→Act→World→Prop} {ops:Array Oper} {K:Act→World→Prop}
def b3U (P:Program) (fn:Func) (R:Ending→World→Prop):Exit→Act→World→Prop:=bodyPostM Fence.wide 0 P fn R
theorem enter {f:FuncId} {fn:Func} {c:Code} {args:List Value} {k:Nat} {post:Value→IMap→List Res→Prop} (hf:P.funcs[f]? = some fn) (hcall:∀(args:Array Value) (w:World),(callFunc f args).run P w = .ok (.enter f args) w) (hb:fn.body=some c) (hn:fn.ntmps=k)
  (hl:Nat.ble args.length k=true) (h:∀w,SX ⟨k,[]⟩ ⟨a2c H,I,w⟩ I (a9V args 0) H (c.wq none P (b3U P fn (a9p ⟨a2c H,I,w⟩ post)))):FnH P f args.toArray I H post:=by
 refine⟨fun w m=>?_⟩;unfold After;rw[hcall];refine (callsIn_wide (n:=0)).1 (callsIn_of_wp_marks (F:=Fence.wide) hf hb trivial (h w _ _ ⟨?_,rfl,?_⟩ m))
 ·simp only[List.size_toArray,Array.size_append,Array.size_replicate,hn]
  have:args.length≤k:=by simpa using hl
  omega
 ·intro i v hv;obtain⟨_,h2⟩:=b2e args 0 i v hv
  have hlt:i<args.length:=by
   rcases Nat.lt_or_ge i args.length with h|h
   ·exact h
   ·simp[List.getElem?_eq_none h]at h2
  rw[Array.getElem?_append_left (by simpa using hlt)]
  simpa using h2
def RV (P:Program) (L:LL) (H:List Res):ResultVar→Value→Prop
 |.tmp t,v=>look L t=some v
 |.cell a ty,v=>∃g t' cs,look L a=some (.pointer (some ⟨g,0,none⟩))∧Res.blk g t' cs∈H∧((tyK P ty=some (false,1)∧cs=[v])∨(∃k,tyK P ty=some (true,k)∧cs.length=k∧v = .agg cs.toArray))
def rs (tmps:Array Value):ResultVar→Sem Value
 |.tmp t=>Pure.pure (tmps.getD t undef)
 |.cell a t=>do loadVar t (←asAddr (tmps.getD a undef))
theorem a6A (fn:Func) (tmps:Array Value):results fn tmps=(do let vs ←fn.results.mapM (rs tmps);Pure.pure (if h:vs.size=1 then vs[0] else .tuple vs)):=by
 unfold results
 congr 2
theorem RV.run {a:Act} {w:World} {r:ResultVar} {v:Value} (h:RV P L H r v) (s:St n a L) (m:Mem E I H w):(rs a.tmps r).run P w = .ok v w:=by
 cases r with
 |tmp t=>have:=s.get t v h;simp[rs,this]
 |cell x t=>
  obtain⟨g,t',cs,h1,h2,h3⟩:=h;have hx:=s.get x _ h1;have hg:w.heap[g]? = some (.cells cs.toArray t' (0,0)):=m.holds _ h2
  simp only[rs,Array.getD_eq_getD_getElem?,hx,Option.getD_some,asAddr,Sem.run_bind,Sem.run_pure,Result.andThen_ok]
  rcases h3 with ⟨h3,rfl⟩|⟨k,h3,h4,rfl⟩
  ·exact a6f h3 (by rw[cell_of_row w g 0 _ t' _ hg];rfl)
  ·exact a4Q h3 h4 (fun j v hv=>by rw[add_lit,cell_of_row w g _ _ t' _ hg];simpa using hv)
theorem m0 {r:Res} {H:List Res}:r∈r::H:=List.mem_cons_self ..
theorem m1 {a r:Res} {H:List Res}:r∈a::r::H:=List.mem_cons_of_mem _ m0
theorem m2 {a b r:Res} {H:List Res}:r∈a::b::r::H:=List.mem_cons_of_mem _ m1
theorem m3 {a b c r:Res} {H:List Res}:r∈a::b::c::r::H:=List.mem_cons_of_mem _ m2
theorem m4 {a b c d r:Res} {H:List Res}:r∈a::b::c::d::r::H:=List.mem_cons_of_mem _ m3
theorem m5 {a b c d e r:Res} {H:List Res}:r∈a::b::c::d::e::r::H:=List.mem_cons_of_mem _ m4
theorem m6 {a b c d e f r:Res} {H:List Res}:r∈a::b::c::d::e::f::r::H:=List.mem_cons_of_mem _ m5
theorem m7 {a b c d e f g r:Res} {H:List Res}:r∈a::b::c::d::e::f::g::r::H:=List.mem_cons_of_mem _ m6
theorem b2A {k:Nat} (fn:Func) {R:Ending→World→Prop} {v:Value} (hr:∀a w,St ⟨k,[]⟩ a L→Mem E I H w→(results fn a.tmps).run P w = .ok v w) (hR:SX ⟨k,[]⟩ E I L H fun _ w=>R (.returned v) w) :
  SX ⟨k,[]⟩ E I L H (b3U P fn R .ret)∧SX ⟨k,[]⟩ E I L H (b3U P fn R .normal):=by
 have key:∀a w,St ⟨k,[]⟩ a L→Mem E I H w→LeavesInM Fence.wide 0 P fn a.tmps R a.defers .returning w:=fun a w s m=>by
  rw[s.defers];exact⟨v,hr a w s m,hR a w s m⟩
 exact⟨key,key⟩
theorem c2N {k r:Nat} {D:List Mk} {a:Act} {w:World} (s:St ⟨k,.m r::D⟩ a L) (m:Mem E I (.any r (.deferred (some []))::H) w) {fn:Func} {R:Ending→World→Prop}
  (h:SX ⟨k,D⟩ E I L (.any r (.deferred none)::H) (b3U P fn R .ret)):LeavesInM Fence.wide 0 P fn a.tmps R a.defers .returning w:=by
 have hr:w.heap[r]? = some (.deferred (some [])):=m.holds _ (List.mem_cons_self ..);have hlt:r<w.heap.size:=(Array.getElem?_eq_some_iff.1 hr).1;rw[s.defers]
 show _∧(_∨_)
 refine⟨by simp,.inl ⟨r,w.putObj r (.deferred none),rfl,run_takeDeferred hr,?_⟩⟩
 have m':Mem E I (.any r (.deferred none)::H) (w.putObj r (.deferred none)):=
  m.step rfl ⟨rfl,Nat.le_refl _⟩ rfl (by simp) (fun k hk hne=>World.putObj_heap_other (fun e=>hne (by subst e;rfl))) (World.putObj_heap_same hlt) (fun g hg=>.inl hg)
 exact h { a with defers:=(Sz.mk k D).marks } _ ⟨s.size,rfl,s.get⟩ m'
theorem b1a {k r:Nat} {D:List Mk} {fn:Func} {R:Ending→World→Prop} (h:SX ⟨k,D⟩ E I L (.any r (.deferred none)::H) (b3U P fn R .ret)):SX ⟨k,.m r::D⟩ E I L (.any r (.deferred (some []))::H) (b3U P fn R .ret):=
 fun _ _ s m=>c2N s m h
theorem a2g {post:Value→IMap→List Res→Prop} {v:Value} {H':List Res} (hm:∀w,Mem E I H w→Mem E I H' w) (hp:post v I H'):SX n E I L H fun _ w=>a9p E post (.returned v) w:=
 fun _ w _ m=>⟨v,I,H',rfl,hm w m,hp⟩
theorem Mem.none {E:Ent} {I:IMap} {H:List Res} {w:World} (m:Mem E I H w):Mem E I [] w:=
 ⟨m.upd,m.con,m.mono,m.fresh,fun _ h=>(by cases h),fun _ h=>(by cases h),List.nodup_nil⟩
variable {fn:Func} {post:Value→IMap→List Res→Prop} {R:Ending→World→Prop}
theorem d7W (hf:fn.results=#[]) (a:Act) (w:World):(results fn a.tmps).run P w = .ok (.tuple #[]) w:=by simp[results,hf]
theorem d8P {r:ResultVar} {v:Value} (hf:fn.results=#[r]) (h:RV P L H r v) (a:Act) (w:World) (s:St n a L) (m:Mem E I H w):(results fn a.tmps).run P w = .ok v w:=by
 simp[a6A,hf,h.run s m]
theorem d8Q {r0 r1:ResultVar} {v0 v1:Value} (hf:fn.results=#[r0,r1]) (h0:RV P L H r0 v0) (h1:RV P L H r1 v1) (a:Act) (w:World) (s:St n a L) (m:Mem E I H w) :
  (results fn a.tmps).run P w = .ok (.tuple #[v0,v1]) w:=by
 simp[a6A,hf,h0.run s m,h1.run s m]
theorem d8R {r0 r1 r2:ResultVar} {v0 v1 v2:Value} (hf:fn.results=#[r0,r1,r2]) (h0:RV P L H r0 v0) (h1:RV P L H r1 v1) (h2:RV P L H r2 v2) (a:Act) (w:World) (s:St n a L) (m:Mem E I H w) :
  (results fn a.tmps).run P w = .ok (.tuple #[v0,v1,v2]) w:=by
 simp[a6A,hf,h0.run s m,h1.run s m,h2.run s m]
theorem d8S {r0 r1 r2 r3:ResultVar} {v0 v1 v2 v3:Value} (hf:fn.results=#[r0,r1,r2,r3]) (h0:RV P L H r0 v0) (h1:RV P L H r1 v1) (h2:RV P L H r2 v2) (h3:RV P L H r3 v3) (a:Act) (w:World) (s:St n a L) (m:Mem E I H w) :
  (results fn a.tmps).run P w = .ok (.tuple #[v0,v1,v2,v3]) w:=by
 simp[a6A,hf,h0.run s m,h1.run s m,h2.run s m,h3.run s m]
variable {k:Nat}
theorem d8B (hf:fn.results=#[]) (h:SX ⟨k,[]⟩ E I L H fun _ w=>R (.returned (.tuple #[])) w):SX ⟨k,[]⟩ E I L H (b3U P fn R .ret):=(b2A fn (fun a w _ _=>d7W hf a w) h).1
theorem d8A (hf:fn.results=#[]) (h:SX ⟨k,[]⟩ E I L H fun _ w=>R (.returned (.tuple #[])) w):SX ⟨k,[]⟩ E I L H (b3U P fn R .normal):=(b2A fn (fun a w _ _=>d7W hf a w) h).2
theorem d8C {r:ResultVar} {v:Value} (hf:fn.results=#[r]) (h0:RV P L H r v) (h:SX ⟨k,[]⟩ E I L H fun _ w=>R (.returned v) w):SX ⟨k,[]⟩ E I L H (b3U P fn R .ret):=(b2A fn (d8P hf h0) h).1
theorem d8D {r0 r1:ResultVar} {v0 v1:Value} (hf:fn.results=#[r0,r1]) (h0:RV P L H r0 v0) (h1:RV P L H r1 v1) (h:SX ⟨k,[]⟩ E I L H fun _ w=>R (.returned (.tuple #[v0,v1])) w) :
  SX ⟨k,[]⟩ E I L H (b3U P fn R .ret):=(b2A fn (d8Q hf h0 h1) h).1
theorem d8p {r0 r1 r2:ResultVar} {v0 v1 v2:Value} (hf:fn.results=#[r0,r1,r2]) (h0:RV P L H r0 v0) (h1:RV P L H r1 v1) (h2:RV P L H r2 v2) (h:SX ⟨k,[]⟩ E I L H fun _ w=>R (.returned (.tuple #[v0,v1,v2])) w) :
  SX ⟨k,[]⟩ E I L H (b3U P fn R .ret):=(b2A fn (d8R hf h0 h1 h2) h).1
theorem d8E {r0 r1 r2 r3:ResultVar} {v0 v1 v2 v3:Value} (hf:fn.results=#[r0,r1,r2,r3]) (h0:RV P L H r0 v0) (h1:RV P L H r1 v1) (h2:RV P L H r2 v2) (h3:RV P L H r3 v3) (h:SX ⟨k,[]⟩ E I L H fun _ w=>R (.returned (.tuple #[v0,v1,v2,v3])) w) :
  SX ⟨k,[]⟩ E I L H (b3U P fn R .ret):=(b2A fn (d8S hf h0 h1 h2 h3) h).1
theorem q_v {v u:Value} (h:v=u):SX n E I L H fun _ w=>a9p E (fun u' I' H'=>u'=u∧I'=I∧H'=[]) (.returned v) w:=a2g (fun _ m=>m.none) ⟨h,rfl,rfl⟩
theorem q_i {v:Value} {p:Value→IMap→Prop} (h:p v I):SX n E I L H fun _ w=>a9p E (fun u' I' H'=>p u' I'∧H'=[]) (.returned v) w:=a2g (fun _ m=>m.none) ⟨h,rfl⟩
theorem Mem.call {Hc H0:List Res} {w:World} (m:Mem E I (Hc++H0) w):Mem ⟨a2c Hc,I,w⟩ I Hc w:=by
 have hd:(a2c Hc++a2c H0).Nodup:=by have:=m.dist;simpa[a2c]using this
 exact⟨Upd.refl _ _,m.con,ILe.refl _,fun b hb=>.inl hb,fun r hr=>m.holds r (by simp[hr]),fun r hr g hg=>⟨(m.priv r (by simp[hr]) g hg).1,.inr (a6a.2 ⟨r,hr,hg⟩)⟩,(List.nodup_append.1 hd).1⟩
theorem Mem.back {Hc H0 Hc':List Res} {I':IMap} {w w':World} (m:Mem E I (Hc++H0) w) (m':Mem ⟨a2c Hc,I,w⟩ I' Hc' w'):Mem E I' (Hc'++H0) w':=by
 have hd:(a2c Hc++a2c H0).Nodup:=by have:=m.dist;simpa[a2c]using this
 have hE:=m.upd.size;have hs:=m'.upd.size;have hdis:∀r∈H0,∀g,r.foot=some g→g∉a2c Hc:=fun r hr g hg hm=>(List.nodup_append.1 hd).2.2 g hm g (a6a.2 ⟨r,hr,hg⟩) rfl
 have hlt:∀r∈H0,∀g,r.foot=some g→g<w.heap.size:=fun r hr g hg=>Res.lt (m.holds r (by simp[hr])) hg
 have hpc:∀g∈a2c Hc,E.w.heap.size≤g∨g∈E.X:=fun g hg=>by
  obtain⟨r,hr,hf⟩:=a6a.1 hg;exact (m.priv r (by simp[hr]) g hf).2
 refine⟨⟨m'.upd.os.trans m.upd.os,⟨m'.upd.tape.1.trans m.upd.tape.1,Nat.le_trans m.upd.tape.2 m'.upd.tape.2⟩,m'.upd.output.trans m.upd.output,Nat.le_trans hE hs,fun k hk hX=>?_⟩,m'.con,m.mono.trans m'.mono,fun b hb=>?_,?_,?_,?_⟩
 ·rw[m'.upd.block k (by simp;omega) (fun hc=>by
   rcases hpc k hc with h|h
   ·omega
   ·exact hX h)]
  exact m.upd.block k hk hX
 ·rcases m'.fresh b hb with h|h|h
  ·exact m.fresh b h
  ·exact .inr (.inl (by simp at h;omega))
  ·exact .inr (hpc b h)
 ·intro r hr
  rcases List.mem_append.1 hr with hr|hr
  ·exact m'.holds r hr
  ·have hh:r.holds w:=m.holds r (by simp[hr]);exact Res.keep hh fun g hg=>m'.upd.block g (hlt r hr g hg) (hdis r hr g hg)
 ·intro r hr g hg
  rcases List.mem_append.1 hr with hr|hr
  ·obtain⟨h1,h2⟩:=m'.priv r hr g hg;refine⟨h1,?_⟩
   rcases h2 with h2|h2
   ·exact .inl (by simp at h2;omega)
   ·exact hpc g h2
  ·obtain⟨h1,h2⟩:=m.priv r (by simp[hr]) g hg;refine⟨?_,h2⟩
   cases hI:I' g with
   |none=>rfl
   |some o=>
    rcases m'.fresh g (by rw[hI];simp) with h|h|h
    ·exact absurd h1 h
    ·have:=hlt r hr g hg;simp at h;omega
    ·exact absurd h (hdis r hr g hg)
 ·have:a2c (Hc'++H0)=a2c Hc'++a2c H0:=by simp[a2c]
  rw[this,List.nodup_append];refine⟨m'.dist,(List.nodup_append.1 hd).2.1,fun a ha b hb e=>?_⟩;subst e;obtain⟨r,hr,hf⟩:=a6a.1 ha;obtain⟨q,hq,hqf⟩:=a6a.1 hb
  rcases (m'.priv r hr a hf).2 with h|h
  ·have:=hlt q hq a hqf;simp at h;omega
  ·exact hdis q hq a hqf h
def a1w (L:LL) (fo:Operand) (as_:List Operand):Option (FuncId×List Value):=
 match ev L fo,evs L as_ with
 |some (.func (.func f) fs cs),some vs=>some (f,fs.toList++(vs++cs.toList))
 |_,_=>none
theorem a7W {a:Act} {w:World} {fo:Operand} {as_:List Operand} {ats:Array TypeId} {f:FuncId} {args:List Value} (s:St n a L) (h:a1w L fo as_=some (f,args)) (o:Oper)
  (ho:o.op = .call { callee:=.value fo,args:=as_.toArray,argTypes:=ats }):(execOp a.eval o).run P w=(callFunc f args.toArray).run P w:=by
 unfold a1w at h
 split at h
 ·rename_i f' fs cs vs hf hv
  simp only[Option.some.injEq,Prod.mk.injEq]at h
  obtain⟨rfl,rfl⟩:=h;have ha:as_.toArray.map a.eval=vs.toArray:=by rw[←a6q s as_ vs hv];simp
  simp only[execOp,ho,resolve,ha,s.ev hf,Deferred.ofValue,Sem.run_bind,Sem.run_pure,Result.andThen_ok,invoke]
  congr 1
  congr 1
  simp
 ·cases h
variable {d ty:Nat} {pos:String} {af:Array Edge}
theorem b6x {op:Op} {Hc H0:List Res} {x:Sem Next} (hc:∀w,Mem ⟨a2c Hc,I,w⟩ I Hc w→After P x w (a9p ⟨a2c Hc,I,w⟩ post)) (hr:∀a w,St n a L→(execOp a.eval ⟨some d,op,ty,pos,af,none⟩).run P w=x.run P w) (hd:Nat.blt d n.sz=true)
  (k:∀v I' H',ILe I I'→post v I' H'→SX n E I' ((d,v)::L) (H'++H0) K) :
  SX n E I L (Hc++H0) (one P ops Q ⟨some d,op,ty,pos,af,none⟩ K):=by
 intro a w s m;unfold one;rw[if_pos (by rfl)];refine a8l ?_;have h1:=hc w m.call;unfold After at h1 ⊢
 rw[hr a w s]
 have key:∀e w'',a9p ⟨a2c Hc,I,w⟩ post e w''→(match e with | .returned v=>K (a.put (some d) v) w''|_=>False):=by
  rintro e w'' ⟨v',I',H',rfl,hm,hp⟩;exact k _ I' H' hm.mono hp _ _ (s.put hd) (m.back hm)
 split at h1
 ·rename_i v w' hr;exact key _ _ h1
 ·rename_i f' args' w' hr;exact Calls.mono h1 key
 ·rename_i l f' tmps assign body w' hr;exact RoundIn.mono h1 key
 ·exact h1.elim
theorem a2H {Hc H0:List Res} {fo:Operand} {as_:List Operand} {ats:Array TypeId} {f:FuncId} {args:List Value} (hc:FnH P f args.toArray I Hc post) (h:a1w L fo as_=some (f,args)) (hd:Nat.blt d n.sz=true)
  (k:∀v I' H',ILe I I'→post v I' H'→SX n E I' ((d,v)::L) (H'++H0) K) :
  SX n E I L (Hc++H0) (one P ops Q ⟨some d,.call { callee:=.value fo,args:=as_.toArray,argTypes:=ats },ty,pos,af,none⟩ K):=
 b6x hc.go (fun a w s=>a7W s h _ rfl) hd k
theorem a0m {p:Value→IMap→Prop} {fo:Operand} {as_:List Operand} {ats:Array TypeId} {f:FuncId} {args:List Value} (hc:FnI P f args.toArray I p) (h:a1w L fo as_=some (f,args)) (hd:Nat.blt d n.sz=true)
  (k:∀v I',ILe I I'→p v I'→SX n E I' ((d,v)::L) H K) :
  SX n E I L H (one P ops Q ⟨some d,.call { callee:=.value fo,args:=as_.toArray,argTypes:=ats },ty,pos,af,none⟩ K):=
 a2H (Hc:=[]) hc h hd fun v I' H' hI hp=>by obtain⟨h1,rfl⟩:=hp;exact k v I' hI h1
theorem a0y {v:Value} {fo:Operand} {as_:List Operand} {ats:Array TypeId} {f:FuncId} {args:List Value} (hc:FnV P f args.toArray I v) (h:a1w L fo as_=some (f,args)) (hd:Nat.blt d n.sz=true)
  (k:SX n E I ((d,v)::L) H K) :
  SX n E I L H (one P ops Q ⟨some d,.call { callee:=.value fo,args:=as_.toArray,argTypes:=ats },ty,pos,af,none⟩ K):=
 a2H (Hc:=[]) hc h hd fun u I' H' hI hp=>by obtain⟨rfl,rfl,rfl⟩:=hp;exact k
theorem FnH.mono {f:FuncId} {args:Array Value} {Hc:List Res} {post':Value→IMap→List Res→Prop} (h:FnH P f args I Hc post) (hp:∀v I' H',ILe I I'→post v I' H'→post' v I' H'):FnH P f args I Hc post':=
 ⟨fun w m=>(h.go w m).mono fun _ _ ⟨v,I',H',he,hm,hq⟩=>⟨v,I',H',he,hm,hp _ _ _ hm.mono hq⟩⟩
end
end Go.Sx
set_option linter.all false
namespace Go.Sx
open Go
class Enc (α:Type) where
 k:Nat
 rd:IMap→List Value→α→Prop
 len:∀{I:IMap} {vs:List Value} {x:α},rd I vs x→vs.length=k
 mono:∀{I I':IMap} {vs:List Value} {x:α},ILe I I'→rd I vs x→rd I' vs x
 one:∀{I:IMap} {vs:List Value} {x:α},rd I vs x→vs.all (·.oneCell')=true
def RdA {α:Type} [Enc α] (I:IMap) (A:Option Addr) (l:List α):Prop:=
 0<l.length→∃b o,A=some ⟨b,o,none⟩∧∀i x,l[i]? = some x→∃vs,ICells I b (o+i * Enc.k α) vs∧Enc.rd I vs x
def RdS {α:Type} [Enc α] (I:IMap) (v:Value) (l:List α):Prop:=∃A c,v = .slice A l.length c∧RdA I A l∧l.length≤c∧c≤9223372036854775807
section
variable {α:Type} [Enc α] {I I':IMap} {A:Option Addr} {l:List α} {v:Value}
theorem RdA.le (h:RdA I A l) (hI:ILe I I'):RdA I' A l:=fun hl=>by
 obtain⟨b,o,e,hx⟩:=h hl;exact⟨b,o,e,fun i x hi=>by obtain⟨vs,h1,h2⟩:=hx i x hi;exact⟨vs,h1.le hI,Enc.mono hI h2⟩⟩
theorem RdS.le (h:RdS I v l) (hI:ILe I I'):RdS I' v l:=by
 obtain⟨A,c,h1,h2,h3⟩:=h;exact⟨A,c,h1,h2.le hI,h3⟩
theorem RdA.at_ (h:RdA I A l) {i:Nat} (hi:i<l.length):∃b o vs,A=some ⟨b,o,none⟩∧ICells I b (o+i * Enc.k α) vs∧Enc.rd I vs (l[i]'hi):=by
 obtain⟨b,o,e,hx⟩:=h oM;obtain⟨vs,h1,h2⟩:=hx i _ (List.getElem?_eq_getElem hi);exact⟨b,o,vs,e,h1,h2⟩
theorem RdA.nil:RdA (α:=α) I A []:=fun h=>absurd h (by simp)
theorem RdS.nil (c:Nat) (hc:c≤9223372036854775807):RdS (α:=α) I (.slice A 0 c) []:=⟨A,c,rfl,RdA.nil,Nat.zero_le _,hc⟩
theorem RdS.nil':RdS (α:=α) I (.slice none 0 0) []:=RdS.nil 0 oM
theorem RdA.take (h:RdA I A l) (q:Nat):RdA I A (l.take q):=fun hl=>by
 obtain⟨b,o,e,hx⟩:=h (by simp at hl;omega);exact⟨b,o,e,fun i x hi=>hx i x (by rw[List.getElem?_take]at hi;split at hi;exact hi;cases hi)⟩
theorem RdA.cut (h:RdA I A l) (q c:Nat) (hc:l.length≤c):RdA I (c5K A c q (Enc.k α)) (l.drop q):=fun hl=>by
 have hq:q<l.length:=by simp at hl;omega
 obtain⟨b,o,rfl,hx⟩:=h oM;refine⟨b,o+q * Enc.k α,?_,fun i x hi=>?_⟩
 ·unfold c5K;rw[if_neg oM]
  simp[add_lit]
 ·rw[List.getElem?_drop]at hi
  obtain⟨vs,h1,h2⟩:=hx (q+i) x hi;refine⟨vs,?_,h2⟩;have:o+q * Enc.k α+i * Enc.k α=o+(q+i) * Enc.k α:=by rw[Nat.add_mul];omega
  rw[this];exact h1
theorem RdS.take {c:Nat} (h:RdS I (.slice A l.length c) l) (q:Nat) (hq:q≤l.length):RdS I (.slice A q c) (l.take q):=by
 obtain⟨A',c',h1,h2,h3,h4⟩:=h
 cases h1
 exact⟨A,c,by rw[List.length_take,Nat.min_eq_left hq],h2.take q,by rw[List.length_take];omega,h4⟩
theorem RdS.drop {c:Nat} (h:RdS I (.slice A l.length c) l) (q:Nat) (hq:q≤l.length):RdS I (.slice (c5K A c q (Enc.k α)) (l.length-q) (c-q)) (l.drop q):=by
 obtain⟨A',c',h1,h2,h3,h4⟩:=h
 cases h1
 exact⟨_,_,by rw[List.length_drop],h2.cut q c h3,by rw[List.length_drop];omega,oM⟩
end
instance:Enc Int where
 k:=1
 rd _ vs n:=vs=[.int .i64 n]
 len h:=by rw[h];rfl
 mono _ h:=h
 one h:=by rw[h];rfl
instance:Enc Bool where
 k:=1
 rd _ vs b:=vs=[.bool b]
 len h:=by rw[h];rfl
 mono _ h:=h
 one h:=by rw[h];rfl
instance:Enc ByteArray where
 k:=1
 rd _ vs s:=vs=[.string s]
 len h:=by rw[h];rfl
 mono _ h:=h
 one h:=by rw[h];rfl
instance {α:Type} [Enc α]:Enc (List α) where
 k:=1
 rd I vs l:=∃v,vs=[v]∧RdS I v l
 len h:=by obtain⟨v,rfl,_⟩:=h;rfl
 mono hI h:=by obtain⟨v,rfl,h⟩:=h;exact⟨v,rfl,h.le hI⟩
 one h:=by obtain⟨v,rfl,A,c,rfl,_⟩:=h;rfl
instance decMemStr (s:ByteArray) (l:List ByteArray):Decidable (s∈l):=@List.instDecidableMemOfLawfulBEq ByteArray instBEqOfDecidableEq inferInstance s l
inductive Flat {α:Type} [Enc α] (I:IMap):List Value→List α→Prop
 |nil:Flat I [] []
 |cons {vs ws:List Value} {x:α} {l:List α}:Enc.rd I vs x→Flat I ws l→Flat I (vs++ws) (x::l)
section
variable {α:Type} [Enc α] {I I':IMap} {l l':List α} {vs ws:List Value} {x:α}
theorem Flat.len (h:Flat I ws l):ws.length=l.length * Enc.k α:=by
 induction h with
 |nil=>simp
 |cons h1 _ ih=>simp only[List.length_append,Enc.len h1,ih,List.length_cons,Nat.add_mul];omega
theorem Flat.le (h:Flat I ws l) (hI:ILe I I'):Flat I' ws l:=by
 induction h with
 |nil=>exact .nil
 |cons h1 _ ih=>exact .cons (Enc.mono hI h1) ih
theorem Flat.append (h:Flat I vs l) (h':Flat I ws l'):Flat I (vs++ws) (l++l'):=by
 induction h with
 |nil=>exact h'
 |cons h1 _ ih=>rw[List.append_assoc];exact .cons h1 ih
theorem Flat.one (h:Enc.rd I vs x):Flat I vs [x]:=by have:=Flat.cons h .nil;simpa using this
theorem Flat.snoc (h:Flat I ws l) (h':Enc.rd I vs x):Flat I (ws++vs) (l++[x]):=h.append (.one h')
theorem Flat.all (h:Flat I ws l):ws.all (·.oneCell')=true:=by
 induction h with
 |nil=>rfl
 |cons h1 _ ih=>rw[List.all_append,Enc.one h1,ih];rfl
theorem Flat.at_ (h:Flat I ws l):∀(i:Nat) (x:α),l[i]? = some x→∃vs,Enc.rd I vs x∧∀j u,vs[j]? = some u→ws[i * Enc.k α+j]? = some u:=by
 induction h with
 |nil=>intro i x hi;simp at hi
 |cons h1 h2 ih=>
  rename_i vs ws y l
  intro i x hi
  cases i with
  |zero=>
   simp at hi
   subst hi;refine⟨vs,h1,fun j u hu=>?_⟩;have:j<vs.length:=(List.getElem?_eq_some_iff.1 hu).1;rw[Nat.zero_mul,Nat.zero_add,List.getElem?_append_left this];exact hu
  |succ i=>
   simp at hi
   obtain⟨us,h3,h4⟩:=ih i x hi;refine⟨us,h3,fun j u hu=>?_⟩;have e:=Enc.len h1;rw[show (i+1) * Enc.k α+j=vs.length+(i * Enc.k α+j) from by rw[e,Nat.add_mul];omega,List.getElem?_append_right oM];rw[Nat.add_sub_cancel_left];exact h4 j u hu
theorem Flat.of_rd {b:Nat}:∀(l:List α) (o:Nat),(∀i x,l[i]? = some x→∃vs,ICells I b (o+i * Enc.k α) vs∧Enc.rd I vs x)→∃ws,Flat I ws l∧ICells I b o ws:=by
 intro l
 induction l with
 |nil=>intro o _;exact⟨[],.nil,fun j u hu=>by simp at hu⟩
 |cons x l ih=>
  intro o h;obtain⟨vs,h1,h2⟩:=h 0 x rfl
  obtain⟨ws,h3,h4⟩:=ih (o+Enc.k α) (fun i y hy=>by
   obtain⟨us,g1,g2⟩:=h (i+1) y (by simpa using hy);refine⟨us,?_,g2⟩;rw[show o+Enc.k α+i * Enc.k α=o+(i+1) * Enc.k α from by rw[Nat.add_mul];omega]
   exact g1)
  refine⟨vs++ws,.cons h2 h3,fun j u hu=>?_⟩;have e:=Enc.len h2
  rcases Nat.lt_or_ge j vs.length with hj|hj
  ·rw[List.getElem?_append_left hj]at hu
   simpa using h1 j u hu
  ·rw[List.getElem?_append_right hj]at hu
   have:=h4 _ u hu
   rwa[show o+Enc.k α+(j-vs.length)=o+j from by omega]at this
end
section
variable {P:Program} {ρ:Option Nat} {n:Sz} {E:Ent} {I:IMap} {L:LL} {H:List Res} {K:Act→World→Prop} {α:Type} [Enc α]
theorem a0i {v:Value} {t k m:Nat} {xs:List Value} {l:List α} (hk:k=Enc.k α) (hm:m=l.length) (hF:Flat I xs l) (h:∀I',ILe I I'→RdS I' v l→SX n E I' L H K):SX n E I L (.row v t k m xs::H) K:=by
 intro a w s mm;have hr:IsRow (b4L w) v t k m xs:=mm.holds (.row v t k m xs) (List.mem_cons_self ..);obtain⟨h1,h2⟩:=hr;subst hk hm
 rcases h2 with ⟨rfl,h0⟩|⟨g,cap,cur,rfl,hh,hn,h4,hl,h3⟩
 ·have:l=[]:=List.eq_nil_of_length_eq_zero h0;subst this;exact h I (ILe.refl I) RdS.nil' a w s mm.drop
 ·have hp:=mm.pub (g:=g) rfl hh;have hle:=IMap.pub_le (Obj.cells cur t (0,0)) (mm.priv _ (List.mem_cons_self ..) g rfl).1;refine h _ hle ⟨_,cap,rfl,fun _=>⟨g,0,rfl,fun i x hi=>?_⟩,hn,by unfold maxLen at h4;exact h4⟩ a w s hp;obtain⟨vs,g1,g2⟩:=hF.at_ i x hi;refine⟨vs,fun j u hu=>⟨_,t,(0,0),IMap.pub_same _ _ _,?_⟩,Enc.mono hle g1⟩;have h5:=g2 j u hu;have h6:i * Enc.k α+j<xs.length:=(List.getElem?_eq_some_iff.1 h5).1;rw[Nat.zero_add];rw[←h3,List.getElem?_take]at h5
  split at h5
  ·simpa using h5
  ·cases h5
theorem a0A {g t:Nat} {cs:List Value} (h:∀I',ILe I I'→ICells I' g 0 cs→SX n E I' L H K):SX n E I L (.blk g t cs::H) K:=by
 intro a w s mm;have hh:w.heap[g]? = some (.cells cs.toArray t (0,0)):=mm.blk;have hp:=mm.pub (g:=g) rfl hh;exact h _ (IMap.pub_le _ (mm.priv _ (List.mem_cons_self ..) g rfl).1) (fun j u hu=>⟨_,t,(0,0),IMap.pub_same _ _ _,by rw[Nat.zero_add];simpa using hu⟩) a w s hp
end
end Go.Sx
set_option linter.all false
namespace Go.Sx
open Go
def NQ (Q:Exit→Act→World→Prop):Exit→Act→World→Prop
 |.normal=>Q .normal
 |_=>fun _ _=>False
def wpO (P:Program) (ops:Array Oper) (Q:Exit→Act→World→Prop) (i:Nat) (K:Act→World→Prop) (a:Act) (w:World):Prop:=
 match ops[i]? with
 |none=>K a w
 |some o=>one P ops Q o K a w
def a1f (P:Program) (ops:Array Oper) (Q:Exit→Act→World→Prop) (C:World→Prop):Nat→Array Bool→Act→World→Prop
 |0,listed,a,w=>Region.ready .any ops listed=[]∧Q .normal a w
 |fuel+1,listed,a,w=>
  (Region.ready .any ops listed=[]→Q .normal a w) ∧
  ∀i∈Region.ready .any ops listed,wpO P ops Q i (fun a' w'=>C w'∧a1f P ops Q C fuel (listed.setIfInBounds i true) a' w') a w
section
variable {P:Program} {ops:Array Oper} {Q:Exit→Act→World→Prop} {C:World→Prop} {ρ:Option Nat}
theorem b9q {i:Nat} {K K':Act→World→Prop} {a:Act} {w:World} (hk:∀a w,K a w→K' a w) (h:wpO P ops Q i K a w):wpO P ops Q i K' a w:=by
 unfold wpO at *
 split
 ·rename_i hn;rw[hn]at h;exact hk _ _ h
 ·rename_i o ho;rw[ho]at h;exact b3C hk h
theorem d6t {i:Nat} {K:Act→World→Prop} {a:Act} {w:World} (h:wpO P ops (NQ Q) i K a w):wpOpIn (fen ρ) 0 P ops Q i K a w:=by
 unfold wpO at h
 unfold wpOpIn
 split
 ·rename_i hn;rw[hn]at h;exact h
 ·rename_i o ho
  rw[ho]at h
  have h:one P ops (NQ Q) o K a w:=h;unfold one at h
  split
  ·rename_i hw;rw[if_pos hw]at h;exact b7r h
  ·rename_i hw;rw[if_neg hw]at h;exact⟨fun _ _=>trivial,h⟩
theorem c0U:∀(fuel:Nat) (listed:Array Bool) (a:Act) (w:World),a1f P ops (NQ Q) C fuel listed a w→wpAnyIn (fen ρ) 0 P .any ops Q fuel listed a w:=by
 intro fuel
 induction fuel with
 |zero=>intro listed a w h;exact h
 |succ fuel ih=>
  intro listed a w ⟨h0,h1⟩;exact⟨h0,fun i hi=>d6t (b9q (fun a w h=>ih _ a w h.2) (h1 i hi))⟩
def YieldsC (P:Program) (ops:Array Oper) (C:World→Prop) (o:Oper) (v:Value) (a:Act):Prop:=
 (Region.wanted o (yielded ops a.tmps)=true∧∀w,C w→(execOp a.eval o).run P w = .ok (.value v) w) ∨
 (Region.wanted o (yielded ops a.tmps)=false∧v=undef)
theorem YieldsC.wpO {i:Nat} {o:Oper} {v:Value} {a:Act} (hi:ops[i]? = some o) (hy:YieldsC P ops C o v a) {K:Act→World→Prop} {w:World} (hc:C w) (h:K (a.put o.dst v) w):wpO P ops Q i K a w:=by
 unfold Sx.wpO
 simp only[hi]
 unfold one
 rcases hy with ⟨hw,hv⟩|⟨hw,rfl⟩
 ·rw[if_pos hw,a9L (hv w hc)];exact h
 ·rw[if_neg (by rw[hw];decide)];exact h
theorem YieldsC.of_same {o:Oper} {v:Value} {a a':Act} (hy:YieldsC P ops C o v a) (he:execOp a'.eval o=execOp a.eval o)
  (hw:Region.wanted o (yielded ops a'.tmps)=Region.wanted o (yielded ops a.tmps)):YieldsC P ops C o v a':=by
 unfold YieldsC at *
 rw[he,hw];exact hy
theorem c8A {j:Nat} {oi oj:Oper} {v:Value} (hj:ops[j]? = some oj) (hap:oi.apart ops oj=true)
  (hsi:∀cs b,oi.op ≠ .select cs b) (hsj:∀cs b,oj.op ≠ .select cs b) {K:Act→World→Prop} {a:Act} {w:World}
  (hy:YieldsC P ops C oi v a) (h:wpO P ops (NQ Q) j K (a.put oi.dst v) w) :
  wpO P ops (NQ Q) j (fun a' w'=>YieldsC P ops C oi v a'∧K (a'.put oi.dst v) w') a w:=by
 obtain⟨h1,h2,h3⟩:=Oper.apart_spec hap
 have keep:∀(a:Act),YieldsC P ops C oi v a→∀u,YieldsC P ops C oi v (a.put oj.dst u):=fun a hy u=>
  hy.of_same (execOp_put oi hsi a oj.dst u h3) (wanted_put oi a oj.dst u h3)
 unfold wpO at *
 simp only[hj]at *
 unfold one at *
 rw[wanted_put oj a oi.dst v h1]at h
 split
 ·rename_i hw
  rw[if_pos hw]at h
  unfold Oper.wq at *
  rw[execOp_put oj hsj a oi.dst v h1]at h
  split
  ·rename_i w' hr
   rw[hr]at h
   exact⟨keep a hy _,by rw[←Act.put_comm a v undef h2];exact h⟩
  ·rename_i hn
   split at h
   ·rename_i w' hr;exact absurd hr (hn w')
   ·refine After.mono h fun e w'' he=>?_
    cases e with
    |returned u=>exact⟨keep a hy u,by rw[←Act.put_comm a v u h2];exact he⟩
    |panicked c=>exact he
    |outgrown=>exact he
 ·rename_i hw
  rw[if_neg hw]at h
  exact⟨keep a hy _,by rw[←Act.put_comm a v undef h2];exact h⟩
def a7e (ops:Array Oper) (listed:Array Bool) (i:Nat):Bool:=
 match ops[i]? with
 |none=>false
 |some oi=>(List.range ops.size).all fun j=>j == i||listed.getD j true||(match ops[j]? with
  |none=>true
  |some oj=>(oj.after.any fun e=>Region.binds .any e&&e.on == i)||oi.apart ops oj)
def a7G (ops:Array Oper):Bool:=ops.all fun o=>match o.op with | .select _ _=>false|_=>true
theorem b3w (h:a7G ops=true) (j:Nat) (o:Oper) (cs:Array SelectCase) (b:Bool) (hj:ops[j]? = some o):o.op ≠ .select cs b:=by
 intro e;unfold a7G at h
 rw[Array.all_eq_true_iff_forall_mem]at h
 have:=h o (Array.mem_of_getElem? hj)
 simp[e]at this
theorem b5L {i:Nat} {oi:Oper} {v:Value} (hi:ops[i]? = some oi) (hsel:a7G ops=true) :
  ∀(fuel:Nat) (listed:Array Bool) (a:Act) (w:World),a7e ops listed i=true→i∈Region.ready .any ops listed→YieldsC P ops C oi v a→C w →
   a1f P ops (NQ Q) C fuel (listed.setIfInBounds i true) (a.put oi.dst v) w→a1f P ops (NQ Q) C (fuel+1) listed a w:=by
 have hS:=b3w hsel;intro fuel
 induction fuel with
 |zero=>
  intro listed a w hap hr hy hc h;obtain⟨hnil,hq⟩:=h;refine⟨fun e=>(by rw[e]at hr;cases hr),fun j hj=>?_⟩
  by_cases hji:j=i
  ·subst hji;exact hy.wpO hi hc ⟨hc,hnil,hq⟩
  ·have:=ready_mono hj hji;rw[hnil]at this
   cases this
 |succ fuel ih=>
  intro listed a w hap hr hy hc h;refine⟨fun e=>(by rw[e]at hr;cases hr),fun j hj=>?_⟩
  by_cases hji:j=i
  ·subst hji;exact hy.wpO hi hc ⟨hc,h⟩
  ·have hj':=ready_mono hj hji;have hj0:=mem_ready.1 hj;obtain⟨hl,oj,hoj,hall⟩:=hj0
   have hapj:oi.apart ops oj=true:=by
    unfold a7e at hap
    simp only[hi]at hap
    have hlt:j<ops.size:=(Array.getElem?_eq_some_iff.1 hoj).1;have:=List.all_eq_true.1 hap j (List.mem_range.2 hlt)
    simp only[hoj,Bool.or_eq_true,beq_iff_eq,hji,false_or,hl,Bool.false_eq_true]at this
    rcases this with h|h
    ·exfalso
     rw[Array.any_eq_true]at h
     obtain⟨k,hk,he⟩:=h
     simp only[Bool.and_eq_true,beq_iff_eq]at he
     have h1:=hall _ (Array.getElem_mem hk) he.1;rw[he.2]at h1
     have h2:=(mem_ready.1 hr).1
     have:listed.getD i false=listed.getD i true:=by
      simp only[Array.getD_eq_getD_getElem?]at h1 h2 ⊢
      cases hh:listed[i]? with
      |none=>rw[hh]at h2;simp at h2
      |some b=>simp
     rw[this,h2]at h1
     cases h1
    ·exact h
   have hstep:=h.2 j hj';refine b9q ?_ (c8A hoj hapj (fun cs b=>hS i oi cs b hi) (fun cs b=>hS j oj cs b hoj) hy hstep);intro a' w' ⟨hy',hc',hw'⟩;refine⟨hc',ih (listed.setIfInBounds j true) a' w' ?_ (ready_mono hr (Ne.symm hji)) hy' hc' ?_⟩
   ·unfold a7e at hap ⊢
    simp only[hi]at hap ⊢
    rw[List.all_eq_true]at hap ⊢
    intro k hk;have:=hap k hk
    simp only[Bool.or_eq_true]at this ⊢
    rcases this with (h|h)|h
    ·exact .inl (.inl h)
    ·refine .inl (.inr ?_)
     by_cases hkj:j=k
     ·subst hkj;rw[hl]at h;cases h
     ·rw[getD_set_ne true hkj];exact h
    ·exact .inr h
   ·rw[Array.setIfInBounds_comm _ _ hji];exact hw'
end
section
variable {P:Program} {ρ:Option Nat} {n:Sz} {E:Ent} {I:IMap} {L:LL} {H F:List Res} {Q:Exit→Act→World→Prop} {ops:Array Oper} {l:List Oper} {fuel:Nat} {listed:Array Bool}
def a0Z (E:Ent) (I:IMap) (F:List Res) (w:World):Prop:=Mem E I F w
theorem b2R (F:List Res) {id:Nat} (hm:P.follows .mixedOrders=true)
  (h:SX n E I L H (a1f P l.toArray (NQ Q) (a0Z E I F) l.length (Array.replicate l.length false))):SX n E I L H ((Code.region id l.toArray true).wq ρ P Q):=fun a w s m=>
 wpIn_region_any hm (c0U _ _ _ _ (by simpa using h a w.drew s m.drew))
theorem c5L {id:Nat} (hm:P.follows .mixedOrders=true)
  (h:SX n E I L H (a1f P l.toArray (NQ Q) (a0Z E I H) l.length (Array.replicate l.length false))):SX n E I L H ((Code.region id l.toArray true).wq ρ P Q):=b2R H hm h
theorem b7I {r r2 r3:Res} {id:Nat} (hm:P.follows .mixedOrders=true)
  (h:SX n E I L (r::r2::r3::H) (a1f P l.toArray (NQ Q) (a0Z E I H) l.length (Array.replicate l.length false))):SX n E I L (r::r2::r3::H) ((Code.region id l.toArray true).wq ρ P Q):=b2R H hm h
theorem Mem.subs {E:Ent} {I:IMap} {H F:List Res} {w:World} (m:Mem E I H w) (hF:List.Sublist F H):Mem E I F w:=
 ⟨m.upd,m.con,m.mono,m.fresh,fun r hr=>m.holds r (hF.subset hr),fun r hr=>m.priv r (hF.subset hr),m.dist.sublist (hF.filterMap _)⟩
theorem d0i {I0:IMap} {o:Oper} {d:Nat} {v:Value} (i:Nat) (hi:ops[i]? = some o) (hdst:o.dst=some d) (hsel:a7G ops=true) (hap:a7e ops listed i=true) (hr:(Region.ready .any ops listed).contains i=true) (hd:Nat.blt d n.sz=true)
  (hC:∀w,Mem E I H w→a0Z E I0 F w) (hv:∀a,St n a L→YieldsC P ops (a0Z E I0 F) o v a) (k:SX n E I ((d,v)::L) H (a1f P ops (NQ Q) (a0Z E I0 F) fuel (listed.setIfInBounds i true))) :
  SX n E I L H (a1f P ops (NQ Q) (a0Z E I0 F) (fuel+1) listed):=by
 intro a w s m;refine b5L (v:=v) hi hsel fuel listed a w hap (by simpa using hr) (hv a s) (hC w m) ?_;rw[hdst];exact k _ _ (s.put hd) m
theorem y_v {o:Oper} {v:Value} (hg:o.guard=none) (hv:OV P n E I L F o v) (a:Act) (s:St n a L):YieldsC P ops (a0Z E I F) o v a:=
 .inl ⟨by simp[Region.wanted,hg],fun w' hw'=>hv a w' s hw'⟩
theorem a1O {dst:Option Nat} {op:Op} {ty:Nat} {pos:String} {af:Array Edge} {j t:Nat} {b c:Bool} {v:Value} (ht:(ops[j]?).bind (·.dst)=some t) (hb:look L t=some (.bool c)) (hc:c=b)
  (hv:OV P n E I L F ⟨dst,op,ty,pos,af,none⟩ v) (a:Act) (s:St n a L):YieldsC P ops (a0Z E I F) ⟨dst,op,ty,pos,af,some (j,b)⟩ v a:=by
 subst hc;exact .inl ⟨by simp[Region.wanted,yielded,ht,s.get _ _ hb],fun w' hw'=>hv a w' s hw'⟩
theorem d8u {C:World→Prop} {dst:Option Nat} {op:Op} {ty:Nat} {pos:String} {af:Array Edge} {j t:Nat} {b c:Bool} (ht:(ops[j]?).bind (·.dst)=some t) (hb:look L t=some (.bool c)) (hc:c = !b)
  (a:Act) (s:St n a L):YieldsC P ops C ⟨dst,op,ty,pos,af,some (j,b)⟩ undef a:=by
 subst hc;exact .inr ⟨by simp[Region.wanted,yielded,ht,s.get _ _ hb],rfl⟩
def okC (ops:Array Oper) (listed:Array Bool) (i:Nat):Bool:=a7G ops&&(a7e ops listed i&&(Region.ready .any ops listed).contains i)
theorem d_t {I0:IMap} {o:Oper} {d:Nat} {v:Value} (i:Nat) (hi:ops[i]? = some o) (hdst:o.dst=some d) (hk:okC ops listed i=true) (hd:Nat.blt d n.sz=true)
  (hC:∀w,Mem E I H w→a0Z E I0 F w) (hv:∀a,St n a L→YieldsC P ops (a0Z E I0 F) o v a) (k:SX n E I ((d,v)::L) H (a1f P ops (NQ Q) (a0Z E I0 F) fuel (listed.setIfInBounds i true))) :
  SX n E I L H (a1f P ops (NQ Q) (a0Z E I0 F) (fuel+1) listed):=by
 simp only[okC,Bool.and_eq_true]at hk
 exact d0i i hi hdst hk.1 hk.2.1 hk.2.2 hd hC hv k
theorem a0F {o:Oper} {d:Nat} {v:Value} (i:Nat) (hi:ops[i]? = some o) (hdst:o.dst=some d) (hk:okC ops listed i=true) (hd:Nat.blt d n.sz=true) (hs:List.Sublist F H)
  (hg:o.guard=none) (hv:OV P n E I L F o v) (k:SX n E I ((d,v)::L) H (a1f P ops (NQ Q) (a0Z E I F) fuel (listed.setIfInBounds i true))) :
  SX n E I L H (a1f P ops (NQ Q) (a0Z E I F) (fuel+1) listed):=
 d_t i hi hdst hk hd (fun _ m=>Mem.subs m hs) (y_v hg hv) k
theorem d6u {C:World→Prop} {dst:Option Nat} {op:Op} {ty:Nat} {pos:String} {af:Array Edge} {j t:Nat} {b:Bool} (ht:(ops[j]?).bind (·.dst)=some t) (hb:look L t=some undef)
  (a:Act) (s:St n a L):YieldsC P ops C ⟨dst,op,ty,pos,af,some (j,b)⟩ undef a:=
 .inr ⟨by simp[Region.wanted,yielded,ht,s.get _ _ hb,undef],rfl⟩
theorem Mem.keeps {w:World} (m:Mem E I H w) (hF:List.Sublist F H):a0Z E I F w:=m.subs hF
theorem Mem.keepsI {I0:IMap} {w:World} (m:Mem E I H w) (hF:List.Sublist F H) (hI:ILe I0 I) (hE:ILe E.I I0) (hf:∀b,I0 b≠Option.none→E.I b≠Option.none∨E.w.heap.size≤b∨b∈E.X):a0Z E I0 F w:=by
 have mF:=m.subs hF;refine⟨mF.upd,fun b o hb=>mF.con b o (hI b o hb),hE,hf,mF.holds,fun r hr g hg=>⟨?_,(mF.priv r hr g hg).2⟩,mF.dist⟩;have:=(mF.priv r hr g hg).1
 cases h:I0 g with
 |none=>rfl
 |some o=>rw[hI g o h]at this;cases this
theorem d7h {I0:IMap} {o:Oper} (i:Nat) (hr:Region.ready .any ops listed=[i]) (hi:ops[i]? = some o)
  (k:SX n E I L H (one P ops (NQ Q) o fun a w=>a0Z E I0 F w∧a1f P ops (NQ Q) (a0Z E I0 F) fuel (listed.setIfInBounds i true) a w)) :
  SX n E I L H (a1f P ops (NQ Q) (a0Z E I0 F) (fuel+1) listed):=by
 intro a w s m;refine⟨fun e=>(by rw[hr]at e;cases e),fun j hj=>?_⟩;rw[hr]at hj
 obtain rfl:j=i:=by simpa using hj
 have:=k a w s m;unfold wpO
 simp only[hi]
 exact this
theorem d7i {I0:IMap} {o p:Oper} (i j:Nat) (hr:Region.ready .any ops listed=[i,j]) (hi:ops[i]? = some o) (hj:ops[j]? = some p)
  (k1:SX n E I L H (one P ops (NQ Q) o fun a w=>a0Z E I0 F w∧a1f P ops (NQ Q) (a0Z E I0 F) fuel (listed.setIfInBounds i true) a w))
  (k2:SX n E I L H (one P ops (NQ Q) p fun a w=>a0Z E I0 F w∧a1f P ops (NQ Q) (a0Z E I0 F) fuel (listed.setIfInBounds j true) a w)) :
  SX n E I L H (a1f P ops (NQ Q) (a0Z E I0 F) (fuel+1) listed):=by
 intro a w s m;refine⟨fun e=>(by rw[hr]at e;cases e),fun q hq=>?_⟩;rw[hr]at hq
 have h1:=k1 a w s m;have h2:=k2 a w s m
 rcases List.mem_cons.1 hq with rfl|hq
 ·unfold wpO;simp only[hi];exact h1
 ·obtain rfl:q=j:=by simpa using hq
  unfold wpO;simp only[hj];exact h2
theorem d0j {I0:IMap} {o p q:Oper} (i j k:Nat) (hr:Region.ready .any ops listed=[i,j,k]) (hi:ops[i]? = some o) (hj:ops[j]? = some p) (hk:ops[k]? = some q)
  (k1:SX n E I L H (one P ops (NQ Q) o fun a w=>a0Z E I0 F w∧a1f P ops (NQ Q) (a0Z E I0 F) fuel (listed.setIfInBounds i true) a w))
  (k2:SX n E I L H (one P ops (NQ Q) p fun a w=>a0Z E I0 F w∧a1f P ops (NQ Q) (a0Z E I0 F) fuel (listed.setIfInBounds j true) a w))
  (k3:SX n E I L H (one P ops (NQ Q) q fun a w=>a0Z E I0 F w∧a1f P ops (NQ Q) (a0Z E I0 F) fuel (listed.setIfInBounds k true) a w)) :
  SX n E I L H (a1f P ops (NQ Q) (a0Z E I0 F) (fuel+1) listed):=by
 intro a w s m;refine⟨fun e=>(by rw[hr]at e;cases e),fun x hx=>?_⟩;rw[hr]at hx
 have h1:=k1 a w s m;have h2:=k2 a w s m;have h3:=k3 a w s m
 rcases List.mem_cons.1 hx with rfl|hx
 ·unfold wpO;simp only[hi];exact h1
 ·rcases List.mem_cons.1 hx with rfl|hx
  ·unfold wpO;simp only[hj];exact h2
  ·obtain rfl:x=k:=by simpa using hx
   unfold wpO;simp only[hk];exact h3
theorem d3g {I0:IMap} (hC:∀w,Mem E I H w→a0Z E I0 F w) {K:Act→World→Prop} (k:SX n E I L H K) :
  SX n E I L H (fun a w=>a0Z E I0 F w∧K a w):=fun a w s m=>⟨hC w m,k a w s m⟩
theorem d3S {I0:IMap} (hr:Region.ready .any ops listed=[]) (k:SX n E I L H (Q .normal)):SX n E I L H (a1f P ops (NQ Q) (a0Z E I0 F) fuel listed):=by
 intro a w s m
 cases fuel with
 |zero=>exact⟨hr,k a w s m⟩
 |succ f=>exact⟨fun _=>k a w s m,fun i hi=>by rw[hr]at hi;cases hi⟩
theorem a1P {K:Act→World→Prop} (h:ILe E.I I→(∀b,I b≠none→E.I b≠none∨E.w.heap.size≤b∨b∈E.X)→SX n E I L H K):SX n E I L H K:=fun a w s m=>h m.mono m.fresh a w s m
end
section
variable {P:Program} {ρ:Option Nat} {n:Sz} {I I':IMap} {L:LL} {H H0:List Res} {w0:World} {Q:Exit→Act→World→Prop} {ops:Array Oper} {K:Act→World→Prop} {X:List Nat}
theorem Mem.orig {H:List Res} {w:World} (m:Mem ⟨X,I,w0⟩ I' H w):Mem ⟨X,I,w0⟩ I H w:=
 m.keepsI (List.Sublist.refl _) m.mono (ILe.refl _) (fun _ h=>.inl h)
def FnE (P:Program) (f:FuncId) (args:Array Value) (I:IMap) (p:Value→Prop):Prop:=FnH P f args I [] fun u I' H'=>p u∧I'=I∧H'=[]
theorem a8J {v u:Value} (h:v=u):SX n ⟨X,I,w0⟩ I' L H fun _ w=>a9p ⟨X,I,w0⟩ (fun u' I'' H'=>u'=u∧I''=I∧H'=[]) (.returned v) w:=
 fun _ w _ m=>⟨v,I,[],rfl,m.orig.none,h,rfl,rfl⟩
theorem q_e {v:Value} {p:Value→Prop} (h:p v):SX n ⟨X,I,w0⟩ I' L H fun _ w=>a9p ⟨X,I,w0⟩ (fun u' I'' H'=>p u'∧I''=I∧H'=[]) (.returned v) w:=
 fun _ w _ m=>⟨v,I,[],rfl,m.orig.none,h,rfl,rfl⟩
variable {E:Ent} {d ty:Nat} {pos:String} {af:Array Edge}
theorem a0T {p:Value→Prop} {fo:Operand} {as_:List Operand} {ats:Array TypeId} {f:FuncId} {args:List Value} (hc:FnE P f args.toArray I p) (h:a1w L fo as_=some (f,args)) (hd:Nat.blt d n.sz=true)
  (k:∀v,p v→SX n E I ((d,v)::L) H K) :
  SX n E I L H (one P ops Q ⟨some d,.call { callee:=.value fo,args:=as_.toArray,argTypes:=ats },ty,pos,af,none⟩ K):=
 a2H (Hc:=[]) hc h hd fun u I' H' hI hp=>by obtain⟨h1,rfl,rfl⟩:=hp;exact k u h1
end
end Go.Sx
set_option linter.all false
namespace Go.Sx
open Go
def a4h {κ:Type} [DecidableEq κ]:List (κ×Value)→κ→Option Value
 | [],_=>none
 |(k',v)::r,k=>if k'=k then some v else a4h r k
def a4I {κ:Type} [DecidableEq κ]:List (κ×Value)→κ→Value→List (κ×Value)
 | [],k,v=>[(k,v)]
 |(k',u)::r,k,v=>if k'=k then (k',v)::r else (k',u)::a4I r k v
def a1A {κ:Type} (enc:κ→Value) (kvs:List (κ×Value)):List (Value×Value):=kvs.map fun p=>(enc p.1,p.2)
def a2z {κ:Type} [DecidableEq κ]:List (κ×Value)→κ→Nat→Option (Nat×Value)
 | [],_,_=>none
 |(k',v)::r,k,i=>if k'=k then some (i,v) else a2z r k (i+1)
theorem b4M {κ:Type} [DecidableEq κ] (kvs:List (κ×Value)) (k:κ):∀i,(a2z kvs k i).map (·.2)=a4h kvs k:=by
 induction kvs with
 |nil=>intro i;rfl
 |cons p r ih=>obtain⟨k',v⟩:=p;intro i;simp only[a2z,a4h];split;rfl;exact ih _
theorem b2h {κ:Type} [DecidableEq κ] {kvs:List (κ×Value)} {k:κ}:∀{i},a2z kvs k i=none→∀v,a4I kvs k v=kvs++[(k,v)]:=by
 induction kvs with
 |nil=>intro i _ v;rfl
 |cons p r ih=>
  obtain⟨k',u⟩:=p;intro i h v
  simp only[a2z]at h
  split at h
  ·cases h
  ·rename_i hne;simp only[a4I,if_neg hne,ih h v,List.cons_append]
theorem c0d {κ:Type} [DecidableEq κ] {kvs:List (κ×Value)} {k:κ}:∀{i j u},a2z kvs k i=some (j,u)→i≤j∧kvs[j-i]? = some (k,u)∧∀v,a4I kvs k v=kvs.set (j-i) (k,v):=by
 induction kvs with
 |nil=>intro i j u h;cases h
 |cons p r ih=>
  obtain⟨k',u'⟩:=p;intro i j u h
  simp only[a2z]at h
  split at h
  ·rename_i he
   simp only[Option.some.injEq,Prod.mk.injEq]at h
   obtain⟨rfl,rfl⟩:=h;subst he;exact⟨Nat.le_refl _,by simp,fun v=>by simp[a4I]⟩
  ·rename_i hne
   obtain⟨h1,h2,h3⟩:=ih h;refine⟨oM,?_,fun v=>?_⟩
   ·rw[show j-i=(j-(i+1))+1 from oM,List.getElem?_cons_succ];exact h2
   ·rw[show j-i=(j-(i+1))+1 from oM,List.set_cons_succ,a4I,if_neg hne,h3 v]
structure KeyOK {κ:Type} [DecidableEq κ] (P:Program) (kt:TypeId) (enc:κ→Value):Prop where
 find:∀(w:World) (k:κ) (es:List MapEntry) (kvs:List (κ×Value)),es.map (fun e=>(e.key,e.val))=a1A enc kvs→(Instr.findKey kt (enc k) es).run P w = .ok (a2z kvs k 0) w
 check:∀(w:World) (b:Bool) (k:κ),(Instr.checkKey b 10000 kt (enc k)).run P w = .ok () w
 same:∀k:κ,Instr.sameBits 10000 (enc k) (enc k)=true
theorem b7v (a b:ByteArray):(a == b)=decide (a=b):=(beq_toListBytes a b).trans (a8b a b)
theorem a0H {P:Program} {kt:TypeId} (h:P.underlying kt=some .string):KeyOK P kt Value.string where
 find:=by
  intro w k es kvs he
  have key:∀(es:List MapEntry) (kvs:List (ByteArray×Value)) (i:Nat),es.map (fun e=>(e.key,e.val))=a1A Value.string kvs→Instr.findNow .string (.string k) es i=some (a2z kvs k i):=by
   intro es
   induction es with
   |nil=>intro kvs i he;cases kvs<;>simp_all [a1A,Instr.findNow,a2z]
   |cons e es ih=>
    intro kvs i he
    cases kvs with
    |nil=>simp[a1A]at he
    |cons p kvs=>
     obtain⟨k',v⟩:=p
     simp only[List.map_cons,a1A,List.cons.injEq,Prod.mk.injEq]at he
     obtain⟨⟨h1,h2⟩,h3⟩:=he
     simp only[Instr.findNow,h1,Instr.sameNow,b7v]
     by_cases hk:k'=k
     ·subst hk;simp[a2z,h2]
     ·have:¬k=k':=fun e=>hk e.symm
      simp only[this,decide_false,a2z,if_neg hk]
      exact ih kvs (i+1) h3
  simp only[Instr.findKey,Sem.run_bind,run_underlying h,Result.andThen_ok,key es kvs 0 he]
  rfl
 check:=by
  intro w b k
  show (Instr.checkKey b (9999+1) kt (Value.string k)).run P w=_
  rw[Instr.checkKey]
  simp[run_underlying h]
 same:=by
  intro k
  show (k == k)=true
  rw[b7v]
  simp
section
variable {P:Program} {ρ:Option Nat} {n:Sz} {E:Ent} {I:IMap} {L:LL} {H:List Res} {Q:Exit→Act→World→Prop} {ops:Array Oper} {K:Act→World→Prop}
variable {d ty:Nat} {pos:String} {af:Array Edge} {x y z:Operand}
theorem Mem.mp {r:Nat} {es:List (Value×Value)} {w:World} (m:Mem E I H w) (h:Res.mp r es∈H):∃entries clock,w.heap[r]? = some (.map entries clock)∧entries.toList.map (fun e=>(e.key,e.val))=es∧(entries.toList.map (·.born)).Nodup∧∀e∈entries.toList,e.born<clock:=by
 obtain⟨o,h1,entries,clock,rfl,h2⟩:=m.holds _ h;exact⟨entries,clock,h1,h2⟩
theorem a5n {w:World} {r:Nat} {entries:Array MapEntry} {clock:Nat} (h:w.heap[r]? = some (.map entries clock)):(getObj r).run P w = .ok (.map entries clock) w:=by
 simp[getObj,Sem.run,h]
theorem c3f {mt kt et:Nat} (ht:P.underlying mt=some (.map kt et)) (hd:Nat.blt d n.sz=true)
  (k:∀r,SX n E I ((d,.map (some r))::L) (.mp r []::H) K):SX n E I L H (one P ops Q ⟨some d,.makeMap mt none,ty,pos,af,none⟩ K):=
 a9n (fun r:Nat=>.map (some r)) (fun _=>I) (fun r=>.mp r []::H) (fun _=>True) hd
  (fun a w st m=>⟨w.heap.size,w.alloc (.map #[] 0),trivial,by simp[execOp,Instr.makeMap,run_underlying ht],
   m.new rfl ⟨rfl,Nat.le_refl _⟩ rfl (by simp) (fun k hk=>a5b w _ k hk) ⟨_,heap_alloc_new w _,#[],0,rfl,rfl,by simp,by simp⟩ (fun g hg=>by simp only[Res.foot,Option.some.injEq]at hg;omega)⟩) fun r _=>k r
variable {κ:Type} [DecidableEq κ] {enc:κ→Value}
def zvK (P:Program) (t:TypeId):Option Value:=(P.info? t).bind (·.zero)
theorem c8E {t:TypeId} {z:Value} (h:zvK P t=some z) (w:World):(zeroValue t).run P w = .ok z w:=by
 unfold zvK at h
 cases hi:P.info? t with
 |none=>simp[hi]at h
 |some i=>simp[hi]at h;simp[zeroValue,typeInfo,hi,h]
theorem b2s {w:World} {mt kt et r:Nat} {zv:Value} {kvs:List (κ×Value)} (hK:KeyOK P kt enc) (ht:P.underlying mt=some (.map kt et)) (hz:zvK P et=some zv) (m:Mem E I H w) (hm:Res.mp r (a1A enc kvs)∈H) (key:κ) (c:Bool) :
  (Instr.lookup mt (.map (some r)) (enc key) c).run P w = .ok (if c then .tuple #[(a4h kvs key).getD zv,.bool (a4h kvs key).isSome] else (a4h kvs key).getD zv) w:=by
 obtain⟨entries,clock,h1,h2,_⟩:=m.mp hm;have h3:=hK.find w key entries.toList kvs h2;have h4:=b4M kvs key 0
 simp only[Instr.lookup,Sem.run_bind,run_underlying ht,Result.andThen_ok,a5n h1,Sem.run_pure,hK.check,h3]
 cases hf:a2z kvs key 0 with
 |none=>
  rw[hf]at h4
  simp only[Option.map_none]at h4
  simp only[Sem.run_bind,c8E hz,Result.andThen_ok,Sem.run_pure,←h4]
  cases c<;>rfl
 |some q=>
  rw[hf]at h4
  simp only[Option.map_some]at h4
  simp only[Sem.run_pure,Result.andThen_ok,←h4]
  cases c<;>rfl
theorem c8w {mt kt et r:Nat} {zv:Value} {kvs:List (κ×Value)} (hm:Res.mp r (a1A enc kvs)∈H) (hK:KeyOK P kt enc) (ht:P.underlying mt=some (.map kt et)) (hz:zvK P et=some zv) (key:κ) (hx:ev L x=some (.map (some r))) (hy:ev L y=some (enc key)) :
  OV P n E I L H ⟨some d,.lookup mt x y false,ty,pos,af,none⟩ ((a4h kvs key).getD zv):=fun a w st m=>by
 simp only[execOp,st.ev hx,st.ev hy,Sem.run_bind,b2s hK ht hz m hm key false,Result.andThen_ok]
 rfl
theorem c4P {mt kt et r:Nat} {zv:Value} {kvs:List (κ×Value)} (hm:Res.mp r (a1A enc kvs)∈H) (hK:KeyOK P kt enc) (ht:P.underlying mt=some (.map kt et)) (hz:zvK P et=some zv) (key:κ) (hx:ev L x=some (.map (some r))) (hy:ev L y=some (enc key)) :
  OV P n E I L H ⟨some d,.lookup mt x y true,ty,pos,af,none⟩ (.tuple #[(a4h kvs key).getD zv,.bool (a4h kvs key).isSome]):=fun a w st m=>by
 simp only[execOp,st.ev hx,st.ev hy,Sem.run_bind,b2s hK ht hz m hm key true,Result.andThen_ok]
 rfl
theorem c5O {kvs:List (κ×Value)} {es:List MapEntry} (h:es.map (fun e=>(e.key,e.val))=a1A enc kvs) {j:Nat} {k:κ} {u:Value} (hj:kvs[j]? = some (k,u)):∃e,es[j]? = some e∧e.key=enc k∧e.val=u:=by
 have h1:(es.map (fun e=>(e.key,e.val)))[j]? = some (enc k,u):=by rw[h,a1A,List.getElem?_map,hj];rfl
 rw[List.getElem?_map]at h1
 cases he:es[j]? with
 |none=>simp[he]at h1
 |some e=>
  simp only[he,Option.map_some,Option.some.injEq,Prod.mk.injEq]at h1
  exact⟨e,rfl,h1.1,h1.2⟩
theorem b6z {mt kt et r:Nat} {v:Value} {kvs:List (κ×Value)} (hK:KeyOK P kt enc) (ht:P.underlying mt=some (.map kt et)) (key:κ) (hx:ev L x=some (.map (some r))) (hy:ev L y=some (enc key)) (hv:ev L z=some v)
  (k:SX n E I L (.mp r (a1A enc (a4I kvs key v))::H) K):SX n E I L (.mp r (a1A enc kvs)::H) (one P ops Q ⟨none,.mapUpdate mt x y z,ty,pos,af,none⟩ K):=
 b8B (fun a w st m=>by
  obtain⟨entries,clock,h1,h2,h3,h4⟩:=m.mp (List.mem_cons_self ..);have hlt:r<w.heap.size:=(Array.getElem?_eq_some_iff.1 h1).1;have hf:=hK.find w key entries.toList kvs h2;have hset:∀o:Obj,(setObj r o).run P w = .ok () { w with heap:=w.heap.setIfInBounds r o }:=fun o=>by simp[setObj,Sem.run,h1]
  have hnew:∀o:Obj,({ w with heap:=w.heap.setIfInBounds r o }:World).heap[r]? = some o:=fun o=>by simp[hlt]
  have hstep:∀(o:Obj),c5m o (a1A enc (a4I kvs key v))→Mem E I (.mp r (a1A enc (a4I kvs key v))::H) { w with heap:=w.heap.setIfInBounds r o }:=fun o ho=>
   m.step rfl ⟨rfl,Nat.le_refl _⟩ rfl (by simp) (fun k hk hne=>by
    have:r≠k:=fun e=>hne (by rw[←e];rfl)
    simp[Array.getElem?_setIfInBounds_ne this]) ⟨o,hnew o,ho⟩ (fun g hg=>.inl hg)
  cases hm:a2z kvs key 0 with
  |none=>
   refine⟨_,?_,hstep (.map (entries.push { key:=enc key,val:=v,born:=clock }) (clock+1)) ⟨_,_,rfl,?_,?_,?_⟩⟩
   ·simp only[execOp,st.ev hx,st.ev hy,st.ev hv,Instr.mapUpdate,Sem.run_bind,run_underlying ht,Result.andThen_ok,a5n h1,hK.check,hf,hm,hset]
    rfl
   ·rw[b2h hm]
    simp[h2,a1A]
   ·simp only[Array.toList_push,List.map_append,List.map_cons,List.map_nil]
    rw[List.nodup_append];refine⟨h3,by simp,fun a ha b hb e=>?_⟩
    simp only[List.mem_singleton]at hb
    subst e hb;obtain⟨e,he,hc⟩:=List.mem_map.1 ha;have:=h4 e he
    omega
   ·intro e he
    simp only[Array.toList_push,List.mem_append,List.mem_singleton]at he
    rcases he with he|rfl
    ·have:=h4 e he;omega
    ·simp
  |some q=>
   obtain⟨j,u⟩:=q;obtain⟨_,hj,hp⟩:=c0d hm
   simp only[Nat.sub_zero]at hj hp
   obtain⟨e,he,hek,heu⟩:=c5O h2 hj;have he':entries[j]? = some e:=by simpa using he
   refine⟨_,?_,hstep (.map (entries.modify j fun e=>{ e with key:=enc key,val:=v }) clock) ⟨_,_,rfl,?_,?_,?_⟩⟩
   ·simp only[execOp,st.ev hx,st.ev hy,st.ev hv,Instr.mapUpdate,Sem.run_bind,run_underlying ht,Result.andThen_ok,a5n h1,hK.check,hf,hm,he',Option.map_some,Option.getD_some,hek,Instr.keyThatStays,hK.same,if_true,Sem.run_pure,hset]
   ·rw[hp v]
    apply List.ext_getElem?
    intro i
    simp only[Array.toList_modify,List.getElem?_map,a1A,List.getElem?_modify,List.getElem?_set]
    have h2i:(entries.toList.map fun e=>(e.key,e.val))[i]? = (a1A enc kvs)[i]?:=by rw[h2]
    simp only[a1A,List.getElem?_map]at h2i
    by_cases hij:j=i
    ·subst hij;have:j<kvs.length:=(List.getElem?_eq_some_iff.1 hj).1
     simp[he,this]
    ·simp only[hij,if_false]
     simpa using h2i
   ·have:(entries.modify j fun e=>{ e with key:=enc key,val:=v }).toList.map (·.born)=entries.toList.map (·.born):=by
     apply List.ext_getElem?
     intro i
     simp only[Array.toList_modify,List.getElem?_map,List.getElem?_modify]
     cases entries.toList[i]? with
     |none=>rfl
     |some e=>by_cases hij:j=i<;>simp[hij]
    rw[this];exact h3
   ·intro e' he';rw[Array.toList_modify]at he'
    obtain⟨i,hi⟩:=List.getElem?_of_mem he';rw[List.getElem?_modify]at hi
    cases hei:entries.toList[i]? with
    |none=>simp[hei]at hi
    |some e0=>
     simp only[hei,Option.map_some,Option.some.injEq]at hi
     have:=h4 e0 (List.mem_of_getElem? hei)
     by_cases hij:j=i
     ·subst hij;simp at hi;subst hi;exact this
     ·simp[hij]at hi;subst hi;exact this) k
end
end Go.Sx
set_option linter.all false
namespace Go.Sx
open Go
def plK (P:Program) (t:TypeId):Option (List (Nat×Nat)):=
 match P.underlying t with
 |some (.struct fs)=>fs.toList.mapM fun f=>(tyK P f.type).map fun x=>(f.offset,x.2)
 |_=>none
def b6e (pl:Nat→Option (Nat×Nat)):List (Nat×Value)→List Value→Option (List Value)
 | [],cs=>some cs
 |(i,v)::r,cs=>match pl i with
  |some (off,k)=>if Nat.beq v.cells.size k&&Nat.ble (off+k) cs.length then b6e pl r (cs.take off++(v.cells.toList++cs.drop (off+k))) else none
  |none=>none
theorem c2r (off:Nat):∀(vs:List Value) (k:Nat) (cs:Array Value),off+k+vs.length≤cs.size →
  ((vs.zipIdx k).foldl (fun cs (c,j)=>cs.setIfInBounds (off+j) c) cs).toList=cs.toList.take (off+k)++vs++cs.toList.drop (off+k+vs.length):=by
 intro vs
 induction vs with
 |nil=>intro k cs h;simp
 |cons v vs ih=>
  intro k cs h
  simp only[List.length_cons]at h
  simp only[List.zipIdx_cons,List.foldl_cons]
  rw[ih (k+1) _ (by simp;omega)]
  simp only[Array.toList_setIfInBounds]
  have hl:off+k<cs.toList.length:=by simp;omega
  have e1:(cs.toList.set (off+k) v).take (off+(k+1))=cs.toList.take (off+k)++[v]:=by
   rw[show off+(k+1)=(off+k)+1 from oM,List.take_succ_eq_append_getElem (by simpa using hl)];rw[List.take_set_of_le (Nat.le_refl _)]
   simp
  have e2:(cs.toList.set (off+k) v).drop (off+(k+1)+vs.length)=cs.toList.drop (off+k+(v::vs).length):=by
   rw[List.drop_set_of_lt oM]
   congr 1
   simp only[List.length_cons]
   omega
  rw[e1,e2]
  simp
theorem b6f (pl:Nat→Option (Nat×Nat)):∀(ps:List (Nat×Value)) (cs ds:List Value),b6e pl ps cs=some ds→Instr.fill pl cs.toArray ps=some ds.toArray:=by
 intro ps
 induction ps with
 |nil=>intro cs ds h;simp only[b6e,Option.some.injEq]at h;subst h;rfl
 |cons p ps ih=>
  obtain⟨i,v⟩:=p;intro cs ds h
  simp only[b6e]at h
  split at h
  ·rename_i off k hpl
   split at h
   ·rename_i hc
    simp only[Bool.and_eq_true]at hc
    obtain⟨h1,h2⟩:=hc;have h1':v.cells.size=k:=Nat.eq_of_beq_eq_true h1;have h2':off+k≤cs.length:=Nat.le_of_ble_eq_true h2
    simp only[Instr.fill,hpl]
    rw[if_neg (by simp[h1'];omega)]
    have e:v.cells.zipIdx.foldl (fun cs (c,j)=>cs.setIfInBounds (off+j) c) cs.toArray=(cs.take off++(v.cells.toList++cs.drop (off+k))).toArray:=by
     apply Array.toList_inj.1
     rw[←Array.foldl_toList,Array.toList_zipIdx];rw[c2r off v.cells.toList 0 cs.toArray (by simp[h1'];omega)]
     simp[h1']
    rw[e];exact ih _ _ h
   ·cases h
  ·cases h
section
variable {P:Program}
theorem b6r:∀(fs:List Field) (pl:List (Nat×Nat)) (w:World),(fs.mapM fun f=>(tyK P f.type).map fun x=>(f.offset,x.2))=some pl →
  (fs.mapM fun f=>do Pure.pure (f.offset,←sizeOf f.type):Sem (List (Nat×Nat))).run P w = .ok pl w:=by
 intro fs
 induction fs with
 |nil=>intro pl w h;simp at h;subst h;rfl
 |cons f fs ih=>
  intro pl w h;rw[List.mapM_cons]at h ⊢
  cases hk:tyK P f.type with
  |none=>simp[hk]at h
  |some x=>
   cases hr:(fs.mapM fun f=>(tyK P f.type).map fun x=>(f.offset,x.2)) with
   |none=>simp[hk,hr]at h
   |some r=>
    simp[hk,hr]at h
    subst h;have h2:=(a1a (b:=x.1) (k:=x.2) hk w).2
    simp only[Sem.run_bind,h2,Result.andThen_ok,Sem.run_pure,ih r w hr]
end
section
variable {P:Program} {ρ:Option Nat} {n:Sz} {E:Ent} {I:IMap} {L:LL} {H:List Res} {Q:Exit→Act→World→Prop} {ops:Array Oper} {K:Act→World→Prop}
variable {d ty:Nat} {pos:String} {af:Array Edge} {x y z:Operand} {i j:Int}
def evp (L:LL):List (Nat×Operand)→Option (List (Nat×Value))
 | []=>some []
 |(i,x)::r=>match ev L x,evp L r with
  |some v,some vs=>some ((i,v)::vs)
  |_,_=>none
theorem b2X {a:Act} (s:St n a L):∀(xs:List (Nat×Operand)) (vs:List (Nat×Value)),evp L xs=some vs→xs.map (fun (i,x)=>(i,a.eval x))=vs:=by
 intro xs
 induction xs with
 |nil=>intro vs h;simp only[evp,Option.some.injEq]at h;subst h;rfl
 |cons p xs ih=>
  obtain⟨i,x⟩:=p;intro vs h
  simp only[evp]at h
  split at h
  ·rename_i v us hv hus
   cases h
   simp only[List.map_cons,s.ev hv,ih us hus]
  ·cases h
theorem d2O {tt:Nat} {pl:List (Nat×Nat)} {zs cs:List Value} {ps:List (Nat×Operand)} {vs:List (Nat×Value)} (hz:a1o P tt=some zs) (hp:plK P tt=some pl) (hv:evp L ps=some vs) (hf:b6e (pl[·]?) vs zs=some cs) :
  OV P n E I L H ⟨some d,.build tt ps.toArray,ty,pos,af,none⟩ (.agg cs.toArray):=fun a w st _=>by
 obtain⟨z,h1,h2⟩:=a6C hz w;unfold plK at hp
 split at hp
 ·rename_i fs hfs
  have hm:=b6r (P:=P) fs.toList pl w hp
  have hm':(fs.mapM fun f=>do Pure.pure (f.offset,←sizeOf f.type):Sem (Array (Nat×Nat))).run P w = .ok pl.toArray w:=by
   rw[Array.mapM_eq_mapM_toList]
   simp only[Sem.run_map,hm,Result.andThen_ok]
  have hparts:(ps.toArray.map fun (i,x)=>(i,a.eval x)).toList=vs:=by simpa using b2X st ps vs hv
  have hfill:=b6f (pl[·]?) vs zs cs hf;have hfill':Instr.fill (pl.toArray[·]?) zs.toArray vs=some cs.toArray:=by simpa using hfill
  simp only[execOp,Instr.build,Sem.run_bind,h1,Result.andThen_ok,run_underlying hfs,hm',hparts,h2,hfill']
  rfl
 ·cases hp
def c5i (zs:List Value):Nat→List Value
 |0=>[]
 |n+1=>zs++c5i zs n
theorem a6l (zs:List Value) (hz:0<zs.length) (n:Nat):madeCells zs.toArray (n * zs.length)=(c5i zs n).toArray:=by
 apply Array.ext_getElem?
 intro q
 have key:∀(n q:Nat),(c5i zs n)[q]? = if q<n * zs.length then some (zs[q % zs.length]!) else none:=by
  intro n
  induction n with
  |zero=>intro q;simp[c5i]
  |succ n ih=>
   intro q
   simp only[c5i]
   by_cases h:q<zs.length
   ·rw[List.getElem?_append_left h,Nat.mod_eq_of_lt h,if_pos (by rw[Nat.add_mul];omega),List.getElem?_eq_getElem h,getElem!_pos zs q h]
   ·rw[List.getElem?_append_right oM,ih];have e:(q-zs.length) % zs.length=q % zs.length:=(Nat.mod_eq_sub_mod oM).symm;rw[e]
    by_cases h2:q<(n+1) * zs.length
    ·rw[if_pos h2,if_pos (by rw[Nat.add_mul]at h2;omega)]
    ·rw[if_neg h2,if_neg (by rw[Nat.add_mul]at h2;omega)]
 simp only[madeCells,Array.getElem?_map,List.getElem?_toArray,key,List.size_toArray]
 by_cases h:q<n * zs.length
 ·rw[if_pos h,Array.getElem?_range,if_pos h]
  simp
 ·rw[if_neg h,Array.getElem?_range,if_neg h]
  rfl
theorem b4V {tt e k len:Nat} {zs cs:List Value} {ps:List (Nat×Operand)} {vs:List (Nat×Value)} (he:a6J P tt=some (e,k)) (hz:a1o P e=some zs) (hk:zs.length=k) (hk0:Nat.blt 0 k=true) (hl:Nat.ble (len * k) 16777216=true)
  (hv:evp L ps=some vs) (hf:b6e (fun i=>some (i * k,k)) vs (c5i zs len)=some cs) (hcs:cs.length=len * k) (hd:Nat.blt d n.sz=true)
  (kk:∀v,SX n E I ((d,v)::L) (.row v e k len cs::H) K):SX n E I L H (one P ops Q ⟨some d,.buildSlice tt len ps.toArray,ty,pos,af,none⟩ K):=
 a9n (fun v:Value=>v) (fun _=>I) (fun v=>.row v e k len cs::H) (fun _=>True) hd
  (fun a w st m=>by
   obtain⟨h1,bb,h2⟩:=a5U he;obtain⟨z,h3,h4⟩:=a6C hz w;have hparts:(ps.toArray.map fun (i,x)=>(i,a.eval x)).toList=vs:=by simpa using b2X st ps vs hv
   have hk':0<k:=by simpa[Nat.blt_eq]using hk0
   have hl':len * k≤16777216:=Nat.le_of_ble_eq_true hl;have hlen:len≤len * k:=Nat.le_mul_of_pos_right len hk'
   have hinit:(Array.range (len * k)).map ((if len * k=0 then (#[]:Array Value) else zs.toArray)[· % (if len * k=0 then (#[]:Array Value) else zs.toArray).size]!)=(c5i zs len).toArray:=by
    by_cases h0:len * k=0
    ·have:len=0:=by
      rcases Nat.eq_zero_or_pos len with h|h
      ·exact h
      ·have:=Nat.mul_pos h hk';omega
     subst this
     simp[c5i]
    ·rw[if_neg h0];subst hk;exact a6l zs hk' len
   have hfill:=b6f _ vs (c5i zs len) cs hf;refine⟨.slice (some ⟨w.heap.size,0,none⟩) len len,w.alloc (.cells cs.toArray e),trivial,?_,?_⟩
   ·simp only[execOp,Instr.buildSlice,Sem.run_bind,run_underlying h1,Result.andThen_ok,(a1a h2 w).2]
    rw[if_neg oM]
    by_cases h0:len * k=0
    ·simp only[h0,if_true]at hinit ⊢
     simp only[Sem.run_bind,Sem.run_pure,Result.andThen_ok,hparts]
     rw[hinit,hfill]
     simp[newRow]
    ·simp only[h0,if_false]at hinit ⊢
     simp only[Sem.run_bind,Sem.run_pure,Result.andThen_ok,hparts,h3,h4]
     rw[hinit,hfill]
     simp[newRow]
   ·refine m.new rfl ⟨rfl,Nat.le_refl _⟩ rfl (by simp) (fun k hk=>a5b w _ k hk) ⟨hcs,.inr ⟨w.heap.size,len,cs.toArray,rfl,heap_alloc_new w _,Nat.le_refl _,by unfold maxLen;omega,by simpa using hcs,by rw[←hcs];simp⟩⟩ fun g hg=>?_
    simp only[Res.foot,a3z,Option.some.injEq]at hg
    omega) fun v _=>kk v
theorem Mem.own {v:Value} {e k m:Nat} {xs:List Value} {w:World} (mm:Mem E I H w) (h:Res.row v e k m xs∈H):w.ownsRow 0 e k v m xs:=by
 obtain⟨h1,h2⟩:=mm.holds _ h;refine⟨h1,?_⟩
 rcases h2 with h2|⟨g,cap,cur,h3,h4,h5⟩
 ·exact .inl h2
 ·exact .inr ⟨g,cap,cur,h3,Nat.zero_le _,h4,h5⟩
theorem c3B {v:Value} {e k m:Nat} {xs:List Value} {w:World} (h:w.ownsRow 0 e k v m xs):(Res.row v e k m xs).holds w:=by
 obtain⟨h1,h2⟩:=h;refine⟨h1,?_⟩
 rcases h2 with h2|⟨g,cap,cur,h3,_,h4,h5⟩
 ·exact .inl h2
 ·exact .inr ⟨g,cap,cur,h3,h4,h5⟩
theorem b0S (v:Value):v.ownBlock=a3z v:=by
 cases v with
 |slice a l c=>cases a<;>rfl
 |_=>rfl
def a2j (P:Program) (e:TypeId):Option (List Value×Nat×Nat):=match P.info? e with
 |some i=>i.zero.map fun z=>(z.cells.toList,i.size,i.bytes)
 |none=>none
theorem a9A {tt e k nn m c bytes:Nat} {v:Value} {A:Option Addr} {zs xs news:List Value} (he:P.underlying tt=some (.slice e)) (hb:a2j P e=some (zs,k,bytes)) (hzs:zs.length=k) (hk0:Nat.blt 0 k=true)
  (hx:ev L x=some v) (hy:ev L y=some (.slice A m c)) (hl:news.length=m * k) (h1:news.all (·.oneCell')=true)
  (hsrc:0<m→∃b o,A=some ⟨b,o,none⟩∧∀w,Mem E I (.row v e k nn xs::H) w→∀j u,news[j]? = some u→w.cell? ⟨b,o+j,none⟩=some u)
  (hroom:(nn+m) * bytes≤140737488355328) (hlen:nn+m≤9223372036854775807) (hd:Nat.blt d n.sz=true)
  (kk:∀v',SX n E I ((d,v')::L) (.row v' e k (nn+m) (xs++news)::H) K):SX n E I L (.row v e k nn xs::H) (one P ops Q ⟨some d,.call { callee:=.builtin .append,args:=#[x,y],argTypes:=#[tt,tt] },ty,pos,af,none⟩ K):=
 a9n (fun v:Value=>v) (fun _=>I) (fun v'=>.row v' e k (nn+m) (xs++news)::H) (fun _=>True) hd
  (fun a w st mm=>by
   have hown:=mm.own (List.mem_cons_self ..);unfold a2j at hb
   split at hb
   ·rename_i inf hi
    cases hz:inf.zero with
    |none=>simp[hz]at hb
    |some z=>
     simp only[hz,Option.map_some,Option.some.injEq,Prod.mk.injEq]at hb
     obtain⟨hz1,hz2,hz3⟩:=hb;have hzz:z.cells.size=k:=by rw[←hzs,←hz1];simp
     have hk':0<k:=by simpa[Nat.blt_eq]using hk0
     have fin:∀v' w',(Builtin.append_ #[tt,tt] ty #[v,.slice A m c]).run P w = .ok v' w'→w'.ownsRow 0 e k v' (nn+m) (xs++news)→w.grownBy w' v.ownBlock→(v'.ownBlock=v.ownBlock∨v'.ownBlock=some w.heap.size) →
       ∃v' w',True∧(execOp a.eval ⟨some d,.call { callee:=.builtin .append,args:=#[x,y],argTypes:=#[tt,tt] },ty,pos,af,none⟩).run P w = .ok (.value v') w'∧Mem E I (.row v' e k (nn+m) (xs++news)::H) w':=by
      intro v' w' hr ho hg hv;refine⟨v',w',trivial,?_,?_⟩
      ·simp only[execOp,resolve,invoke,builtin,Sem.run_bind,Sem.run_pure,Result.andThen_ok,List.map_toArray,List.map_cons,List.map_nil,st.ev hx,st.ev hy,hr]
      ·refine mm.step hg.os ⟨hg.tape,a1i _ hr⟩ hg.output hg.size (fun q hq hne=>hg.block q hq (fun e'=>hne (by simp only[Res.foot];rw[←b0S];exact e'.symm))) (c3B ho) fun g hg'=>?_
       simp only[Res.foot,←b0S]at hg' ⊢
       rcases hv with hv|hv
       ·exact .inl (hv▸hg')
       ·rw[hv]at hg';cases hg';exact .inr (Nat.le_refl _)
     rcases Nat.eq_zero_or_pos m with h0|hm
     ·subst h0;have hn:news=[]:=List.eq_nil_of_length_eq_zero (by simpa using hl);subst hn
      cases A with
      |none=>
       have hr:(Builtin.append_ #[tt,tt] ty #[v,.slice none 0 c]).run P w = .ok v w:=by
        obtain⟨_,hv|⟨g,cap,cur,hv,_,_,hnc,_⟩⟩:=hown
        ·obtain⟨rfl,rfl⟩:=hv
         simp[Builtin.append_,run_underlying he,sizeOf,typeInfo,hi,Builtin.lenOf,Builtin.firstCells]
        ·subst hv
         simp[Builtin.append_,run_underlying he,sizeOf,typeInfo,hi,Builtin.lenOf,Builtin.firstCells,hnc,storeCells]
       exact fin v w hr (by simpa using hown) ⟨rfl,rfl,rfl,Nat.le_refl _,fun _ _ _=>rfl⟩ (.inl rfl)
      |some ad=>
       obtain⟨v',w',hr,ho,hg,_,hv⟩:=run_append_own_at (P:=P) w 0 tt ty e inf z k bytes he hi hz hz2 hz3 hzz hk' v nn xs hown ad 0 c [] (by simp) (fun j u hu=>by simp at hu) (by simp) (by unfold maxLen;omega) hroom (Nat.zero_le _);exact fin v' w' hr ho hg hv
     ·obtain⟨b,o,rfl,hcell⟩:=hsrc hm;obtain⟨v',w',hr,ho,hg,_,hv⟩:=run_append_own_at (P:=P) w 0 tt ty e inf z k bytes he hi hz hz2 hz3 hzz hk' v nn xs hown ⟨b,o,none⟩ m c news hl (fun j u hu=>by rw[add_lit];exact hcell w mm j u hu) (fun u hu=>by simpa using List.all_eq_true.1 h1 u hu) (by unfold maxLen;omega) hroom (Nat.zero_le _);exact fin v' w' hr ho hg hv
   ·cases hb) fun v' _=>kk v'
end
end Go.Sx
set_option linter.all false
namespace Go.Sx
open Go
theorem a7d {p:Nat→Bool} {i:Nat} (h:(List.range i).all p=true) (hp:p i=true):(List.range (i+1)).all p=true:=by
 rw[List.range_succ,List.all_append,h];simp[hp]
theorem a9S {p:Nat→Bool} {i n:Nat} (hi:i<n) (hp:p i=false):(List.range n).all p=false:=by
 rw[List.all_eq_false];exact⟨i,List.mem_range.2 hi,by simp[hp]⟩
theorem c5h (i:Nat) (h:i<256):IntKind.u8.wrap (i:Int)=(i:Int):=by
 simp[IntKind.wrap,IntKind.signed,IntKind.bits]
 omega
def a4G {α:Type} (p:α→Bool) (l:List α):Int:=((l.findIdx? p).map fun i=>(i:Int)).getD (-1)
theorem a1J {α:Type} {p:α→Bool} {l:List α} {i:Nat} (hi:i<l.length) (hp:p l[i]=true) (hn:∀j x,j<i→l[j]? = some x→p x=false):a4G p l=(i:Int):=by
 have:l.findIdx? p=some i:=by
  rw[List.findIdx?_eq_some_iff_getElem];exact⟨hi,hp,fun j hj=>by simpa using hn j _ hj (List.getElem?_eq_getElem oM)⟩
 simp[a4G,this]
theorem a2f {α:Type} {p:α→Bool} {l:List α} (hn:∀j x,j<l.length→l[j]? = some x→p x=false):a4G p l = -1:=by
 have:l.findIdx? p=none:=by
  rw[List.findIdx?_eq_none_iff];intro x hx;obtain⟨j,hj,rfl⟩:=List.getElem_of_mem hx;exact hn j _ hj (List.getElem?_eq_getElem hj)
 simp[a4G,this]
theorem a1W {α:Type} {p:α→Bool} {l:List α} {i:Nat} (hn:∀j x,j<i→l[j]? = some x→p x=false) (hlt:i<l.length) (hp:p l[i]=false) (j:Nat) (x:α) (hj:j<i+1) (hx:l[j]? = some x):p x=false:=by
 by_cases e:j=i
 ·subst e;rw[List.getElem?_eq_getElem hlt]at hx
  cases hx
  exact hp
 ·exact hn j x oM hx
theorem a2Q {α:Type} (p:α→Bool) (l:List α):decide (0≤a4G p l)=l.any p:=by
 cases h:l.findIdx? p with
 |none=>
  have e:a4G p l = -1:=by simp[a4G,h]
  rw[List.findIdx?_eq_none_iff]at h
  rw[e,List.any_eq_false.2 (fun x hx=>by simp[h x hx])]
  rfl
 |some i=>
  have e:a4G p l=(i:Int):=by simp[a4G,h]
  rw[List.findIdx?_eq_some_iff_getElem]at h
  obtain⟨hi,hp,_⟩:=h;rw[e,List.any_eq_true.2 ⟨_,List.getElem_mem hi,hp⟩]
  simp
theorem a5f {α:Type} (p:α→Bool) (l:List α):(a4G p l<0∧l.find? p=none)∨∃(i:Nat) (h:i<l.length),a4G p l=(i:Int)∧l.find? p=some l[i]:=by
 unfold a4G
 cases h:l.findIdx? p with
 |none=>
  left
  rw[List.findIdx?_eq_none_iff]at h
  refine⟨by simp,?_⟩;rw[List.find?_eq_none];intro x hx
  simp[h x hx]
 |some i=>
  right
  rw[List.findIdx?_eq_some_iff_getElem]at h
  obtain⟨hi,hp,hn⟩:=h;refine⟨i,hi,by simp,?_⟩;rw[List.find?_eq_some_iff_getElem];exact⟨hp,i,hi,rfl,fun j hj=>by simpa using hn j hj⟩
theorem c9G {α:Type} [DecidableEq α] (s:α) (l:List α) [Decidable (s∈l)]:l.any (fun x=>decide (s=x))=decide (s∈l):=by
 by_cases h:s∈l
 ·rw[decide_eq_true h];exact List.any_eq_true.2 ⟨s,h,by simp⟩
 ·rw[decide_eq_false h];exact List.any_eq_false.2 (fun x hx=>by simp;rintro rfl;exact h hx)
end Go.Sx
set_option linter.all false
namespace Go.Sx
open Go
structure Ivl where
 low:Int
 high:Int
 deriving DecidableEq
structure Use where
 km:Ivl
 cycles:Ivl
 load:Ivl
 deriving DecidableEq
structure Evt where
 op:Int
 day:Int
 part:ByteArray
 kind:ByteArray
 into:ByteArray
 slot:ByteArray
 key:ByteArray
 value:ByteArray
 use:Use
 deriving DecidableEq
structure Slot where
 name:ByteArray
 kinds:List ByteArray
 normal:Int
 deriving DecidableEq
structure Kind where
 name:ByteArray
 vehicle:Bool
 slots:List Slot
 deriving DecidableEq
structure Prp where
 key:ByteArray
 value:ByteArray
 deriving DecidableEq
structure Life where
 km:Ivl
 cycles:Ivl
 damage:Ivl
 deriving DecidableEq
structure Part where
 name:ByteArray
 kind:ByteArray
 into:ByteArray
 slot:ByteArray
 made:Int
 since:Int
 scrapped:Bool
 props:List Prp
 life:Life
 deriving DecidableEq
abbrev ci (n:Int):Value:=.int .i64 n
def Ivl.cells (i:Ivl):List Value:=[ci i.low,ci i.high]
def Use.cells (u:Use):List Value:=[ci u.km.low,ci u.km.high,ci u.cycles.low,ci u.cycles.high,ci u.load.low,ci u.load.high]
def Life.cells (u:Life):List Value:=[ci u.km.low,ci u.km.high,ci u.cycles.low,ci u.cycles.high,ci u.damage.low,ci u.damage.high]
def Evt.cells (e:Evt):List Value:=[ci e.op,ci e.day,.string e.part,.string e.kind,.string e.into,.string e.slot,.string e.key,.string e.value,
 ci e.use.km.low,ci e.use.km.high,ci e.use.cycles.low,ci e.use.cycles.high,ci e.use.load.low,ci e.use.load.high]
def Prp.cells (p:Prp):List Value:=[.string p.key,.string p.value]
def Part.cells (p:Part) (ps:Value):List Value:=[.string p.name,.string p.kind,.string p.into,.string p.slot,ci p.made,ci p.since,.bool p.scrapped,ps,
 ci p.life.km.low,ci p.life.km.high,ci p.life.cycles.low,ci p.life.cycles.high,ci p.life.damage.low,ci p.life.damage.high]
def Slot.cells (s:Slot) (ks:Value):List Value:=[.string s.name,ks,ci s.normal]
def Kind.cells (k:Kind) (ss:Value):List Value:=[.string k.name,.bool k.vehicle,ss]
instance:Enc Ivl where
 k:=2
 rd _ vs x:=vs=x.cells
 len h:=by rw[h];rfl
 mono _ h:=h
 one h:=by rw[h];rfl
instance:Enc Use where
 k:=6
 rd _ vs x:=vs=x.cells
 len h:=by rw[h];rfl
 mono _ h:=h
 one h:=by rw[h];rfl
instance:Enc Life where
 k:=6
 rd _ vs x:=vs=x.cells
 len h:=by rw[h];rfl
 mono _ h:=h
 one h:=by rw[h];rfl
instance:Enc Evt where
 k:=14
 rd _ vs x:=vs=x.cells
 len h:=by rw[h];rfl
 mono _ h:=h
 one h:=by rw[h];rfl
instance:Enc Prp where
 k:=2
 rd _ vs x:=vs=x.cells
 len h:=by rw[h];rfl
 mono _ h:=h
 one h:=by rw[h];rfl
theorem RdS.one {α:Type} [Enc α] {I:IMap} {v:Value} {l:List α} (h:RdS I v l):v.oneCell'=true:=by obtain⟨A,c,rfl,_⟩:=h;rfl
instance:Enc Slot where
 k:=3
 rd I vs x:=∃ks,vs=x.cells ks∧RdS I ks x.kinds
 len h:=by obtain⟨ks,rfl,_⟩:=h;rfl
 mono hI h:=by obtain⟨ks,rfl,h⟩:=h;exact⟨ks,rfl,h.le hI⟩
 one h:=by obtain⟨ks,rfl,h⟩:=h;obtain⟨A,c,rfl,_⟩:=h;rfl
instance:Enc Kind where
 k:=3
 rd I vs x:=∃ss,vs=x.cells ss∧RdS I ss x.slots
 len h:=by obtain⟨ks,rfl,_⟩:=h;rfl
 mono hI h:=by obtain⟨ks,rfl,h⟩:=h;exact⟨ks,rfl,h.le hI⟩
 one h:=by obtain⟨ks,rfl,h⟩:=h;obtain⟨A,c,rfl,_⟩:=h;rfl
instance:Enc Part where
 k:=14
 rd I vs x:=∃ps,vs=x.cells ps∧RdS I ps x.props
 len h:=by obtain⟨ks,rfl,_⟩:=h;rfl
 mono hI h:=by obtain⟨ks,rfl,h⟩:=h;exact⟨ks,rfl,h.le hI⟩
 one h:=by obtain⟨ks,rfl,h⟩:=h;obtain⟨A,c,rfl,_⟩:=h;rfl
def a9t (x y:Int):Int:=if x<y then -1 else if y<x then 1 else 0
def a9u (x y:ByteArray):Int:=if sLt x y=true then -1 else if (!(sLt x y||decide (x=y)))=true then 1 else 0
def a3p (c:UInt8):Bool:=(decide ((97:Int)≤c.toNat)&&decide ((c.toNat:Int)≤122))||(decide ((65:Int)≤c.toNat)&&decide ((c.toNat:Int)≤90))
def a2U (c:UInt8):Bool:=decide ((48:Int)≤c.toNat)&&decide ((c.toNat:Int)≤57)
def a7w (c:UInt8):Bool:=a3p c||a2U c||decide ((c.toNat:Int)=95)
def a8U (s:ByteArray) (n:Nat):Bool:=(List.range n).all fun i=>a7w (s[i]!)
def a3D (s:ByteArray):Bool:=a8U s s.size&&((decide ((0:Int)<(s.size:Nat))&&decide (((s.size:Nat):Int)≤24))&&a3p (s[0]!))
def a2R (s:ByteArray) (i:Nat):Bool:=a3p (s[i]!)||(decide (i≠0)&&(a2U (s[i]!)||decide (((s[i]!).toNat:Int)=95)))
def a8r (s:ByteArray) (n:Nat):Bool:=(List.range n).all fun i=>a2R s i
def a1p (s:ByteArray):Bool:=a8r s s.size&&((!decide (s=⟨#[]⟩))&&decide (((s.size:Nat):Int)≤24))
theorem c0T {s:ByteArray} {i:Nat} (h:a8U s i=true) (hp:a7w (s[i]!)=true):a8U s (i+1)=true:=a7d h hp
theorem c5f {s:ByteArray} {i n:Nat} (hi:i<n) (hp:a7w (s[i]!)=false):a8U s n=false:=a9S (p:=fun i=>a7w (s[i]!)) hi hp
theorem a8s {s:ByteArray} {i:Nat} (h:a8r s i=true) (hp:a2R s i=true):a8r s (i+1)=true:=a7d h hp
theorem b4i {s:ByteArray} {i n:Nat} (hi:i<n) (hp:a2R s i=false):a8r s n=false:=a9S (p:=fun i=>a2R s i) hi hp
def a6H (c:UInt8):Bool:=decide ((97:Int)≤c.toNat)&&decide ((c.toNat:Int)≤122)
def b1y (c:UInt8):Bool:=decide ((65:Int)≤c.toNat)&&decide ((c.toNat:Int)≤90)
def a9s (c:UInt8):Bool:=decide (0≤Lib.indexByte [32,9,10] c)
def c1C (c:UInt8):Bool:=decide (0≤Lib.indexByte [59,44,46,58,40,41,123,125,91,93,61,60,62,47,43,45,42] c)
def a6D (c:UInt8):Int:=if a6H c||b1y c then 3 else if a2U c then 4 else if a9s c then 1 else if c1C c then 6 else 0
def a3V (i:Nat):List Value:=(List.range 256).map fun j=>.int .u8 (if j<i then a6D j.toUInt8 else 0)
def clsTab:List Value:=(((a3V 256).set 35 (.int .u8 2)).set 95 (.int .u8 5)).set 34 (.int .u8 7)
def a8X (c:UInt8):Int:=if c=34 then 7 else if c=95 then 5 else if c=35 then 2 else a6D c
theorem a3b (i:Nat):(a3V i).length=256:=by simp[a3V]
theorem b1S (i:Nat) (hi:i<256) (v:Int) (hv:v=a6D i.toUInt8):(a3V i).set i (.int .u8 v)=a3V (i+1):=by
 subst hv
 apply List.ext_getElem?
 intro j
 simp only[a3V,List.getElem?_set,List.getElem?_map,List.length_map,List.length_range]
 by_cases hj:j<256
 ·rw[List.getElem?_range hj]
  by_cases e:i=j
  ·subst e;simp[hi]
  ·simp only[if_neg e,Option.map_some]
   congr 3
   exact propext ⟨fun _=>oM,fun _=>oM⟩
 ·rw[List.getElem?_eq_none (by simpa using hj)]
  simp only[Option.map_none]
  split
  ·omega
  ·rfl
theorem b5U (i:Nat) (hi:i<256) (hv:a6D i.toUInt8=0):a3V i=a3V (i+1):=by
 rw[←b1S i hi 0 hv.symm]
 apply List.ext_getElem?
 intro j
 simp only[a3V,List.getElem?_set,List.getElem?_map,List.length_map,List.length_range]
 by_cases hj:j<256
 ·rw[List.getElem?_range hj]
  by_cases e:i=j
  ·subst e;simp[hi]
  ·simp only[if_neg e]
 ·rw[List.getElem?_eq_none (by simpa using hj)]
  simp only[Option.map_none]
  split
  ·omega
  ·rfl
theorem a7h (i:Nat) (hi:i<256) (v:Int) (hv:a6D i.toUInt8=v):a3V (i+1)=(a3V i).set (0+i * 1) (.int .u8 v):=by
 rw[show 0+i * 1=i from by omega];exact (b1S i hi v hv.symm).symm
theorem c9Z {c:UInt8} (h:(a6H c||b1y c)=true):a6D c=3:=by rw[a6D,if_pos h]
theorem d0a {c:UInt8} (h:(a6H c||b1y c)=false) (h4:a2U c=true):a6D c=4:=by rw[a6D,if_neg (by rw[h];decide),if_pos h4]
theorem c9Y {c:UInt8} (h:(a6H c||b1y c)=false) (h4:a2U c=false) (h1:a9s c=true):a6D c=1:=by rw[a6D,if_neg (by rw[h];decide),if_neg (by rw[h4];decide),if_pos h1]
theorem d0b {c:UInt8} (h:(a6H c||b1y c)=false) (h4:a2U c=false) (h1:a9s c=false) (h6:c1C c=true):a6D c=6:=by
 rw[a6D,if_neg (by rw[h];decide),if_neg (by rw[h4];decide),if_neg (by rw[h1];decide),if_pos h6]
theorem c9X {c:UInt8} (h:(a6H c||b1y c)=false) (h4:a2U c=false) (h1:a9s c=false) (h6:c1C c=false):a6D c=0:=by
 rw[a6D,if_neg (by rw[h];decide),if_neg (by rw[h4];decide),if_neg (by rw[h1];decide),if_neg (by rw[h6];decide)]
theorem c1D (c:UInt8):clsTab[c.toNat]? = some (.int .u8 (a8X c)):=by
 have hc:c.toNat<256:=c.toNat_lt
 have h0:(a3V 256)[c.toNat]? = some (.int .u8 (a6D c)):=by
  simp only[a3V,List.getElem?_map,List.getElem?_range hc,Option.map_some,if_pos hc]
  congr 3
  simp
 have e:∀k:Nat,k<256→(k=c.toNat↔c=k.toUInt8):=fun k hk=>by
  constructor
  ·intro h;subst h;simp
  ·intro h;subst h;simp;omega
 unfold clsTab a8X
 simp only[List.getElem?_set,List.length_set,a3b]
 have e1:=e 34 oM;have e2:=e 95 oM;have e3:=e 35 oM
 by_cases h1:c=34
 ·rw[if_pos (e1.2 h1),if_pos h1];simp
 ·rw[if_neg (fun h=>h1 (e1.1 h)),if_neg h1]
  by_cases h2:c=95
  ·rw[if_pos (e2.2 h2),if_pos h2];simp
  ·rw[if_neg (fun h=>h2 (e2.1 h)),if_neg h2]
   by_cases h3:c=35
   ·rw[if_pos (e3.2 h3),if_pos h3];simp
   ·rw[if_neg (fun h=>h3 (e3.1 h)),if_neg h3,h0]
theorem d0c:(List.range 256).all (fun n=>(decide (a8X n.toUInt8=3) == a3p n.toUInt8)&&((decide (a8X n.toUInt8=4) == a2U n.toUInt8)&&(decide (a8X n.toUInt8=5) == decide ((n.toUInt8.toNat:Int)=95))))=true:=by decide +kernel
theorem a4u (c:UInt8):decide (a8X c=3)=a3p c∧decide (a8X c=4)=a2U c∧decide (a8X c=5)=decide ((c.toNat:Int)=95):=by
 have h:=List.all_eq_true.1 d0c c.toNat (List.mem_range.2 c.toNat_lt);have e:c.toNat.toUInt8=c:=by simp
 rw[e]at h
 simpa[Bool.and_eq_true,beq_iff_eq]using h
end Go.Sx
set_option linter.all false
namespace Go.Sx
open Go
def Iw (w:World):IMap:=fun b=>w.heap[b]?
theorem d3p (w:World):Mem ⟨a2c [],Iw w,w⟩ (Iw w) [] w:=
 ⟨Upd.refl _ _,fun _ _ h=>h,ILe.refl _,fun _ h=>.inl h,fun _ h=>(by cases h),fun _ h=>(by cases h),List.nodup_nil⟩
theorem c1x {w:World} {b off:Nat} {v:Value} (h:w.cell? ⟨b,off,none⟩=some v):ICell (Iw w) b off v:=by
 unfold World.cell? at h
 split at h
 ·rename_i c t fz hb
  exact⟨c,t,fz,hb,by simpa using h⟩
 ·cases h
def a0X (P:Program) (t:TypeId) (α:Type) [Enc α] (G:α→Prop):Prop:=
 ∀{H:Type} (enc:TypeId×Value→H) (w:World) (base:Nat) (spare:Nat→Bool) (held:Bool) (fuel:Nat) (cs:List Value) (x:DataW H×List MemPlace),
  DataW.trod enc P w base spare held fuel t cs=some x→∃y:α,Enc.rd (Iw w) cs y∧G y
abbrev SmB (s:ByteArray):Prop:=s.size≤maxLen
theorem d6e {n:Int} (h:(Lit.int .i64 n).wf=true):I64 n:=by
 simp only[Lit.wf,Bool.and_eq_true,decide_eq_true_eq]at h
 unfold I64;simpa[IntKind.min,IntKind.max,IntKind.signed,IntKind.bits]using h
section
variable {P:Program} {t e:TypeId}
theorem a1t (ht:P.underlying t=some .string):a0X P t ByteArray SmB:=by
 intro H enc w base spare held fuel cs x h;obtain⟨s,rfl,_,h2⟩:=DataW.trod_string ht h;exact⟨s,rfl,h2⟩
theorem a1M (ht:P.underlying t=some (.int .i64)):a0X P t Int I64:=by
 intro H enc w base spare held fuel cs x h;obtain⟨s,rfl,_,h2⟩:=DataW.trod_int ht h;exact⟨s,rfl,d6e h2⟩
theorem b2p (ht:P.underlying t=some .bool):a0X P t Bool (fun _=>True):=by
 intro H enc w base spare held fuel cs x h;obtain⟨b,rfl,_⟩:=DataW.trod_bool ht h;exact⟨b,rfl,trivial⟩
theorem a5u {α:Type} {p:Nat→α→Prop}:∀n:Nat,(∀i,i<n→∃x,p i x)→∃l:List α,l.length=n∧∀i x,l[i]? = some x→p i x
 |0,_=>⟨[],rfl,fun i x h=>by simp at h⟩
 |n+1,h=>by
  obtain⟨l,h1,h2⟩:=a5u n (fun i hi=>h i oM);obtain⟨x,hx⟩:=h n oM;refine⟨l++[x],by simp[h1],fun i y hy=>?_⟩
  rcases Nat.lt_or_ge i l.length with hi|hi
  ·rw[List.getElem?_append_left hi]at hy;exact h2 i y hy
  ·rw[List.getElem?_append_right hi]at hy
   have h3:i-l.length=0:=by
    rcases Nat.eq_zero_or_pos (i-l.length) with h|h
    ·exact h
    ·rw[List.getElem?_eq_none (by simp;omega)]at hy;cases hy
   rw[h3]at hy
   simp at hy
   subst hy;obtain rfl:i=n:=oM;exact hx
theorem a1n {α:Type} [Enc α] {G:α→Prop} (ht:P.underlying t=some (.slice e)) (hc:P.cellsOf e=Enc.k α) (hk:Nat.blt 0 (Enc.k α)=true) (he:a0X P e α G):a0X P t (List α) (fun l=>∀x∈l,G x):=by
 intro H enc w base spare held fuel cs x h
 rcases Deep.open_slice ht h with ⟨rfl,_⟩|⟨a,len,cap,m,n,D,Pl,rfl,hb,hl,hm,hmm,_,hx⟩
 ·exact⟨[],⟨_,rfl,RdS.nil'⟩,fun _ h=>by cases h⟩
 have hlm:len≤m:=by rw[hmm];split<;>omega
 obtain⟨l,h1,h2⟩:=a5u (p:=fun i y=>∃vs,(∀j u,vs[j]? = some u→w.cell? ((a.add (i * P.cellsOf e)).add j)=some u)∧vs.length=Enc.k α∧Enc.rd (Iw w) vs y∧G y) len (fun i hi=>by
  obtain⟨cs',h3,h4⟩:=hx i oM;obtain⟨y,h5,h6⟩:=he enc w base spare held n cs' _ h4;obtain⟨_,h7,h8⟩:=World.cells?_some h3;refine⟨y,cs',fun j u hu=>?_,Enc.len h5,h5,h6⟩;have hj:j<cs'.length:=(List.getElem?_eq_some_iff.1 hu).1
  rw[h8 j oM,hu])
 subst h1;refine⟨l,⟨_,rfl,some a,cap,rfl,fun hp=>?_,hl,by unfold maxLen at hm;exact hm⟩,fun x hx=>?_⟩
 ·have hk':0<Enc.k α:=by simpa[Nat.blt_eq]using hk
  have hsp:a.spot=none:=by
   obtain⟨vs,h3,h4,_⟩:=h2 0 l[0] (List.getElem?_eq_getElem hp);have h5:=h3 0 vs[0] (List.getElem?_eq_getElem oM);unfold World.cell? at h5
   split at h5
   ·split at h5
    ·cases h5
    ·rename_i hn;simpa[Addr.add]using hn
   ·cases h5
  obtain⟨b,o,sp⟩:=a
  simp only at hsp
  subst hsp;refine⟨b,o,rfl,fun i x hi=>?_⟩;obtain⟨vs,h3,h4,h5,_⟩:=h2 i x hi;refine⟨vs,fun j u hu=>c1x ?_,h5⟩;have h6:=h3 j u hu;rw[add_lit,add_lit,hc]at h6
  exact h6
 ·obtain⟨i,hi,rfl⟩:=List.getElem_of_mem hx;obtain⟨_,_,_,_,h3⟩:=h2 i _ (List.getElem?_eq_getElem hi);exact h3
def a0C (P:Program) (t:TypeId):Option (List (TypeId×Nat×Nat)):=
 match P.underlying t with
 |some (.struct fs)=>some (fs.toList.map fun f=>(f.type,f.offset,P.cellsOf f.type))
 |_=>none
theorem a0U {H:Type} {enc:TypeId×Value→H} {w:World} {base:Nat} {spare:Nat→Bool} {held:Bool} {fuel:Nat} {cs:List Value} {x:DataW H×List MemPlace} {l:List (TypeId×Nat×Nat)}
  (hf:a0C P t=some l) (h:DataW.trod enc P w base spare held fuel t cs=some x) :
  cs.length=P.cellsOf t∧∀q∈l,∃n y,DataW.trod enc P w base spare held n q.1 ((cs.drop q.2.1).take q.2.2)=some y:=by
 unfold a0C at hf
 split at hf
 ·rename_i fs ht
  simp only[Option.some.injEq]at hf
  subst hf;obtain⟨xs,n,_,_,h1,h2,h3⟩:=DataW.trod_struct ht h;refine⟨h1,fun q hq=>?_⟩;obtain⟨f,hf,rfl⟩:=List.mem_map.1 hq;obtain⟨i,hi,rfl⟩:=List.getElem_of_mem hf;have hi':i<fs.size:=by simpa using hi
  have h4:=h3 i fs[i] (by simp[hi']);rw[List.getElem?_eq_getElem oM]at h4
  exact⟨n,_,by simpa using h4⟩
 ·cases hf
theorem a8E {l:List (TypeId×Nat×Nat)} {w:World} {r:Reach} {base:Nat} {v:Value} (hf:a0C P t=some l) (h:Value.okWide P w r base t v):∃cs,v = .agg cs∧cs.size=P.cellsOf t:=by
 unfold a0C at hf
 split at hf
 ·rename_i fs ht;exact WideShapes.okWide_struct ht h
 ·cases hf
theorem a0f {cs:List Value} {n:Nat} (h:cs.length=n+1):∃a r,cs=a::r∧r.length=n:=by
 cases cs with
 |nil=>simp at h
 |cons a r=>exact⟨a,r,rfl,by simpa using h⟩
theorem a2y {cs:List Value} (h:cs.length=0):cs=[]:=List.eq_nil_of_length_eq_zero h
theorem c0p {α:Type} [Enc α] {G:α→Prop} {t0:TypeId} {k:Nat} (hf:a0C P t=some [(t0,0,k)]) (hc:P.cellsOf t=k) (h0:a0X P t0 α G):a0X P t α G:=by
 intro H enc w base spare held fuel cs x h;obtain⟨hl,hall⟩:=a0U hf h;obtain⟨n,y,h1⟩:=hall (t0,0,k) (by simp);have e:(cs.drop 0).take k=cs:=by rw[List.drop_zero];exact List.take_of_length_le oM
 rw[show ((t0,0,k):TypeId×Nat×Nat).2.1=0 from rfl,show ((t0,0,k):TypeId×Nat×Nat).2.2=k from rfl,e]at h1
 exact h0 enc w base spare held n cs y h1
def b2I (x:Ivl):Prop:=I64 x.low∧I64 x.high
def c9C (x:Use):Prop:=b2I x.km∧b2I x.cycles∧b2I x.load
structure OkE (e:Evt):Prop where
 op:I64 e.op
 day:I64 e.day
 part:SmB e.part
 kind:SmB e.kind
 into:SmB e.into
 slot:SmB e.slot
 key:SmB e.key
 value:SmB e.value
 use:c9C e.use
def d6L (s:Slot):Prop:=SmB s.name∧(∀k∈s.kinds,SmB k)∧I64 s.normal
def d6x (k:Kind):Prop:=SmB k.name∧∀s∈k.slots,d6L s
theorem c3q {t0:TypeId} (hf:a0C P t=some [(t0,0,1),(t0,1,1)]) (hc:P.cellsOf t=2) (h0:a0X P t0 Int I64):a0X P t Ivl b2I:=by
 intro H enc w base spare held fuel cs x h;obtain⟨hl,hall⟩:=a0U hf h;rw[hc]at hl
 obtain⟨a,r0_,rfl,l0_⟩:=a0f hl;obtain⟨b,r1_,rfl,l1_⟩:=a0f l0_;obtain rfl:=a2y l1_;obtain⟨n0,y0,h1⟩:=hall (t0,0,1) (by simp);obtain⟨n1,y1,h2⟩:=hall (t0,1,1) (by simp);obtain⟨x0,e0,g0⟩:=h0 enc w base spare held n0 _ y0 h1;obtain⟨x1,e1,g1⟩:=h0 enc w base spare held n1 _ y1 h2;have e0:[a]=[.int .i64 x0]:=e0;have e1:[b]=[.int .i64 x1]:=e1
 cases e0
 cases e1
 exact⟨⟨x0,x1⟩,rfl,g0,g1⟩
theorem b6I {t0:TypeId} {w:World} {H:Type} {enc:TypeId×Value→H} {base:Nat} {spare:Nat→Bool} {held:Bool} {fuel:Nat} {cs:List Value} {x:DataW H×List MemPlace} (hf:a0C P t=some [(t0,0,2),(t0,2,2),(t0,4,2)]) (hc:P.cellsOf t=6) (h0:a0X P t0 Ivl b2I)
  (h:DataW.trod enc P w base spare held fuel t cs=some x):∃a b c:Ivl,cs=a.cells++(b.cells++c.cells)∧b2I a∧b2I b∧b2I c:=by
 obtain⟨hl,hall⟩:=a0U hf h;rw[hc]at hl
 obtain⟨a,r0_,rfl,l0_⟩:=a0f hl;obtain⟨b,r1_,rfl,l1_⟩:=a0f l0_;obtain⟨c,r2_,rfl,l2_⟩:=a0f l1_;obtain⟨d,r3_,rfl,l3_⟩:=a0f l2_;obtain⟨e,r4_,rfl,l4_⟩:=a0f l3_;obtain⟨f,r5_,rfl,l5_⟩:=a0f l4_;obtain rfl:=a2y l5_;obtain⟨n0,y0,h1⟩:=hall (t0,0,2) (by simp);obtain⟨n1,y1,h2⟩:=hall (t0,2,2) (by simp);obtain⟨n2,y2,h3⟩:=hall (t0,4,2) (by simp);obtain⟨x0,e0,g0⟩:=h0 enc w base spare held n0 _ y0 h1;obtain⟨x1,e1,g1⟩:=h0 enc w base spare held n1 _ y1 h2;obtain⟨x2,e2,g2⟩:=h0 enc w base spare held n2 _ y2 h3;have e0:[a,b]=x0.cells:=e0;have e1:[c,d]=x1.cells:=e1;have e2:[e,f]=x2.cells:=e2;exact⟨x0,x1,x2,by rw[←e0,←e1,←e2];rfl,g0,g1,g2⟩
theorem c3u {t0:TypeId} (hf:a0C P t=some [(t0,0,2),(t0,2,2),(t0,4,2)]) (hc:P.cellsOf t=6) (h0:a0X P t0 Ivl b2I):a0X P t Use c9C:=by
 intro H enc w base spare held fuel cs x h;obtain⟨a,b,c,rfl,h1,h2,h3⟩:=b6I hf hc h0 h;exact⟨⟨a,b,c⟩,rfl,h1,h2,h3⟩
theorem c3n {ti ts tu:TypeId} (hf:a0C P t=some [(ti,0,1),(ti,1,1),(ts,2,1),(ts,3,1),(ts,4,1),(ts,5,1),(ts,6,1),(ts,7,1),(tu,8,6)]) (hc:P.cellsOf t=14) (hi:a0X P ti Int I64) (hs:a0X P ts ByteArray SmB) (hu:a0X P tu Use c9C):a0X P t Evt OkE:=by
 intro H enc w base spare held fuel cs x h;obtain⟨hl,hall⟩:=a0U hf h;rw[hc]at hl
 obtain⟨a0,r0_,rfl,l0_⟩:=a0f hl;obtain⟨a1,r1_,rfl,l1_⟩:=a0f l0_;obtain⟨a2,r2_,rfl,l2_⟩:=a0f l1_;obtain⟨a3,r3_,rfl,l3_⟩:=a0f l2_;obtain⟨a4,r4_,rfl,l4_⟩:=a0f l3_;obtain⟨a5,r5_,rfl,l5_⟩:=a0f l4_;obtain⟨a6,r6_,rfl,l6_⟩:=a0f l5_;obtain⟨a7,r7_,rfl,l7_⟩:=a0f l6_;obtain⟨a8,r8_,rfl,l8_⟩:=a0f l7_;obtain⟨a9,r9_,rfl,l9_⟩:=a0f l8_;obtain⟨a10,r10_,rfl,l10_⟩:=a0f l9_;obtain⟨a11,r11_,rfl,l11_⟩:=a0f l10_;obtain⟨a12,r12_,rfl,l12_⟩:=a0f l11_;obtain⟨a13,r13_,rfl,l13_⟩:=a0f l12_;obtain rfl:=a2y l13_;obtain⟨n0,y0,h0⟩:=hall (ti,0,1) (by simp);obtain⟨x0,e0,g0⟩:=hi enc w base spare held n0 _ y0 h0;have e0:[a0]=[.int .i64 x0]:=e0
 cases e0
 obtain⟨n1,y1,h1⟩:=hall (ti,1,1) (by simp);obtain⟨x1,e1,g1⟩:=hi enc w base spare held n1 _ y1 h1;have e1:[a1]=[.int .i64 x1]:=e1
 cases e1
 obtain⟨n2,y2,h2⟩:=hall (ts,2,1) (by simp);obtain⟨x2,e2,g2⟩:=hs enc w base spare held n2 _ y2 h2;have e2:[a2]=[.string x2]:=e2
 cases e2
 obtain⟨n3,y3,h3⟩:=hall (ts,3,1) (by simp);obtain⟨x3,e3,g3⟩:=hs enc w base spare held n3 _ y3 h3;have e3:[a3]=[.string x3]:=e3
 cases e3
 obtain⟨n4,y4,h4⟩:=hall (ts,4,1) (by simp);obtain⟨x4,e4,g4⟩:=hs enc w base spare held n4 _ y4 h4;have e4:[a4]=[.string x4]:=e4
 cases e4
 obtain⟨n5,y5,h5⟩:=hall (ts,5,1) (by simp);obtain⟨x5,e5,g5⟩:=hs enc w base spare held n5 _ y5 h5;have e5:[a5]=[.string x5]:=e5
 cases e5
 obtain⟨n6,y6,h6⟩:=hall (ts,6,1) (by simp);obtain⟨x6,e6,g6⟩:=hs enc w base spare held n6 _ y6 h6;have e6:[a6]=[.string x6]:=e6
 cases e6
 obtain⟨n7,y7,h7⟩:=hall (ts,7,1) (by simp);obtain⟨x7,e7,g7⟩:=hs enc w base spare held n7 _ y7 h7;have e7:[a7]=[.string x7]:=e7
 cases e7
 obtain⟨n8,y8,h8⟩:=hall (tu,8,6) (by simp);obtain⟨x8,e8,g8⟩:=hu enc w base spare held n8 _ y8 h8;have e8:[a8,a9,a10,a11,a12,a13]=x8.cells:=e8
 cases e8
 exact⟨⟨x0,x1,x2,x3,x4,x5,x6,x7,x8⟩,rfl,⟨g0,g1,g2,g3,g4,g5,g6,g7,g8⟩⟩
theorem c0o {ti tk ts:TypeId} (hf:a0C P t=some [(ts,0,1),(tk,1,1),(ti,2,1)]) (hc:P.cellsOf t=3) (hs:a0X P ts ByteArray SmB) (hk:a0X P tk (List ByteArray) (fun l=>∀x∈l,SmB x)) (hi:a0X P ti Int I64):a0X P t Slot d6L:=by
 intro H enc w base spare held fuel cs x h;obtain⟨hl,hall⟩:=a0U hf h;rw[hc]at hl
 obtain⟨a0,r0_,rfl,l0_⟩:=a0f hl;obtain⟨a1,r1_,rfl,l1_⟩:=a0f l0_;obtain⟨a2,r2_,rfl,l2_⟩:=a0f l1_;obtain rfl:=a2y l2_;obtain⟨n0,y0,h0⟩:=hall (ts,0,1) (by simp);obtain⟨x0,e0,g0⟩:=hs enc w base spare held n0 _ y0 h0;have e0:[a0]=[.string x0]:=e0
 cases e0
 obtain⟨n1,y1,h1⟩:=hall (tk,1,1) (by simp);obtain⟨x1,e1,g1⟩:=hk enc w base spare held n1 _ y1 h1;obtain⟨v1,e1,r1⟩:=e1;have e1:[a1]=[v1]:=e1
 cases e1
 obtain⟨n2,y2,h2⟩:=hall (ti,2,1) (by simp);obtain⟨x2,e2,g2⟩:=hi enc w base spare held n2 _ y2 h2;have e2:[a2]=[.int .i64 x2]:=e2
 cases e2
 exact⟨⟨x0,x1,x2⟩,⟨_,rfl,r1⟩,g0,g1,g2⟩
theorem c0n {tb tk ts:TypeId} (hf:a0C P t=some [(ts,0,1),(tb,1,1),(tk,2,1)]) (hc:P.cellsOf t=3) (hs:a0X P ts ByteArray SmB) (hb:a0X P tb Bool (fun _=>True)) (hk:a0X P tk (List Slot) (fun l=>∀x∈l,d6L x)):a0X P t Kind d6x:=by
 intro H enc w base spare held fuel cs x h;obtain⟨hl,hall⟩:=a0U hf h;rw[hc]at hl
 obtain⟨a0,r0_,rfl,l0_⟩:=a0f hl;obtain⟨a1,r1_,rfl,l1_⟩:=a0f l0_;obtain⟨a2,r2_,rfl,l2_⟩:=a0f l1_;obtain rfl:=a2y l2_;obtain⟨n0,y0,h0⟩:=hall (ts,0,1) (by simp);obtain⟨x0,e0,g0⟩:=hs enc w base spare held n0 _ y0 h0;have e0:[a0]=[.string x0]:=e0
 cases e0
 obtain⟨n1,y1,h1⟩:=hall (tb,1,1) (by simp);obtain⟨x1,e1,g1⟩:=hb enc w base spare held n1 _ y1 h1;have e1:[a1]=[.bool x1]:=e1
 cases e1
 obtain⟨n2,y2,h2⟩:=hall (tk,2,1) (by simp);obtain⟨x2,e2,g2⟩:=hk enc w base spare held n2 _ y2 h2;obtain⟨v2,e2,r2⟩:=e2;have e2:[a2]=[v2]:=e2
 cases e2
 exact⟨⟨x0,x1,x2⟩,⟨_,rfl,r2⟩,g0,g2⟩
open Go.ChangeShapes Go.WideShapes Go.RowKit
variable {H:Type} {enc:TypeId×Value→H}
theorem a8f {W W':World} (hl:laidOutB P=true) (hb:Below W.heap.size W W'):∀(ts:List TypeId) (vs:List Value) (ds:List (DataW H)) (ps:List MemPlace),ts.all (fun t=>P.readableRec t&&decide (t<P.types.size))=true→(∀x∈ps,x.block<W.heap.size) →
  DataW.TrodAll enc P W 0 (fun _=>true) true ts vs ds ps→DataW.TrodAll enc P W' 0 (fun b=>decide (b<W.heap.size)) true ts vs ds ps
 | [],vs,ds,ps,_,_,h=>by
  obtain⟨rfl,rfl,rfl⟩:=trodAll_nil h;exact trodAll_mk0
 |t::ts,vs,ds,ps,ht,hp,h=>by
  obtain⟨v,vs',d,ds',p,q,rfl,rfl,rfl,h1,h2⟩:=trodAll_cons h
  simp only[List.all_cons,Bool.and_eq_true,decide_eq_true_eq]at ht
  exact trodAll_cons_mk (Below.trod hl ht.1.1 ht.1.2 h1 hb fun x hx=>hp x (by simp[hx])) (a8f hl hb ts vs' ds' q (by simpa using ht.2) (fun x hx=>hp x (by simp[hx])) h2)
theorem c2J {f:FuncId} {fn:Func} {args:Array Value} {W:World} {s:ChangeSpec} {ds gs:List (DataW H)} {before:List MemPlace} {tb:TypeId}
  (hcall:∀(args:Array Value) (w:World),(callFunc f args).run P w = .ok (.enter f args) w) (hc:FnV P f args (Iw W) (.bool true)) (hW:DataW.Whole enc P fn.params.toList s.vars false W args.toList ds gs before)
  (hlaid:laidOutB P=true) (hts:fn.params.toList.all (fun t=>P.readableRec t&&decide (t<P.types.size))=true) (hres:fn.resultTypes=#[tb]) (htb:P.underlying tb=some .bool)
  (hfn:s.fn H (ds++gs) = { results:=[.lit (.bool true)],args:=ds }) (hvars:s.vars=[]) :
  Calls P f args W fun e W'=>∃v,e = .returned v∧s.post enc P fn false true false false W args v W':=by
 have h:=hc.go W (d3p W);unfold After at h
 rw[hcall]at h
 refine Calls.mono h ?_;rintro e W' ⟨v,I',H',rfl,hm,rfl,rfl,rfl⟩;refine⟨_,rfl,?_⟩;have hlt:=hW.lt;have hb:Below W.heap.size W W':=⟨hm.upd.os,hm.upd.tape.1,hm.upd.output,hm.upd.size,fun k hk=>hm.upd.block k hk (by simp[a2c])⟩;obtain⟨p,q,hA,hV,hpq,hfz,hnd⟩:=id hW;rw[hvars]at hV
 obtain⟨rfl,rfl⟩:=trodVars_none hV;refine⟨ds,[],before,[],p,[],hW,?_,?_,?_,?_,fun h=>by cases h⟩
 ·rw[hfn,hres];exact trodAll_cons_mk (shut_bool htb _) trodAll_mk0
 ·rw[hfn];exact a8f hlaid hb _ _ _ _ hts (fun x hx=>by simpa using hlt x (by rw[hpq];simp[hx])) hA
 ·rw[hfn,hvars]
  rfl
 ·refine⟨hm.upd.os,hm.upd.output,fun i hi=>?_⟩;rw[hb.block i hi]
  cases W.heap[i]? with
  |none=>rfl
  |some o=>cases o<;>simp
end
end Go.Sx
set_option linter.all false
namespace Go.Sx
open Go
def b2u (n:Int):Int:=max (-(1000000000000:Int)) (min n (1000000000000:Int))
def a2v (i:Ivl):Bool:=(decide (-(1000000000000:Int)≤i.low)&&decide (i.low≤i.high))&&decide (i.high≤(1000000000000:Int))
theorem a0W {i:Ivl}:a2v i=true ↔ -(1000000000000:Int)≤i.low∧i.low≤i.high∧i.high≤(1000000000000:Int):=by simp[a2v,and_assoc]
def a9M:Ivl:=⟨0,0⟩
def b1x (f:Int→Int→Int) (a b:Ivl):Ivl:=
 if (!a2v a || !a2v b)=true then a9M else ⟨min (min (min (f a.low b.low) (f a.low b.high)) (f a.high b.low)) (f a.high b.high),max (max (max (f a.low b.low) (f a.low b.high)) (f a.high b.low)) (f a.high b.high)⟩
def c5r:=b1x fun a b=>b2u (a+b)
def d7Z:=b1x fun a b=>b2u (a-b)
def d7J:=b1x fun a b=>b2u (a * b)
def a4H (a b:Ivl):Ivl:=if (!a2v a || !a2v b)=true then a9M else ⟨min a.low b.low,max a.high b.high⟩
def b1I (i:Ivl) (n:Int):Int:=if (!a2v i||decide (i.high≤n))=true then 0 else if i.low>n then 2 else 1
def a3Z (a b:Int):Int:=if b=0 then 0 else if a.tdiv b * b≠a∧(decide (a<0) != decide (b<0))=true then a.tdiv b-1 else a.tdiv b
def a9B (a:Ivl) (d:Int):Ivl:=⟨min (a3Z a.low d) (a3Z a.high d),max (a3Z a.low d) (a3Z a.high d)⟩
def a2J (a:Ivl) (low high:Int):List Ivl:=if low≤high then [a9B a low,a9B a high] else []
def a4s (a b:Ivl):List Ivl:=(if b.low≤0∧b.high≥0 then [a9M] else [])++a2J a (max b.low 1) b.high++a2J a b.low (min b.high (-1))
def d3i (a b:Ivl):Ivl:=(a4s a b).foldl a4H ((a4s a b).headD a9M)
theorem c7v {a b:Ivl} (h:b.low≤b.high):a4s a b≠[]:=by
 unfold a4s a2J
 by_cases h0:b.low≤0∧b.high≥0
 ·rw[if_pos h0];simp
 ·rw[if_neg h0]
  by_cases h1:max b.low 1≤b.high
  ·rw[if_pos h1];simp
  ·rw[if_neg h1,if_pos oM];simp
section
variable {a b:Ivl}
theorem b2P (f:Int→Int→Int) (hf:∀x y,-(1000000000000:Int)≤f x y∧f x y≤(1000000000000:Int)):a2v (b1x f a b)=true:=by
 unfold b1x
 split
 ·decide
 ·have h1:=hf a.low b.low;have h2:=hf a.low b.high;have h3:=hf a.high b.low;have h4:=hf a.high b.high;rw[a0W];dsimp only;omega
theorem b6Y (n:Int) : -(1000000000000:Int)≤b2u n∧b2u n≤(1000000000000:Int):=by unfold b2u;omega
theorem c9E:a2v (c5r a b)=true:=b2P _ fun _ _=>b6Y _
theorem d2C:a2v (d7Z a b)=true:=b2P _ fun _ _=>b6Y _
theorem d1j:a2v (d7J a b)=true:=b2P _ fun _ _=>b6Y _
theorem b3m:a2v (a4H a b)=true:=by
 unfold a4H
 split
 ·decide
 ·rename_i h
  have h1:a2v a=true∧a2v b=true:=by simpa using h
  have h2:=a0W.1 h1.1;have h3:=a0W.1 h1.2;rw[a0W];dsimp only;omega
theorem c9h (ha:a2v a=true) (hb:a2v b=true):¬(!a2v a || !a2v b)=true:=by simp[ha,hb]
theorem c9D (ha:a2v a=true) (hb:a2v b=true):c5r a b=⟨b2u (a.low+b.low),b2u (a.high+b.high)⟩:=by
 have h1:=a0W.1 ha;have h2:=a0W.1 hb;unfold c5r b1x;rw[if_neg (c9h ha hb)]
 dsimp only[b2u]
 congr 1<;>omega
theorem b4x {x d:Int} (hx : -(1000000000000:Int)≤x∧x≤(1000000000000:Int)) : -(1000000000000:Int)≤a3Z x d∧a3Z x d≤(1000000000000:Int):=by
 unfold a3Z
 split
 ·omega
 ·rename_i hd
  have habs:(x.tdiv d).natAbs≤x.natAbs:=by rw[Int.natAbs_tdiv];exact Nat.div_le_self _ _
  split
  ·rename_i h
   obtain⟨h1,h2⟩:=h
   -- the quotient is not the dividend: it is of lesser amount,or 0
   by_cases h3:(x.tdiv d).natAbs=x.natAbs
   ·exfalso
    rw[Int.natAbs_tdiv]at h3
    rcases Nat.eq_zero_or_pos x.natAbs with h0|h0
    ·have:x=0:=oM;subst this;simp at h1
    ·have hd1:d.natAbs=1:=by
      rcases Nat.lt_or_ge d.natAbs 2 with h4|h4
      ·omega
      ·have h5:=Nat.div_lt_self h0 h4;have h6:x.natAbs.div d.natAbs=x.natAbs / d.natAbs:=rfl
       omega
     rcases Int.natAbs_eq d with h4|h4
     ·rw[hd1]at h4;rw[h4]at h1;simp at h1
     ·rw[hd1]at h4;rw[h4]at h1;simp at h1
   ·omega
  ·omega
theorem b6Q {d:Int} (ha:a2v a=true):a2v (a9B a d)=true:=by
 have h1:=a0W.1 ha;have h2:=b4x (x:=a.low) (d:=d) oM;have h3:=b4x (x:=a.high) (d:=d) oM;rw[a0W];unfold a9B;dsimp only;omega
theorem c7w (ha:a2v a=true):∀q∈a4s a b,a2v q=true:=fun q hq=>by
 have hs:∀{lo hi:Int},q∈a2J a lo hi→a2v q=true:=fun {lo hi} h=>by
  unfold a2J at h
  split at h
  ·rcases List.mem_cons.1 h with rfl|h
   ·exact b6Q ha
   ·rw[List.mem_singleton.1 h];exact b6Q ha
  ·cases h
 unfold a4s at hq
 rcases List.mem_append.1 hq with h|h
 ·rcases List.mem_append.1 h with h|h
  ·split at h
   ·rw[List.mem_singleton.1 h];decide
   ·cases h
  ·exact hs h
 ·exact hs h
theorem c2p:∀(l:List Ivl) (x:Ivl),a2v x=true→a2v (l.foldl a4H x)=true
 | [],_,h=>h
 |y::l,x,h=>c2p l _ b3m
theorem d0o (ha:a2v a=true):a2v (d3i a b)=true:=by
 unfold d3i;refine c2p _ _ ?_
 cases h:a4s a b with
 |nil=>decide
 |cons y l=>exact c7w (b:=b) ha y (by rw[h];simp)
theorem c6w (ha:a2v a=true) (hb:a2v b=true):a4H a b=⟨min a.low b.low,max a.high b.high⟩:=by unfold a4H;rw[if_neg (c9h ha hb)]
theorem b9Y:a4H a b=a4H b a:=by
 unfold a4H;rw[Bool.or_comm,Int.min_comm,Int.max_comm]
end
inductive Fm where
 |mk (op n:Int) (kids:List Fm)
def Fm.op:Fm→Int | .mk o _ _=>o
def Fm.n:Fm→Int | .mk _ n _=>n
def Fm.kids:Fm→List Fm | .mk _ _ k=>k
mutual
def nodesF:Fm→Int→Int
 |.mk _ _ kids,most=>nodesL kids 1 most
def nodesL:List Fm→Int→Int→Int
 | [],n,_=>n
 |k::ks,n,most=>if n>most then n else nodesL ks (n+nodesF k (most-n)) most
end
mutual
def cntN:Fm→Nat
 |.mk _ _ kids=>cntNL kids+1
def cntNL:List Fm→Nat
 | []=>0
 |k::ks=>cntN k+cntNL ks
end
def a8T (op:Int):Int:=if op=11 then 3 else if 5≤op then 2 else 0
mutual
def rightF:Fm→Bool
 |.mk op n kids=>!(decide (op<1)||decide (op>11)) && !(((decide ((kids.length:Int)≠a8T op)||decide (n<0))||decide (n>9999999))||(decide (n>0)&&decide (op≠1)))&&rightL kids
def rightL:List Fm→Bool
 | []=>true
 |k::ks=>rightF k&&rightL ks
end
theorem b4S:∀(ks:List Fm) (n most:Int),1≤n→n≤most+1→(∀k∈ks,∀m,0≤m→1≤nodesF k m∧nodesF k m≤m+1)→1≤nodesL ks n most∧nodesL ks n most≤most+1
 | [],n,most,h1,h2,_=>by simp only[nodesL];omega
 |k::ks,n,most,h1,h2,h=>by
  simp only[nodesL]
  split
  ·omega
  ·have h3:=h k (by simp) (most-n) oM;exact b4S ks _ most oM oM fun k hk=>h k (by simp[hk])
theorem b3x:∀(f:Fm) (m:Int),0≤m→1≤nodesF f m∧nodesF f m≤m+1
 |.mk op n kids,m,h=>by
  simp only[nodesF]
  exact b4S kids 1 m oM oM fun k hk m hm=>b3x k m hm
def a6W (u:Use) (op:Int):Ivl:=if op=2 then u.km else if op=3 then u.cycles else u.load
def a5Q (op:Int) (a b:Ivl):Ivl:=
 if op=5 then c5r a b else if op=6 then d7Z a b else if op=7 then d7J a b else if op=9 then ⟨min a.low b.low,min a.high b.high⟩ else if op=10 then ⟨max a.low b.low,max a.high b.high⟩ else d3i a b
def a6S (a b c:Ivl):Ivl:=if b1I a 0=2 then b else if b1I a 0=0 then c else a4H b c
def a2K (u:Use):Fm→Ivl
 |.mk op n []=>if op=1 then ⟨n,n⟩ else a6W u op
 |.mk op n [a,b]=>a5Q op (a2K u a) (a2K u b)
 |.mk op n [a,b,c]=>a6S (a2K u a) (a2K u b) (a2K u c)
 |.mk _ _ _=>a9M
def a8Q (i:Ivl):Bool:=!((decide (i.low<0)||decide (i.low>i.high))||decide (i.high>1000000))
def a8R (u:Use):Bool:=(a8Q u.km&&a8Q u.cycles)&&a8Q u.load
def a2L (f:Fm):Bool:=decide (nodesF f 60≤60)&&rightF f
def b2S (f:Fm) (u:Use):Ivl:=if a8R u=false then a9M else if a2L f=false then a9M else ⟨max 0 (a2K u f).low,max 0 (a2K u f).high⟩
theorem b3O {i:Ivl} (h:a8Q i=true):a2v i=true∧0≤i.low:=by
 simp only[a8Q,Bool.not_eq_true',Bool.or_eq_false_iff,decide_eq_false_iff_not]at h
 rw[a0W];omega
theorem a7T {op n:Int} {kids:List Fm} (h:rightF (.mk op n kids)=true):(1≤op∧op≤11)∧(kids.length:Int)=a8T op∧(0≤n∧n≤9999999)∧∀k∈kids,rightF k=true:=by
 have hl:∀ks:List Fm,rightL ks=true→∀k∈ks,rightF k=true:=fun ks=>by
  induction ks with
  |nil=>intro _ k hk;cases hk
  |cons x ks ih=>
   intro h k hk
   simp only[rightL,Bool.and_eq_true]at h
   rcases List.mem_cons.1 hk with rfl|hk
   ·exact h.1
   ·exact ih h.2 k hk
 simp only[rightF,Bool.and_eq_true,Bool.not_eq_true',Bool.or_eq_false_iff,decide_eq_false_iff_not]at h
 exact⟨oM,oM,oM,hl kids h.2⟩
theorem c1g {a b:Ivl} (op:Int) (ha:a2v a=true) (hb:a2v b=true):a2v (a5Q op a b)=true:=by
 have h1:=a0W.1 ha;have h2:=a0W.1 hb;unfold a5Q
 split
 ·exact c9E
 split
 ·exact d2C
 split
 ·exact d1j
 split
 ·rw[a0W];dsimp only;omega
 split
 ·rw[a0W];dsimp only;omega
 ·exact d0o ha
theorem a7a {u:Use} (hu:a8R u=true):∀f:Fm,rightF f=true→a2v (a2K u f)=true
 |.mk op n [],h=>by
  have h1:=a7T h
  simp only[a8R,Bool.and_eq_true]at hu
  simp only[a2K]
  split
  ·rw[a0W];dsimp only;omega
  ·unfold a6W
   split
   ·exact (b3O hu.1.1).1
   split
   ·exact (b3O hu.1.2).1
   ·exact (b3O hu.2).1
 |.mk op n [a,b],h=>by
  have h1:=(a7T h).2.2.2
  simp only[a2K]
  exact c1g op (a7a hu a (h1 a (by simp))) (a7a hu b (h1 b (by simp)))
 |.mk op n [a,b,c],h=>by
  have h1:=(a7T h).2.2.2
  simp only[a2K]
  unfold a6S
  split
  ·exact a7a hu b (h1 b (by simp))
  split
  ·exact a7a hu c (h1 c (by simp))
  ·exact b3m
 |.mk op n [a],h=>by simp only[a2K];decide
 |.mk op n (a::b::c::d::l),h=>by simp only[a2K];decide
theorem d0k {f:Fm} {u:Use}:a2v (b2S f u)=true∧0≤(b2S f u).low:=by
 unfold b2S
 split
 ·exact⟨by decide,by decide⟩
 ·rename_i hu
  split
  ·exact⟨by decide,by decide⟩
  ·rename_i hv
   have hr:rightF f=true:=by
    have:a2L f=true:=by simpa using hv
    simp only[a2L,Bool.and_eq_true]at this
    exact this.2
   have h1:=a0W.1 (a7a (by simpa using hu) f hr);refine⟨?_,by dsimp only;omega⟩;rw[a0W];dsimp only;omega
def d8t (a b:Ivl) (st:Ivl×Bool) (d:Int):Ivl×Bool:=if d<b.low∨d>b.high∨d=0 then st else ((if st.2=true then a4H (a9B a d) st.1 else a9B a d),true)
structure Hull (p:Ivl→Prop) (r:Ivl):Prop where
 lo:∃x,p x∧r.low=x.low
 lo2:∀x,p x→r.low≤x.low
 hi:∃x,p x∧r.high=x.high
 hi2:∀x,p x→x.high≤r.high
section
variable {p q:Ivl→Prop} {r r' y:Ivl} {a b:Ivl}
theorem Hull.uniq (h:Hull p r) (h':Hull q r') (e:∀x,p x↔q x):r=r':=by
 obtain⟨x,hx,e1⟩:=h.lo;obtain⟨x',hx',e1'⟩:=h'.lo;obtain⟨z,hz,e2⟩:=h.hi;obtain⟨z',hz',e2'⟩:=h'.hi;have h1:=h.lo2 x' ((e _).2 hx');have h2:=h'.lo2 x ((e _).1 hx);have h3:=h.hi2 z' ((e _).2 hz');have h4:=h'.hi2 z ((e _).1 hz)
 cases r;cases r'
 congr 1
 ·dsimp only at *;omega
 ·dsimp only at *;omega
theorem Hull.one (x:Ivl):Hull (fun z=>z=x) x:=⟨⟨x,rfl,rfl⟩,fun z h=>by rw[h];omega,⟨x,rfl,rfl⟩,fun z h=>by rw[h];omega⟩
theorem Hull.join (h:Hull p r) (hr:a2v r=true) (hy:a2v y=true):Hull (fun x=>p x∨x=y) (a4H r y):=by
 rw[c6w hr hy];refine⟨?_,fun x hx=>?_,?_,fun x hx=>?_⟩
 ·obtain⟨x,hx,e⟩:=h.lo
  rcases Int.le_total r.low y.low with h1|h1
  ·exact⟨x,.inl hx,by dsimp only;omega⟩
  ·exact⟨y,.inr rfl,by dsimp only;omega⟩
 ·dsimp only
  rcases hx with hx|rfl
  ·have:=h.lo2 x hx;omega
  ·omega
 ·obtain⟨x,hx,e⟩:=h.hi
  rcases Int.le_total y.high r.high with h1|h1
  ·exact⟨x,.inl hx,by dsimp only;omega⟩
  ·exact⟨y,.inr rfl,by dsimp only;omega⟩
 ·dsimp only
  rcases hx with hx|rfl
  ·have:=h.hi2 x hx;omega
  ·omega
def d6w (a b:Ivl) (p:Ivl→Prop) (d:Int) (x:Ivl):Prop:=p x∨((b.low≤d∧d≤b.high∧d≠0)∧x=a9B a d)
def QInv (p:Ivl→Prop) (st:Ivl×Bool):Prop:=(st.2=false→∀x,¬p x)∧(st.2=true→Hull p st.1∧a2v st.1=true)
theorem QInv.step {st:Ivl×Bool} (ha:a2v a=true) (h:QInv p st) (d:Int):QInv (d6w a b p d) (d8t a b st d):=by
 unfold d8t
 split
 ·rename_i hs
  have e:d6w a b p d=p:=by
   funext x
   apply propext
   exact⟨fun h=>h.elim id fun h=>by have:=h.1;omega,.inl⟩
  rw[e];exact h
 ·rename_i hs
  refine⟨fun h=>(by cases h),fun _=>?_⟩;have hr:b.low≤d∧d≤b.high∧d≠0:=oM;have hq:=b6Q (d:=d) ha
  dsimp only
  split
  ·rename_i hf
   obtain⟨h1,h2⟩:=h.2 hf;rw[b9Y];have h3:=h1.join h2 hq
   have e:d6w a b p d=fun x=>p x∨x=a9B a d:=by
    funext x
    apply propext
    exact⟨fun h=>h.elim .inl fun h=>.inr h.2,fun h=>h.elim .inl fun h=>.inr ⟨hr,h⟩⟩
   rw[e];exact⟨h3,b3m⟩
  ·rename_i hf
   have h1:=h.1 (by simpa using hf)
   have e:d6w a b p d=fun x=>x=a9B a d:=by
    funext x
    apply propext
    exact⟨fun h=>h.elim (fun h=>absurd h (h1 x)) fun h=>h.2,fun h=>.inr ⟨hr,h⟩⟩
   rw[e];exact⟨Hull.one _,hq⟩
end
end Go.Sx
set_option linter.all false
namespace Go.Sx
open Go
inductive FmRd (I:IMap):List Value→Fm→Prop
 |mk (op n:Int) (kids:List Fm) (A:Option Addr) (c b o:Nat) (g:Nat→List Value) (hA:0<kids.length→A=some ⟨b,o,none⟩)
   (hg:∀i x,kids[i]? = some x→ICells I b (o+i * 3) (g i)) (hr:∀i x,kids[i]? = some x→FmRd I (g i) x) (hc:kids.length≤c) (hm:c≤9223372036854775807) :
   FmRd I [ci op,ci n,.slice A kids.length c] (.mk op n kids)
theorem FmRd.le {I I':IMap} (hI:ILe I I') {vs:List Value} {f:Fm} (h:FmRd I vs f):FmRd I' vs f:=by
 induction h with
 |mk op n kids A c b o g hA hg _ hc hm ih=>exact .mk op n kids A c b o g hA (fun i x h=>(hg i x h).le hI) ih hc hm
instance:Enc Fm where
 k:=3
 rd:=FmRd
 len:=fun h=>by cases h;rfl
 mono:=fun hI h=>h.le hI
 one:=fun h=>by cases h;rfl
theorem a2k {I:IMap} {vs:List Value} {f:Fm} (h:FmRd I vs f):∃s,vs=[ci f.op,ci f.n,s]∧RdS I s f.kids:=by
 cases h with
 |mk op n kids A c b o g hA hg hr hc hm=>exact⟨_,rfl,A,c,rfl,fun hl=>⟨b,o,hA hl,fun i x hx=>⟨g i,hg i x hx,hr i x hx⟩⟩,hc,hm⟩
open Classical in
theorem fm_in {I:IMap} {s:Value} {kids:List Fm} (op n:Int) (h:RdS I s kids):FmRd I [ci op,ci n,s] (.mk op n kids):=by
 obtain⟨A,c,rfl,hA,hc,hm⟩:=h
 rcases Nat.eq_zero_or_pos kids.length with h0|h0
 ·obtain rfl:kids=[]:=List.eq_nil_of_length_eq_zero h0;exact .mk op n [] A c 0 0 (fun _=>[]) (fun h=>absurd h (by simp)) (fun i x h=>by simp at h) (fun i x h=>by simp at h) hc hm
 ·obtain⟨b,o,rfl,hx⟩:=hA h0;refine .mk op n kids _ c b o (fun i=>if h:∃vs,∀x,kids[i]? = some x→ICells I b (o+i * 3) vs∧FmRd I vs x then h.choose else []) (fun _=>rfl) (fun i x hi=>?_) (fun i x hi=>?_) hc hm
  ·have hq:∃vs,∀x,kids[i]? = some x→ICells I b (o+i * 3) vs∧FmRd I vs x:=by
    obtain⟨vs,h1,h2⟩:=hx i x hi;exact⟨vs,fun y hy=>by rw[hi]at hy;cases hy;exact⟨h1,h2⟩⟩
   simp only[dif_pos hq]
   exact (hq.choose_spec x hi).1
  ·have hq:∃vs,∀x,kids[i]? = some x→ICells I b (o+i * 3) vs∧FmRd I vs x:=by
    obtain⟨vs,h1,h2⟩:=hx i x hi;exact⟨vs,fun y hy=>by rw[hi]at hy;cases hy;exact⟨h1,h2⟩⟩
   simp only[dif_pos hq]
   exact (hq.choose_spec x hi).2
inductive OkFm:Fm→Prop
 |mk {op n:Int} {kids:List Fm} (h1:I64 op) (h2:I64 n) (h3:∀k,k∈kids→OkFm k):OkFm (.mk op n kids)
theorem c0m {P:Program} {t ts ti:TypeId} {fs:Array Field} (ht:P.underlying t=some (.struct fs)) (hfs:fs.toList.map (fun f=>(f.type,f.offset,P.cellsOf f.type))=[(ti,0,1),(ti,1,1),(ts,2,1)]) (hc:P.cellsOf t=3)
  (hs:P.underlying ts=some (.slice t)) (hi:P.underlying ti=some (.int .i64)) {H:Type} (enc:TypeId×Value→H) (w:World) (base:Nat) (spare:Nat→Bool) (held:Bool) :
  ∀(N fuel:Nat),fuel≤N→∀(cs:List Value) (x:DataW H×List MemPlace),DataW.trod enc P w base spare held fuel t cs=some x→∃y:Fm,FmRd (Iw w) cs y∧OkFm y:=by
 intro N
 induction N with
 |zero=>
  intro fuel hf cs x h;obtain⟨_,n,hn,_⟩:=DataW.trod_struct ht h
  omega
 |succ N ih=>
  intro fuel hf cs x h;obtain⟨xs,n,hn,_,h1,h2,h3⟩:=DataW.trod_struct ht h
  have hsz:fs.size=3:=by
   have:=congrArg List.length hfs
   simpa using this
  have hq:∀(i:Nat) (hi:i<3) (q:TypeId×Nat×Nat),[(ti,0,1),(ti,1,1),(ts,2,1)][i]? = some q→∃y,DataW.trod enc P w base spare held n q.1 ((cs.drop q.2.1).take q.2.2)=some y:=fun i hi3 q hq=>by
   have hi':i<fs.size:=oM;have h4:=h3 i fs[i] (by simp[hi']);rw[List.getElem?_eq_getElem oM]at h4
   rw[←hfs,List.getElem?_map]at hq
   have h5:fs.toList[i]? = some fs[i]:=by simp[hi']
   rw[h5]at hq
   cases hq
   exact⟨_,h4⟩
  rw[hc]at h1
  obtain⟨v0,r0,rfl,l0⟩:=a0f h1;obtain⟨v1,r1,rfl,l1⟩:=a0f l0;obtain⟨v2,r2,rfl,l2⟩:=a0f l1;obtain rfl:=a2y l2;obtain⟨y0,g0⟩:=hq 0 oM _ rfl;obtain⟨y1,g1⟩:=hq 1 oM _ rfl;obtain⟨y2,g2⟩:=hq 2 oM _ rfl;obtain⟨op,e0,o0⟩:=a1M hi enc w base spare held n _ y0 g0;obtain⟨nn,e1,o1⟩:=a1M hi enc w base spare held n _ y1 g1;have e0:[v0]=[.int .i64 op]:=e0;have e1:[v1]=[.int .i64 nn]:=e1
  cases e0
  cases e1
  have g2:DataW.trod enc P w base spare held n ts [v2]=some y2:=g2
  have key:∃kids:List Fm,RdS (Iw w) v2 kids∧∀k,k∈kids→OkFm k:=by
   rcases DataW.trod_slice hs g2 with ⟨e,_⟩|⟨a,len,cap,elems,rest,n',hn',e,_,hb,hl,hm,hlen,hel,_,_⟩
   ·cases e
    exact⟨[],RdS.nil',fun k h=>by cases h⟩
   ·cases e
    obtain⟨l,k1,k2⟩:=a5u (p:=fun i y=>∃vs,(∀j u,vs[j]? = some u→w.cell? ((a.add (i * 3)).add j)=some u)∧vs.length=3∧FmRd (Iw w) vs y∧OkFm y) len (fun i hi=>by
     have h4:=hel i hi;rw[List.getElem?_eq_getElem oM,hc]at h4
     obtain⟨cs',h5,h6⟩:=Option.bind_eq_some_iff.1 h4;obtain⟨y,h7,h8⟩:=ih n' oM cs' _ h6;obtain⟨_,h9,h10⟩:=World.cells?_some h5;refine⟨y,cs',fun j u hu=>?_,h9,h7,h8⟩;have hj:j<cs'.length:=(List.getElem?_eq_some_iff.1 hu).1
     rw[h10 j oM,hu])
    subst k1;refine⟨l,⟨some a,cap,rfl,fun hp=>?_,hl,by unfold maxLen at hm;exact hm⟩,fun x hx=>?_⟩
    ·have hsp:a.spot=none:=by
      obtain⟨vs,h3,h4,_⟩:=k2 0 l[0] (List.getElem?_eq_getElem hp);have h5:=h3 0 vs[0] (List.getElem?_eq_getElem oM);unfold World.cell? at h5
      split at h5
      ·split at h5
       ·cases h5
       ·rename_i hn;simpa[Addr.add]using hn
      ·cases h5
     obtain⟨b,o,sp⟩:=a
     simp only at hsp
     subst hsp;refine⟨b,o,rfl,fun i x hi=>?_⟩;obtain⟨vs,h3,h4,h5,_⟩:=k2 i x hi;refine⟨vs,fun j u hu=>c1x ?_,h5⟩;have h6:=h3 j u hu;rw[add_lit,add_lit]at h6
     exact h6
    ·obtain⟨i,hi,rfl⟩:=List.getElem_of_mem hx;obtain⟨_,_,_,_,h3⟩:=k2 i _ (List.getElem?_eq_getElem hi);exact h3
  obtain⟨kids,k1,k2⟩:=key;exact⟨.mk op nn kids,fm_in op nn k1,.mk o0 o1 k2⟩
theorem c6X {P:Program} {t ts ti:TypeId} {fs:Array Field} (ht:P.underlying t=some (.struct fs)) (hfs:fs.toList.map (fun f=>(f.type,f.offset,P.cellsOf f.type))=[(ti,0,1),(ti,1,1),(ts,2,1)]) (hc:P.cellsOf t=3)
  (hs:P.underlying ts=some (.slice t)) (hi:P.underlying ti=some (.int .i64)):a0X P t Fm OkFm:=
 fun enc w base spare held fuel cs x h=>c0m ht hfs hc hs hi enc w base spare held fuel fuel (Nat.le_refl _) cs x h
end Go.Sx
set_option linter.all false
namespace Go.Sx
open Go
inductive Xp where
 |mk (op:Int) (name value:ByteArray) (n extra:Int) (kids:List Xp)
def Xp.op:Xp→Int | .mk o _ _ _ _ _=>o
def Xp.name:Xp→ByteArray | .mk _ s _ _ _ _=>s
def Xp.value:Xp→ByteArray | .mk _ _ s _ _ _=>s
def Xp.n:Xp→Int | .mk _ _ _ n _ _=>n
def Xp.extra:Xp→Int | .mk _ _ _ _ n _=>n
def Xp.kids:Xp→List Xp | .mk _ _ _ _ _ k=>k
def Xp.cs (x:Xp) (s:Value):List Value:=[ci x.op,.string x.name,.string x.value,ci x.n,ci x.extra,s]
inductive XpRd (I:IMap):List Value→Xp→Prop
 |mk (op:Int) (s u:ByteArray) (n e:Int) (kids:List Xp) (A:Option Addr) (c b o:Nat) (g:Nat→List Value) (hA:0<kids.length→A=some ⟨b,o,none⟩)
   (hg:∀i x,kids[i]? = some x→ICells I b (o+i * 6) (g i)) (hr:∀i x,kids[i]? = some x→XpRd I (g i) x) (hc:kids.length≤c) (hm:c≤9223372036854775807) :
   XpRd I [ci op,.string s,.string u,ci n,ci e,.slice A kids.length c] (.mk op s u n e kids)
theorem XpRd.le {I I':IMap} (hI:ILe I I') {vs:List Value} {f:Xp} (h:XpRd I vs f):XpRd I' vs f:=by
 induction h with
 |mk op s u n e kids A c b o g hA hg _ hc hm ih=>exact .mk op s u n e kids A c b o g hA (fun i x h=>(hg i x h).le hI) ih hc hm
instance:Enc Xp where
 k:=6
 rd:=XpRd
 len:=fun h=>by cases h;rfl
 mono:=fun hI h=>h.le hI
 one:=fun h=>by cases h;rfl
theorem b1v {I:IMap} {vs:List Value} {f:Xp} (h:XpRd I vs f):∃s,vs=f.cs s∧RdS I s f.kids:=by
 cases h with
 |mk op s u n e kids A c b o g hA hg hr hc hm=>exact⟨_,rfl,A,c,rfl,fun hl=>⟨b,o,hA hl,fun i x hx=>⟨g i,hg i x hx,hr i x hx⟩⟩,hc,hm⟩
open Classical in
theorem xp_in {I:IMap} {s:Value} {kids:List Xp} (op:Int) (nm vl:ByteArray) (n e:Int) (h:RdS I s kids):XpRd I [ci op,.string nm,.string vl,ci n,ci e,s] (.mk op nm vl n e kids):=by
 obtain⟨A,c,rfl,hA,hc,hm⟩:=h
 rcases Nat.eq_zero_or_pos kids.length with h0|h0
 ·obtain rfl:kids=[]:=List.eq_nil_of_length_eq_zero h0;exact .mk op nm vl n e [] A c 0 0 (fun _=>[]) (fun h=>absurd h (by simp)) (fun i x h=>by simp at h) (fun i x h=>by simp at h) hc hm
 ·obtain⟨b,o,rfl,hx⟩:=hA h0;refine .mk op nm vl n e kids _ c b o (fun i=>if h:∃vs,∀x,kids[i]? = some x→ICells I b (o+i * 6) vs∧XpRd I vs x then h.choose else []) (fun _=>rfl) (fun i x hi=>?_) (fun i x hi=>?_) hc hm
  ·have hq:∃vs,∀x,kids[i]? = some x→ICells I b (o+i * 6) vs∧XpRd I vs x:=by
    obtain⟨vs,h1,h2⟩:=hx i x hi;exact⟨vs,fun y hy=>by rw[hi]at hy;cases hy;exact⟨h1,h2⟩⟩
   simp only[dif_pos hq]
   exact (hq.choose_spec x hi).1
  ·have hq:∃vs,∀x,kids[i]? = some x→ICells I b (o+i * 6) vs∧XpRd I vs x:=by
    obtain⟨vs,h1,h2⟩:=hx i x hi;exact⟨vs,fun y hy=>by rw[hi]at hy;cases hy;exact⟨h1,h2⟩⟩
   simp only[dif_pos hq]
   exact (hq.choose_spec x hi).2
inductive OkXp:Xp→Prop
 |mk {op n e:Int} {s u:ByteArray} {kids:List Xp} (h1:I64 op) (h2:I64 n) (h4:I64 e) (h5:SmB s) (h6:SmB u) (h3:∀k,k∈kids→OkXp k):OkXp (.mk op s u n e kids)
theorem c0q {P:Program} {t ts ti tt:TypeId} {fs:Array Field} (ht:P.underlying t=some (.struct fs)) (hfs:fs.toList.map (fun f=>(f.type,f.offset,P.cellsOf f.type))=[(ti,0,1),(tt,1,1),(tt,2,1),(ti,3,1),(ti,4,1),(ts,5,1)]) (hc:P.cellsOf t=6)
  (hs:P.underlying ts=some (.slice t)) (hi:P.underlying ti=some (.int .i64)) (hst:a0X P tt ByteArray SmB) {H:Type} (enc:TypeId×Value→H) (w:World) (base:Nat) (spare:Nat→Bool) (held:Bool) :
  ∀(N fuel:Nat),fuel≤N→∀(cs:List Value) (x:DataW H×List MemPlace),DataW.trod enc P w base spare held fuel t cs=some x→∃y:Xp,XpRd (Iw w) cs y∧OkXp y:=by
 intro N
 induction N with
 |zero=>
  intro fuel hf cs x h;obtain⟨_,n,hn,_⟩:=DataW.trod_struct ht h
  omega
 |succ N ih=>
  intro fuel hf cs x h;obtain⟨xs,n,hn,_,h1,h2,h3⟩:=DataW.trod_struct ht h
  have hsz:fs.size=6:=by
   have:=congrArg List.length hfs
   simpa using this
  have hq:∀(i:Nat) (hi:i<6) (q:TypeId×Nat×Nat),[(ti,0,1),(tt,1,1),(tt,2,1),(ti,3,1),(ti,4,1),(ts,5,1)][i]? = some q→∃y,DataW.trod enc P w base spare held n q.1 ((cs.drop q.2.1).take q.2.2)=some y:=fun i hi3 q hq=>by
   have hi':i<fs.size:=oM;have h4:=h3 i fs[i] (by simp[hi']);rw[List.getElem?_eq_getElem oM]at h4
   rw[←hfs,List.getElem?_map]at hq
   have h5:fs.toList[i]? = some fs[i]:=by simp[hi']
   rw[h5]at hq
   cases hq
   exact⟨_,h4⟩
  rw[hc]at h1
  obtain⟨v0,r0,rfl,l0⟩:=a0f h1;obtain⟨v1,r1,rfl,l1⟩:=a0f l0;obtain⟨v2,r2,rfl,l2⟩:=a0f l1;obtain⟨v3,r3,rfl,l3⟩:=a0f l2;obtain⟨v4,r4,rfl,l4⟩:=a0f l3;obtain⟨v5,r5,rfl,l5⟩:=a0f l4;obtain rfl:=a2y l5;obtain⟨y0,g0⟩:=hq 0 oM _ rfl;obtain⟨y1,g1⟩:=hq 1 oM _ rfl;obtain⟨y2,g2⟩:=hq 2 oM _ rfl;obtain⟨y3,g3⟩:=hq 3 oM _ rfl;obtain⟨y4,g4⟩:=hq 4 oM _ rfl;obtain⟨y5,g5⟩:=hq 5 oM _ rfl;obtain⟨op,e0,o0⟩:=a1M hi enc w base spare held n _ y0 g0;obtain⟨nm,e1,o1⟩:=hst enc w base spare held n _ y1 g1;obtain⟨vl,e2,o2⟩:=hst enc w base spare held n _ y2 g2;obtain⟨nn,e3,o3⟩:=a1M hi enc w base spare held n _ y3 g3;obtain⟨ex,e4,o4⟩:=a1M hi enc w base spare held n _ y4 g4;have e0:[v0]=[.int .i64 op]:=e0;have e1:[v1]=[.string nm]:=e1;have e2:[v2]=[.string vl]:=e2;have e3:[v3]=[.int .i64 nn]:=e3;have e4:[v4]=[.int .i64 ex]:=e4
  cases e0
  cases e1
  cases e2
  cases e3
  cases e4
  have g2:DataW.trod enc P w base spare held n ts [v5]=some y5:=g5
  have key:∃kids:List Xp,RdS (Iw w) v5 kids∧∀k,k∈kids→OkXp k:=by
   rcases DataW.trod_slice hs g2 with ⟨e,_⟩|⟨a,len,cap,elems,rest,n',hn',e,_,hb,hl,hm,hlen,hel,_,_⟩
   ·cases e
    exact⟨[],RdS.nil',fun k h=>by cases h⟩
   ·cases e
    obtain⟨l,k1,k2⟩:=a5u (p:=fun i y=>∃vs,(∀j u,vs[j]? = some u→w.cell? ((a.add (i * 6)).add j)=some u)∧vs.length=6∧XpRd (Iw w) vs y∧OkXp y) len (fun i hi=>by
     have h4:=hel i hi;rw[List.getElem?_eq_getElem oM,hc]at h4
     obtain⟨cs',h5,h6⟩:=Option.bind_eq_some_iff.1 h4;obtain⟨y,h7,h8⟩:=ih n' oM cs' _ h6;obtain⟨_,h9,h10⟩:=World.cells?_some h5;refine⟨y,cs',fun j u hu=>?_,h9,h7,h8⟩;have hj:j<cs'.length:=(List.getElem?_eq_some_iff.1 hu).1
     rw[h10 j oM,hu])
    subst k1;refine⟨l,⟨some a,cap,rfl,fun hp=>?_,hl,by unfold maxLen at hm;exact hm⟩,fun x hx=>?_⟩
    ·have hsp:a.spot=none:=by
      obtain⟨vs,h3,h4,_⟩:=k2 0 l[0] (List.getElem?_eq_getElem hp);have h5:=h3 0 vs[0] (List.getElem?_eq_getElem oM);unfold World.cell? at h5
      split at h5
      ·split at h5
       ·cases h5
       ·rename_i hn;simpa[Addr.add]using hn
      ·cases h5
     obtain⟨b,o,sp⟩:=a
     simp only at hsp
     subst hsp;refine⟨b,o,rfl,fun i x hi=>?_⟩;obtain⟨vs,h3,h4,h5,_⟩:=k2 i x hi;refine⟨vs,fun j u hu=>c1x ?_,h5⟩;have h6:=h3 j u hu;rw[add_lit,add_lit]at h6
     exact h6
    ·obtain⟨i,hi,rfl⟩:=List.getElem_of_mem hx;obtain⟨_,_,_,_,h3⟩:=k2 i _ (List.getElem?_eq_getElem hi);exact h3
  obtain⟨kids,k1,k2⟩:=key;exact⟨.mk op nm vl nn ex kids,xp_in op nm vl nn ex k1,.mk o0 o3 o4 o1 o2 k2⟩
theorem c6Y {P:Program} {t ts ti tt:TypeId} {fs:Array Field} (ht:P.underlying t=some (.struct fs)) (hfs:fs.toList.map (fun f=>(f.type,f.offset,P.cellsOf f.type))=[(ti,0,1),(tt,1,1),(tt,2,1),(ti,3,1),(ti,4,1),(ts,5,1)]) (hc:P.cellsOf t=6)
  (hs:P.underlying ts=some (.slice t)) (hi:P.underlying ti=some (.int .i64)) (hst:a0X P tt ByteArray SmB):a0X P t Xp OkXp:=
 fun enc w base spare held fuel cs x h=>c0q ht hfs hc hs hi hst enc w base spare held fuel fuel (Nat.le_refl _) cs x h
end Go.Sx
set_option linter.all false
namespace Go.Sx
open Go
section
variable {P:Program} {ρ:Option Nat} {n:Sz} {E:Ent} {I:IMap} {L:LL} {H:List Res} {Q:Exit→Act→World→Prop} {ops:Array Oper} {K:Act→World→Prop}
variable {d ty:Nat} {pos:String} {af:Array Edge} {x y z:Operand} {κ:Type} [DecidableEq κ] {enc:κ→Value}
theorem c4L {mt kt et r:Nat} {zv u:Value} {kvs:List (κ×Value)} (hm:Res.mp r (a1A enc kvs)∈H) (hK:KeyOK P kt enc) (ht:P.underlying mt=some (.map kt et)) (hz:zvK P et=some zv) (key:κ) (hx:ev L x=some (.map (some r))) (hy:ev L y=some (enc key))
  (hu:(a4h kvs key).getD zv=u):OV P n E I L H ⟨some d,.lookup mt x y false,ty,pos,af,none⟩ u:=hu▸c8w hm hK ht hz key hx hy
theorem a9g {mt kt et r:Nat} {zv u:Value} {b:Bool} {kvs:List (κ×Value)} (hm:Res.mp r (a1A enc kvs)∈H) (hK:KeyOK P kt enc) (ht:P.underlying mt=some (.map kt et)) (hz:zvK P et=some zv) (key:κ) (hx:ev L x=some (.map (some r))) (hy:ev L y=some (enc key))
  (hu:(a4h kvs key).getD zv=u) (hb:(a4h kvs key).isSome=b):OV P n E I L H ⟨some d,.lookup mt x y true,ty,pos,af,none⟩ (.tuple #[u,.bool b]):=hu▸hb▸c4P hm hK ht hz key hx hy
theorem a2S {mt kt et r:Nat} {v:Value} {kvs:List (κ×Value)} (kvs':List (κ×Value)) (hK:KeyOK P kt enc) (ht:P.underlying mt=some (.map kt et)) (key:κ) (hx:ev L x=some (.map (some r))) (hy:ev L y=some (enc key)) (hv:ev L z=some v)
  (he:a4I kvs key v=kvs') (k:SX n E I L (.mp r (a1A enc kvs')::H) K):SX n E I L (.mp r (a1A enc kvs)::H) (one P ops Q ⟨none,.mapUpdate mt x y z,ty,pos,af,none⟩ K):=
 b6z hK ht key hx hy hv (he▸k)
theorem a5i {mt kt et:Nat} (enc:κ→Value) (ht:P.underlying mt=some (.map kt et)) (hd:Nat.blt d n.sz=true)
  (k:∀r,SX n E I ((d,.map (some r))::L) (.mp r (a1A enc [])::H) K):SX n E I L H (one P ops Q ⟨some d,.makeMap mt none,ty,pos,af,none⟩ K):=c3f ht hd k
end
def a2G {α κ:Type} (nm:α→κ) (val:α→Value) (l:List α):List (κ×Value):=l.map fun x=>(nm x,val x)
theorem b3p {α κ:Type} [DecidableEq κ] (nm:α→κ) (val:α→Value) (l:List α) (s:κ):a4h (a2G nm val l) s=(l.find? fun x=>decide (nm x=s)).map val:=by
 induction l with
 |nil=>rfl
 |cons x l ih=>
  simp only[a2G,List.map_cons,a4h,List.find?_cons]
  by_cases h:nm x=s
  ·simp[h]
  ·simp only[h,if_false,decide_false];exact ih
theorem b0E {α κ:Type} [DecidableEq κ] (nm:α→κ) (val:α→Value) (l:List α) (x:α) (h:(l.find? fun y=>decide (nm y=nm x))=none):a4I (a2G nm val l) (nm x) (val x)=a2G nm val (l++[x]):=by
 have h1:a2z (a2G nm val l) (nm x) 0=none:=by
  have:=b4M (a2G nm val l) (nm x) 0;rw[b3p,h]at this
  cases hm:a2z (a2G nm val l) (nm x) 0 with
  |none=>rfl
  |some q=>rw[hm]at this;simp at this
 rw[b2h h1]
 simp[a2G]
def d6H {α κ:Type} [DecidableEq κ] (nm:α→κ) (val:α→Bool) (l:List α) (s:κ):Bool:=match l.find? fun x=>decide (nm x=s) with|some x=>val x|none=>false
theorem d0Y {α κ:Type} [DecidableEq κ] (nm:α→κ) (val:α→Bool) (l:List α) (s:κ):(a4h (a2G nm (fun x=>.bool (val x)) l) s).getD (.bool false) = .bool (d6H nm val l s):=by
 rw[b3p,d6H]
 cases l.find? _<;>rfl
def hit {α κ:Type} [DecidableEq κ] (nm:α→κ) (l:List α) (s:κ):Bool:=(l.find? fun x=>decide (nm x=s)).isSome
theorem c6C {α κ:Type} [DecidableEq κ] (nm:α→κ) (val:α→Value) (l:List α) (s:κ):(a4h (a2G nm val l) s).isSome=hit nm l s:=by
 rw[b3p,hit];cases l.find? _<;>rfl
theorem a9w {α κ:Type} [DecidableEq κ] (nm:α→κ) (l:List α) (s:κ):(a4h (a2G nm (fun _=>.bool true) l) s).getD (.bool false) = .bool (hit nm l s):=by
 rw[b3p,hit];cases l.find? _<;>rfl
theorem a7u {α κ:Type} [DecidableEq κ] {nm:α→κ} {l:List α} {s:κ} (h:hit nm l s=false):(l.find? fun x=>decide (nm x=s))=none:=by
 simpa[hit]using h
theorem c8Y {α κ:Type} [DecidableEq κ] (nm:α→κ) (l:List α) (s:κ):hit nm l s=l.any fun x=>decide (nm x=s):=by
 rw[hit,Bool.eq_iff_iff,List.find?_isSome,List.any_eq_true]
def a3v {α:Type} (f:List α→α→Bool) (l:List α) (n:Nat):Bool:=(List.range n).all fun i=>match l[i]? with|some x=>f (l.take i) x|none=>true
theorem a1r {α:Type} {f:List α→α→Bool} {l:List α} {i:Nat} (h:a3v f l i=true) (hi:i<l.length) (hf:f (l.take i) l[i]=true):a3v f l (i+1)=true:=
 a7d h (by simp[hi,hf])
theorem a1g {α:Type} {f:List α→α→Bool} {l:List α} {i:Nat} (hi:i<l.length) (hf:f (l.take i) l[i]=false):a3v f l l.length=false:=
 a9S (p:=fun i=>match l[i]? with|some x=>f (l.take i) x|none=>true) hi (by simp[hi,hf])
theorem a0c {α:Type} {l:List α} {i:Nat} (hi:i<l.length):l.take i++[l[i]]=l.take (i+1):=by
 rw[List.take_succ_eq_append_getElem hi]
end Go.Sx
set_option linter.all false
namespace Go.Sx
open Go
section
variable {P:Program} {ρ:Option Nat} {n:Sz} {E:Ent} {I:IMap} {L:LL} {H:List Res} {Q:Exit→Act→World→Prop} {ops:Array Oper} {K:Act→World→Prop}
variable {d ty:Nat} {pos:String} {af:Array Edge} {x y z:Operand}
theorem RdS.of_row {α:Type} [Enc α] {h:Option Nat→Option Obj} {I:IMap} {v:Value} {t k m:Nat} {xs:List Value} {l:List α} (hk:k=Enc.k α) (hm:m=l.length) (hF:Flat I xs l) (hr:IsRow h v t k m xs)
  {I':IMap} (hI:ILe I I') (hB:∀g o,a3z v=some g→h (some g)=some o→I' g=some o):RdS I' v l:=by
 obtain⟨h1,h2⟩:=hr;subst hk hm
 rcases h2 with ⟨rfl,h0⟩|⟨g,cap,cur,rfl,hh,hn,h4,hl,h3⟩
 ·have:l=[]:=List.eq_nil_of_length_eq_zero h0;subst this;exact RdS.nil'
 ·have hp:=hB g _ rfl hh;refine⟨_,cap,rfl,fun _=>⟨g,0,rfl,fun i x hi=>?_⟩,hn,by unfold maxLen at h4;exact h4⟩;obtain⟨vs,g1,g2⟩:=hF.at_ i x hi;refine⟨vs,fun j u hu=>⟨_,t,(0,0),hp,?_⟩,Enc.mono hI g1⟩;have h5:=g2 j u hu;rw[Nat.zero_add];rw[←h3,List.getElem?_take]at h5
  split at h5
  ·simpa using h5
  ·cases h5
theorem b0P {α:Type} [Enc α] {rv v:Value} {t k m:Nat} {xs:List Value} {l:List α} {fo:Operand} {as_:List Operand} {ats:Array TypeId} {f:FuncId} {args:List Value}
  (hm:Res.row rv t k m xs∈H) (hk:k=Enc.k α) (hml:m=l.length) (hF:Flat I xs l)
  (hc:∀I2,ILe I I2→RdS I2 rv l→FnV P f args.toArray I2 v) (h:a1w L fo as_=some (f,args)) (hd:Nat.blt d n.sz=true)
  (kk:SX n E I ((d,v)::L) H K) :
  SX n E I L H (one P ops Q ⟨some d,.call { callee:=.value fo,args:=as_.toArray,argTypes:=ats },ty,pos,af,none⟩ K):=by
 intro a w s mm;have hrow:IsRow (b4L w) rv t k m xs:=mm.holds _ hm
 let I2:IMap:=fun b=>if a3z rv=some b then w.heap[b]? else I b
 have hle:ILe I I2:=fun b o hb=>by
  show (if a3z rv=some b then w.heap[b]? else I b)=some o
  split
  ·exact mm.con b o hb
  ·exact hb
 have hR:RdS I2 rv l:=RdS.of_row hk hml hF hrow hle fun g o hg ho=>by
  show (if a3z rv=some g then w.heap[g]? else I g)=some o
  rw[if_pos hg];exact ho
 have m2:Mem ⟨[],I2,w⟩ I2 [] w:=⟨Upd.refl _ _,fun b o hb=>by
  have hb':(if a3z rv=some b then w.heap[b]? else I b)=some o:=hb
  split at hb'
  ·exact hb'
  ·exact mm.con b o hb',ILe.refl _,fun b hb=>.inl hb,fun _ h=>(by cases h),fun _ h=>(by cases h),List.nodup_nil⟩
 have back:∀w',Mem ⟨[],I2,w⟩ I2 [] w'→Mem E I H w':=fun w' m'=>
  mm.other m'.upd.os m'.upd.tape m'.upd.output m'.upd.size (fun k hk=>m'.upd.block k hk (by simp))
 unfold one;rw[if_pos (by rfl)];refine a8l ?_;have h1:=(hc I2 hle hR).go w m2;unfold After at h1 ⊢
 rw[a7W s h ⟨some d,.call { callee:=.value fo,args:=as_.toArray,argTypes:=ats },ty,pos,af,none⟩ rfl (ats:=ats)]
 have key:∀e w'',a9p ⟨[],I2,w⟩ (fun u I' H'=>u=v∧I'=I2∧H'=[]) e w''→(match e with | .returned v=>K (a.put (some d) v) w''|_=>False):=by
  rintro e w'' ⟨u,I',H',rfl,hm',rfl,rfl,rfl⟩;exact kk _ _ (s.put hd) (back _ hm')
 split at h1
 ·rename_i v w' hr;exact key _ _ h1
 ·rename_i f' args' w' hr;exact Calls.mono h1 key
 ·rename_i l f' tmps assign body w' hr;exact RoundIn.mono h1 key
 ·exact h1.elim
theorem a2q {α:Type} [Enc α] {tt e k nn bytes:Nat} {v u:Value} {zs xs:List Value} {l:List α} (hu:RdS I u l) (hk:k=Enc.k α) (he:P.underlying tt=some (.slice e)) (hb:a2j P e=some (zs,k,bytes)) (hzs:zs.length=k) (hk0:Nat.blt 0 k=true)
  (hx:ev L x=some v) (hy:ev L y=some u) (hroom:(nn+l.length) * bytes≤140737488355328) (hlen:nn+l.length≤9223372036854775807) (hd:Nat.blt d n.sz=true)
  (kk:∀v' news,Flat I news l→SX n E I ((d,v')::L) (.row v' e k (nn+l.length) (xs++news)::H) K):SX n E I L (.row v e k nn xs::H) (one P ops Q ⟨some d,.call { callee:=.builtin .append,args:=#[x,y],argTypes:=#[tt,tt] },ty,pos,af,none⟩ K):=by
 obtain⟨A,c,rfl,hA,hlc,hcm⟩:=hu;subst hk
 rcases Nat.eq_zero_or_pos l.length with h0|hpos
 ·obtain rfl:l=[]:=List.eq_nil_of_length_eq_zero h0;exact a9A (news:=[]) he hb hzs hk0 hx hy (by simp) rfl (fun h=>absurd h (by simp)) hroom hlen hd fun v'=>kk v' [] .nil
 ·obtain⟨b,o,rfl,hcell⟩:=hA hpos;obtain⟨ws,hws,hic⟩:=Flat.of_rd l o hcell;exact a9A (news:=ws) he hb hzs hk0 hx hy hws.len hws.all (fun _=>⟨b,o,rfl,fun w mm j u hu=>(hic j u hu).at_ mm.con⟩) hroom hlen hd fun v'=>kk v' ws hws
end
section
variable {P:Program} {ρ:Option Nat} {n:Sz} {E:Ent} {I:IMap} {L:LL} {H:List Res} {Q:Exit→Act→World→Prop} {ops:Array Oper} {K:Act→World→Prop}
variable {α β γ:Type} {d ty:Nat} {pos:String} {af:Array Edge} {x y z:Operand}
def c8F (n:Sz) (E:Ent) (Ix:α→β→IMap) (Lx:α→β→LL) (Hx:α→β→List Res) (p:α→β→Prop) (μ:α→β→Nat) (x:α) (y:β):Act→World→Prop:=
 c5n n E (fun q:α×β=>Ix q.1 q.2) (fun q=>Lx q.1 q.2) (fun q=>Hx q.1 q.2) (fun q=>p q.1 q.2) (fun q=>μ q.1 q.2) (x,y)
def c8G (n:Sz) (E:Ent) (Ix:α→β→γ→IMap) (Lx:α→β→γ→LL) (Hx:α→β→γ→List Res) (p:α→β→γ→Prop) (μ:α→β→γ→Nat) (x:α) (y:β) (z:γ):Act→World→Prop:=
 c5n n E (fun q:α×β×γ=>Ix q.1 q.2.1 q.2.2) (fun q=>Lx q.1 q.2.1 q.2.2) (fun q=>Hx q.1 q.2.1 q.2.2) (fun q=>p q.1 q.2.1 q.2.2) (fun q=>μ q.1 q.2.1 q.2.2) (x,y,z)
theorem a0B (x0:α) (y0:β) (Ix:α→β→IMap) (Lx:α→β→LL) (Hx:α→β→List Res) (p:α→β→Prop) (μ:α→β→Nat) {c:Code}
  (h0:p x0 y0) (hI:Ix x0 y0=I) (hL:Sub (Lx x0 y0) L) (hH:Hx x0 y0=H)
  (round:∀x y,p x y→SX n E (Ix x y) (Lx x y) (Hx x y) (c.wq ρ P (Exit.then (c8F n E Ix Lx Hx p μ x y) Q))):SX n E I L H ((Code.loop c).wq ρ P Q):=
 a0x (α:=α×β) (x0,y0) _ _ _ (fun q=>p q.1 q.2) (fun q=>μ q.1 q.2) h0 hI hL hH fun q hq=>round q.1 q.2 hq
theorem a0o {Ix:α→β→IMap} {Lx:α→β→LL} {Hx:α→β→List Res} {p:α→β→Prop} {μ:α→β→Nat} {x:α} {y:β} (x':α) (y':β) (hp:p x' y') (hμ:μ x' y'<μ x y)
  (hI:Ix x' y'=I) (hL:Sub (Lx x' y') L) (hH:Hx x' y'=H):SX n E I L H (c8F n E Ix Lx Hx p μ x y):=
 a0w (α:=α×β) (x',y') hp hμ hI hL hH
theorem a4d (x0:α) (y0:β) (z0:γ) (Ix:α→β→γ→IMap) (Lx:α→β→γ→LL) (Hx:α→β→γ→List Res) (p:α→β→γ→Prop) (μ:α→β→γ→Nat) {c:Code}
  (h0:p x0 y0 z0) (hI:Ix x0 y0 z0=I) (hL:Sub (Lx x0 y0 z0) L) (hH:Hx x0 y0 z0=H)
  (round:∀x y z,p x y z→SX n E (Ix x y z) (Lx x y z) (Hx x y z) (c.wq ρ P (Exit.then (c8G n E Ix Lx Hx p μ x y z) Q))):SX n E I L H ((Code.loop c).wq ρ P Q):=
 a0x (α:=α×β×γ) (x0,y0,z0) _ _ _ (fun q=>p q.1 q.2.1 q.2.2) (fun q=>μ q.1 q.2.1 q.2.2) h0 hI hL hH fun q hq=>round q.1 q.2.1 q.2.2 hq
theorem a2n {Ix:α→β→γ→IMap} {Lx:α→β→γ→LL} {Hx:α→β→γ→List Res} {p:α→β→γ→Prop} {μ:α→β→γ→Nat} {x:α} {y:β} {z:γ} (x':α) (y':β) (z':γ) (hp:p x' y' z') (hμ:μ x' y' z'<μ x y z)
  (hI:Ix x' y' z'=I) (hL:Sub (Lx x' y' z') L) (hH:Hx x' y' z'=H):SX n E I L H (c8G n E Ix Lx Hx p μ x y z):=
 a0w (α:=α×β×γ) (x',y',z') hp hμ hI hL hH
theorem a0O {tt e k nn m bytes:Nat} {v u:Value} {zs xs ys:List Value} (he:P.underlying tt=some (.slice e)) (hb:a2j P e=some (zs,k,bytes)) (hzs:zs.length=k) (hk0:Nat.blt 0 k=true) (h1:ys.all (·.oneCell')=true)
  (hx:ev L x=some v) (hy:ev L y=some u) (hroom:(nn+m) * bytes≤140737488355328) (hlen:nn+m≤9223372036854775807) (hd:Nat.blt d n.sz=true)
  (kk:∀v',SX n E I ((d,v')::L) (.row v' e k (nn+m) (xs++ys) :: .row u e k m ys::H) K):SX n E I L (.row v e k nn xs :: .row u e k m ys::H) (one P ops Q ⟨some d,.call { callee:=.builtin .append,args:=#[x,y],argTypes:=#[tt,tt] },ty,pos,af,none⟩ K):=by
 refine c4v (p:=∃h,IsRow h u e k m ys) (fun w mm=>⟨_,mm.holds _ (List.mem_cons_of_mem _ (List.mem_cons_self ..))⟩) fun ⟨h,hr⟩=>?_
 obtain⟨hl,hr⟩:=hr
 rcases hr with ⟨rfl,rfl⟩|⟨g,cap,cur,rfl,_⟩
 ·exact a9A (news:=ys) he hb hzs hk0 hx hy hl h1 (fun h=>absurd h (by simp)) hroom hlen hd kk
 ·refine a9A (news:=ys) he hb hzs hk0 hx hy hl h1 (fun _=>⟨g,0,rfl,fun w mm j u hu=>?_⟩) hroom hlen hd kk;obtain⟨_,h2⟩:=mm.holds (.row (.slice (some ⟨g,0,none⟩) m cap) e k m ys) (List.mem_cons_of_mem _ (List.mem_cons_self ..))
  rcases h2 with ⟨h2,_⟩|⟨g',cap',cur',h2,h3,_,_,_,h4⟩
  ·cases h2
  ·cases h2
   rw[Nat.zero_add];have h5:w.heap[g]? = some (.cells cur' e (0,0)):=h3;rw[cell_of_row w g j cur' e _ h5];rw[←h4,List.getElem?_take]at hu
   split at hu
   ·simpa using hu
   ·cases hu
end
theorem RdS.lenLe {α:Type} [Enc α] {I:IMap} {v:Value} {l:List α} (h:RdS I v l):l.length≤9223372036854775807:=by obtain⟨A,c,_,_,h1,h2⟩:=h;omega
end Go.Sx
set_option linter.all false
namespace Go.Sx
open Go
def b5c (P:Program) (t:TypeId) (xs:List Value) (off:Nat):Option Value:=
 match tyK P t with
 |some (true,k)=>some (.agg ((xs.drop off).take k).toArray)
 |some (false,_)=>xs[off]?
 |none=>none
def d6F (P:Program) (eq:TypeId→Value→Value→Option Bool) (xs ys:List Value):List Field→Option Bool
 | []=>some true
 | f :: fs => if f.name = "_" then none else match b5c P f.type xs f.offset, b5c P f.type ys f.offset with
  |some a,some b=>match eq f.type a b,d6F P eq xs ys fs with
   |some r,some q=>some (r&&q)
   |_,_=>none
  |_,_=>none
def eqV (P:Program):Nat→TypeId→Value→Value→Option Bool
 |0,_,_,_=>none
 |d+1,t,x,y=>match P.underlying t with
  |some .bool=>match x,y with
   |.bool a,.bool b=>some (a == b)
   |_,_=>none
  |some (.int _)=>match x,y with
   |.int k a,.int k' b=>if k=k' then some (decide (a=b)) else none
   |_,_=>none
  |some .string=>match x,y with
   |.string a,.string b=>some (decide (a=b))
   |_,_=>none
  |some (.struct fs)=>match x,y with
   |.agg xs,.agg ys=>if P.stoodInHeld t=true then none else d6F P (eqV P d) xs.toList ys.toList fs.toList
   |_,_=>none
  |_=>none
section
variable {P:Program}
theorem a6c {t:TypeId} {xs:Array Value} {off:Nat} {v:Value} (h:b5c P t xs.toList off=some v) (w:World):(part t xs off).run P w = .ok v w:=by
 unfold b5c at h
 split at h
 ·rename_i k hk
  cases h
  have e:xs.extract off (off+k)=((xs.toList.drop off).take k).toArray:=by
   apply Array.toList_inj.1
   rw[Array.toList_extract]
   simp[List.extract]
  simp[part,(a1a hk w).1,(a1a hk w).2,e]
 ·rename_i k hk
  have h':xs[off]? = some v:=by simpa using h
  simp[part,(a1a hk w).1,h']
 ·cases h
theorem c5R {d:Nat} {xs ys:Array Value} {eq:TypeId→Value→Value→Option Bool} (he:∀t x y b,eq t x y=some b→∀w,(Op.equalIn d t x y).run P w = .ok b w) :
  ∀(fs:List Field) (b:Bool),d6F P eq xs.toList ys.toList fs=some b→∀w,(Op.eqFields d xs ys fs).run P w = .ok b w:=by
 intro fs
 induction fs with
 |nil=>intro b h w;cases h;rfl
 |cons f fs ih=>
  intro b h w
  simp only[d6F]at h
  split at h
  ·cases h
  ·rename_i hn
   split at h
   ·rename_i a c h1 h2
    split at h
    ·rename_i r q h3 h4
     cases h
     have e1:=a6c h1 w;have e2:=a6c h2 w;have e3:=he _ _ _ _ h3 w;have e4:=ih q h4 w
     simp only[Op.eqFields,ne_eq,hn,not_false_eq_true,if_true,Sem.run_bind,e1,e2,e3,Result.andThen_ok]
     cases r
     ·rfl
     ·simpa using e4
    ·cases h
   ·cases h
theorem b2W:∀(d:Nat) (t:TypeId) (x y:Value) (b:Bool),eqV P d t x y=some b→∀d',d≤d'→∀w,(Op.equalIn d' t x y).run P w = .ok b w:=by
 intro d
 induction d with
 |zero=>intro t x y b h;cases h
 |succ d ih=>
  intro t x y b h d' hd w;obtain⟨d',rfl⟩:∃q,d'=q+1:=⟨d'-1,oM⟩
  simp only[eqV]at h
  split at h
  ·rename_i hu
   split at h
   ·cases h;exact run_equalIn_bool w d' t _ _ hu
   ·cases h
  ·rename_i k hu
   split at h
   ·split at h
    ·rename_i hk;subst hk;cases h;rw[run_equalIn_int w d' t _ _ _ _ hu];congr 1
    ·cases h
   ·cases h
  ·rename_i hu
   split at h
   ·cases h;rw[run_equalIn_string w d' t _ _ hu,a8b]
   ·cases h
  ·rename_i fs hu
   split at h
   ·rename_i xs ys
    split at h
    ·cases h
    ·rename_i hs
     have hf:P.fieldsOf t=fs:=by simp[Program.fieldsOf,hu]
     rw[run_equalIn_struct w d' t xs ys (by rw[hf];exact hu) (by simpa using hs),hf];exact c5R (fun t x y b h w=>ih t x y b h d' oM w) fs.toList b h w
   ·cases h
  ·cases h
variable {ρ:Option Nat} {n:Sz} {E:Ent} {I I':IMap} {L:LL} {H:List Res} {Q:Exit→Act→World→Prop} {ops:Array Oper} {K:Act→World→Prop} {N:Act→World→Prop}
variable {α β γ:Type} {d ty tx tyy:Nat} {pos:String} {af:Array Edge} {x y z:Operand} {i:Int}
theorem b1n {xs ys:List Value} {b:Bool} (hg:P.eqGuardType P.depth tx=false) (he:eqV P 9 tx (.agg xs.toArray) (.agg ys.toArray)=some b) (hx:ev L x=some (.agg xs.toArray)) (hy:ev L y=some (.agg ys.toArray)) :
  OV P n E I L H ⟨some d,.binOp .eql tx x y tyy,ty,pos,af,none⟩ (.bool b):=fun a w st _=>by
 simp[execOp,st.ev hx,st.ev hy,run_eqGuard_agg w _ _ _ _ _ _ hg,run_eql_struct,b2W 9 _ _ _ _ he 10000 oM w]
theorem d2V {xs ys:List Value} {b:Bool} (hg:P.eqGuardType P.depth tx=false) (he:eqV P 9 tx (.agg xs.toArray) (.agg ys.toArray)=some b) (hx:ev L x=some (.agg xs.toArray)) (hy:ev L y=some (.agg ys.toArray)) :
  OV P n E I L H ⟨some d,.binOp .neq tx x y tyy,ty,pos,af,none⟩ (.bool (!b)):=fun a w st _=>by
 simp[execOp,st.ev hx,st.ev hy,run_eqGuard_agg w _ _ _ _ _ _ hg,run_neq_struct,b2W 9 _ _ _ _ he 10000 oM w]
theorem d6c {cs:List Value} {tt e kk m:Nat} {v:Value} (he:c8O P tt=some (m,e,kk)) (hb:tyK P e=some (false,1)) (hx:ev L x=some (.agg cs.toArray)) (hy:ev L y=some (.int .i64 i)) (q:Nat) (hq:i=(q:Int)) (hlt:q<m) (hv:cs[q]? = some v)
  : OV P n E I L H ⟨some d,.index tt x y,ty,pos,af,none⟩ v:=fun a w st _=>by
 obtain⟨h1,bb,h2⟩:=a9W he;subst hq;have hlt':(q:Int)<(m:Int):=oM;have hk:kk=1:=by rw[hb]at h2;cases h2;rfl
 subst hk
 simp[execOp,st.ev hx,st.ev hy,Instr.index,asIntOf,run_underlying h1,(a1a hb w).1,(a1a hb w).2,hlt,hlt',part,asAgg,hv]
theorem b9h {tt e kk m:Nat} {zs cs:List Value} {ps:List (Nat×Operand)} {vs:List (Nat×Value)} (he:c8O P tt=some (m,e,kk)) (hz:a1o P tt=some zs) (hv:evp L ps=some vs) (hf:b6e (fun i=>some (i * kk,kk)) vs zs=some cs) :
  OV P n E I L H ⟨some d,.build tt ps.toArray,ty,pos,af,none⟩ (.agg cs.toArray):=fun a w st _=>by
 obtain⟨z,h1,h2⟩:=a6C hz w;obtain⟨h3,bb,h4⟩:=a9W he;have hparts:(ps.toArray.map fun (i,x)=>(i,a.eval x)).toList=vs:=by simpa using b2X st ps vs hv
 have hfill:=b6f _ vs zs cs hf
 simp only[execOp,Instr.build,Sem.run_bind,h1,Result.andThen_ok,run_underlying h3,(a1a h4 w).2,hparts,h2,hfill]
 rfl
theorem d6a {s t:ByteArray} {ats:Array TypeId} (hx:ev L x=some (.string s)) (hy:ev L y=some (.string t)):OV P n E I L H ⟨some d,.call { callee:=.builtin .min,args:=#[x,y],argTypes:=ats },ty,pos,af,none⟩ (.string (if (sLt s t||decide (s=t))=true then s else t)):=fun a w st _=>by
 simp[execOp,st.ev hx,st.ev hy,resolve,invoke,builtin,Builtin.min_,Builtin.min2,Op.stringOp,asBool,a8b,sLt]
theorem d5Z {s t:ByteArray} {ats:Array TypeId} (hx:ev L x=some (.string s)) (hy:ev L y=some (.string t)):OV P n E I L H ⟨some d,.call { callee:=.builtin .max,args:=#[x,y],argTypes:=ats },ty,pos,af,none⟩ (.string (if (!sLt s t)=true then s else t)):=fun a w st _=>by
 simp[execOp,st.ev hx,st.ev hy,resolve,invoke,builtin,Builtin.max_,Builtin.max2,Op.stringOp,asBool,a8b,sLt]
theorem a5L {i j:Int} {ats:Array TypeId} (hx:ev L x=some (.int .i64 i)) (hy:ev L y=some (.int .i64 j)):OV P n E I L H ⟨some d,.call { callee:=.builtin .max,args:=#[x,y],argTypes:=ats },ty,pos,af,none⟩ (.int .i64 (if j>i then j else i)):=fun a w st _=>by
 simp[execOp,st.ev hx,st.ev hy,resolve,invoke,builtin,Builtin.max_,Builtin.max2]
theorem a8h {i j:Int} {ats:Array TypeId} (hx:ev L x=some (.int .i64 i)) (hy:ev L y=some (.int .i64 j)):OV P n E I L H ⟨some d,.call { callee:=.builtin .min,args:=#[x,y],argTypes:=ats },ty,pos,af,none⟩ (.int .i64 (if j<i then j else i)):=fun a w st _=>by
 simp[execOp,st.ev hx,st.ev hy,resolve,invoke,builtin,Builtin.min_,Builtin.min2]
def d3k (n:Sz) (E:Ent) (Ix:α→β→IMap) (Lx:α→β→LL) (Hx:α→β→List Res) (p:α→β→Prop) (a:Act) (w:World):Prop:=∃x y,p x y∧St n a (Lx x y)∧Mem E (Ix x y) (Hx x y) w
theorem b0e {Ix:α→β→IMap} {Lx:α→β→LL} {Hx:α→β→List Res} {p:α→β→Prop} {c:Code}
  (h1:SX n E I L H (c.wq ρ P (Exit.then (d3k n E Ix Lx Hx p) Q))) (h2:∀x y,p x y→SX n E (Ix x y) (Lx x y) (Hx x y) N):SX n E I L H (c.wq ρ P (Exit.then N Q)):=fun a w s m=>
 a3n (fun e a w q=>by cases e<;>first|exact q|(obtain⟨x,y,hp,hs,hm⟩:=q;exact h2 x y hp a w hs hm)) (h1 a w s m)
theorem a3G {Ix:α→β→IMap} {Lx:α→β→LL} {Hx:α→β→List Res} {p:α→β→Prop} (x:α) (y:β) (hp:p x y) (hL:Sub (Lx x y) L) (hH:Hx x y=H) (hI:Ix x y=I) :
  SX n E I L H (d3k n E Ix Lx Hx p):=fun _ _ s m=>⟨x,y,hp,s.sub hL,by rw[hH,hI];exact m⟩
def d3l (n:Sz) (E:Ent) (Ix:α→β→γ→IMap) (Lx:α→β→γ→LL) (Hx:α→β→γ→List Res) (p:α→β→γ→Prop) (a:Act) (w:World):Prop:=∃x y z,p x y z∧St n a (Lx x y z)∧Mem E (Ix x y z) (Hx x y z) w
theorem c1r {Ix:α→β→γ→IMap} {Lx:α→β→γ→LL} {Hx:α→β→γ→List Res} {p:α→β→γ→Prop} {c:Code}
  (h1:SX n E I L H (c.wq ρ P (Exit.then (d3l n E Ix Lx Hx p) Q))) (h2:∀x y z,p x y z→SX n E (Ix x y z) (Lx x y z) (Hx x y z) N):SX n E I L H (c.wq ρ P (Exit.then N Q)):=fun a w s m=>
 a3n (fun e a w q=>by cases e<;>first|exact q|(obtain⟨x,y,z,hp,hs,hm⟩:=q;exact h2 x y z hp a w hs hm)) (h1 a w s m)
theorem a5B {Ix:α→β→γ→IMap} {Lx:α→β→γ→LL} {Hx:α→β→γ→List Res} {p:α→β→γ→Prop} (x:α) (y:β) (z:γ) (hp:p x y z) (hL:Sub (Lx x y z) L) (hH:Hx x y z=H) (hI:Ix x y z=I) :
  SX n E I L H (d3l n E Ix Lx Hx p):=fun _ _ s m=>⟨x,y,z,hp,s.sub hL,by rw[hH,hI];exact m⟩
end
end Go.Sx
set_option linter.all false
namespace Go.Sx
open Go
def b1U (p:ByteArray×ByteArray):Value:=.agg #[.string p.1,.string p.2]
def a9G (P:Program) (kt:TypeId):Bool:=match P.underlying kt with
 |some (.struct fs)=>match fs.toList with
  | [f, g] => decide (tyK P f.type = some (false, 1)) && (decide (tyK P g.type = some (false, 1)) && (decide (f.offset = 0) && (decide (g.offset = 1) && (decide (f.name ≠ "_") && (decide (g.name ≠ "_") && ((match P.underlying f.type with | some .string => true | _ => false) && (match P.underlying g.type with | some .string => true | _ => false)))))))
  |_=>false
 |_=>false
theorem a9f {P : Program} {kt : TypeId} (h : a9G P kt = true) : ∃ fs f g, P.underlying kt = some (.struct fs) ∧ fs.toList = [f, g] ∧ tyK P f.type = some (false, 1) ∧ tyK P g.type = some (false, 1) ∧ f.offset = 0 ∧ g.offset = 1 ∧ f.name ≠ "_" ∧ g.name ≠ "_" ∧
  P.underlying f.type=some .string∧P.underlying g.type=some .string:=by
 unfold a9G at h
 split at h
 ·rename_i fs hfs
  split at h
  ·rename_i f g hl
   simp only[Bool.and_eq_true,decide_eq_true_eq]at h
   obtain⟨h1,h2,h3,h4,h5,h6,h7,h8⟩:=h;refine⟨fs,f,g,hfs,hl,h1,h2,h3,h4,h5,h6,?_,?_⟩
   ·split at h7
    ·assumption
    ·cases h7
   ·split at h8
    ·assumption
    ·cases h8
  ·cases h
 ·cases h
theorem b8f {P:Program} {kt:TypeId} (h:a9G P kt=true) (he:∀p q,eqV P 9 kt (b1U p) (b1U q)=some (decide (p=q))):KeyOK P kt b1U where
 find:=by
  obtain⟨fs,f,g,h1,_⟩:=a9f h;intro w k es kvs hes
  have key:∀(es:List MapEntry) (kvs:List ((ByteArray×ByteArray)×Value)) (i:Nat),es.map (fun e=>(e.key,e.val))=a1A b1U kvs→(Instr.findAsking kt (b1U k) es i).run P w = .ok (a2z kvs k i) w:=by
   intro es
   induction es with
   |nil=>intro kvs i he;cases kvs<;>simp_all [a1A,Instr.findAsking,a2z]
   |cons e es ih=>
    intro kvs i hes
    cases kvs with
    |nil=>simp[a1A]at hes
    |cons p kvs=>
     obtain⟨k',v⟩:=p
     simp only[List.map_cons,a1A,List.cons.injEq,Prod.mk.injEq]at hes
     obtain⟨⟨h1,h2⟩,h3⟩:=hes;have hr:=b2W (P:=P) 9 kt _ _ _ (he k k') 10000 oM w
     simp only[Instr.findAsking,h1,Sem.run_bind,Op.equal,Op.maxDepth,hr,Result.andThen_ok]
     by_cases hk:k'=k
     ·subst hk;simp[a2z,h2]
     ·have:¬k=k':=fun e=>hk e.symm
      simp only[this,decide_false,Bool.false_eq_true,if_false,a2z,if_neg hk]
      exact ih kvs (i+1) h3
  simp only[Instr.findKey,Sem.run_bind,run_underlying h1,Result.andThen_ok]
  cases es with
  |nil=>cases kvs<;>simp_all [a1A,Instr.findNow,a2z]
  |cons e es=>
   have:Instr.findNow (.struct fs) (b1U k) (e::es) 0=none:=by simp[Instr.findNow,b1U,Instr.sameNow]
   simp only[this]
   exact key _ kvs 0 hes
 check:=by
  obtain⟨fs,f,g,h1,h2,h3,h4,h5,h6,h7,h8,h9,h10⟩:=a9f h;intro w b k
  show (Instr.checkKey b (9999+1) kt (b1U k)).run P w=_
  rw[Instr.checkKey];have e1:(part f.type #[Value.string k.1,Value.string k.2] f.offset).run P w = .ok (.string k.1) w:=a6c (by simp[b5c,h3,h5]) w;have e2:(part g.type #[Value.string k.1,Value.string k.2] g.offset).run P w = .ok (.string k.2) w:=a6c (by simp[b5c,h4,h6]) w;have c1:(Instr.checkKey b (9998+1) f.type (.string k.1)).run P w = .ok () w:=by rw[Instr.checkKey];simp[run_underlying h9]
  have c2:(Instr.checkKey b (9998+1) g.type (.string k.2)).run P w = .ok () w:=by rw[Instr.checkKey];simp[run_underlying h10]
  simp only[b1U,Sem.run_bind,run_underlying h1,Result.andThen_ok]
  rw[←Array.forIn_toList,h2]
  simp only[List.forIn_cons,List.forIn_nil,ne_eq,h7,h8,not_false_eq_true,if_true,Sem.run_bind,Sem.run_pure,Result.andThen_ok,e1,e2,c1,c2]
 same:=by
  intro k
  show Instr.sameBits (9999+1) (b1U k) (b1U k)=true
  have hs:∀s:ByteArray,(s == s)=true:=fun s=>by rw[b7v];simp
  simp only[b1U,Instr.sameBits]
  simp[Instr.sameBits,hs]
theorem a7C {κ:Type} [DecidableEq κ] (kvs:List (κ×Value)) (k s:κ) (v:Value):a4h (a4I kvs k v) s=if k=s then some v else a4h kvs s:=by
 induction kvs with
 |nil=>simp[a4I,a4h]
 |cons p r ih=>
  obtain⟨k',u⟩:=p
  simp only[a4I]
  by_cases h:k'=k
  ·subst h
   simp only[if_true,a4h]
   split<;>rfl
  ·simp only[h,if_false,a4h,ih]
   by_cases h2:k'=s
   ·subst h2;have:¬k=k':=fun e=>h e.symm
    simp[this]
   ·simp[h2]
section
variable {P:Program} {ρ:Option Nat} {n:Sz} {E:Ent} {I:IMap} {L:LL} {H:List Res} {Q:Exit→Act→World→Prop} {ops:Array Oper} {K:Act→World→Prop} {w0:World}
variable {d ty:Nat} {pos:String} {af:Array Edge} {fo:Operand} {as_:List Operand} {ats:Array TypeId} {f:FuncId} {args:List Value} {r r':Res} {X:List Nat} {I':IMap}
def FnK (P:Program) (f:FuncId) (args:Array Value) (I:IMap) (r:Res) (p:Value→Prop):Prop:=FnH P f args I [r] fun u I' H'=>p u∧I'=I∧H'=[r]
def FnM (P:Program) (f:FuncId) (args:Array Value) (I:IMap) (r r':Res):Prop:=FnH P f args I [r] fun u I' H'=>u = .tuple #[]∧I'=I∧H'=[r']
def FnX (P:Program) (f:FuncId) (args:Array Value) (I:IMap) (Hc:List Res) (p:Value→Res→Prop):Prop:=FnH P f args I Hc fun u I' H'=>I'=I∧∃r',H'=[r']∧p u r'
theorem a8B {p:Value→Prop} (hc:FnK P f args.toArray I r p) (h:a1w L fo as_=some (f,args)) (hd:Nat.blt d n.sz=true) (k:∀v,p v→SX n E I ((d,v)::L) (r::H) K) :
  SX n E I L (r::H) (one P ops Q ⟨some d,.call { callee:=.value fo,args:=as_.toArray,argTypes:=ats },ty,pos,af,none⟩ K):=
 a2H (Hc:=[r]) (H0:=H) hc h hd fun u I' H' hI hp=>by obtain⟨h1,rfl,rfl⟩:=hp;exact k u h1
theorem a2V (hc:FnM P f args.toArray I r r') (h:a1w L fo as_=some (f,args)) (hd:Nat.blt d n.sz=true) (k:SX n E I ((d,.tuple #[])::L) (r'::H) K) :
  SX n E I L (r::H) (one P ops Q ⟨some d,.call { callee:=.value fo,args:=as_.toArray,argTypes:=ats },ty,pos,af,none⟩ K):=
 a2H (Hc:=[r]) (H0:=H) hc h hd fun u I' H' hI hp=>by obtain⟨rfl,rfl,rfl⟩:=hp;exact k
theorem a1X {p:Value→Res→Prop} (hc:FnX P f args.toArray I [] p) (h:a1w L fo as_=some (f,args)) (hd:Nat.blt d n.sz=true) (k:∀v r',p v r'→SX n E I ((d,v)::L) (r'::H) K) :
  SX n E I L H (one P ops Q ⟨some d,.call { callee:=.value fo,args:=as_.toArray,argTypes:=ats },ty,pos,af,none⟩ K):=
 a2H (Hc:=[]) (H0:=H) hc h hd fun u I' H' hI hp=>by obtain⟨rfl,r',rfl,h1⟩:=hp;exact k u r' h1
theorem a0Q {p:Value→Res→Prop} (hc:FnX P f args.toArray I [r] p) (h:a1w L fo as_=some (f,args)) (hd:Nat.blt d n.sz=true) (k:∀v r',p v r'→SX n E I ((d,v)::L) (r'::H) K) :
  SX n E I L (r::H) (one P ops Q ⟨some d,.call { callee:=.value fo,args:=as_.toArray,argTypes:=ats },ty,pos,af,none⟩ K):=
 a2H (Hc:=[r]) (H0:=H) hc h hd fun u I' H' hI hp=>by obtain⟨rfl,r',rfl,h1⟩:=hp;exact k u r' h1
theorem q_k {v:Value} {p:Value→Prop} (h:p v):SX n ⟨X,I,w0⟩ I' L [r] fun _ w=>a9p ⟨X,I,w0⟩ (fun u' I'' H'=>p u'∧I''=I∧H'=[r]) (.returned v) w:=
 fun _ w _ m=>⟨v,I,[r],rfl,m.orig,h,rfl,rfl⟩
theorem q_m:SX n ⟨X,I,w0⟩ I' L [r] fun _ w=>a9p ⟨X,I,w0⟩ (fun u' I'' H'=>u' = .tuple #[]∧I''=I∧H'=[r]) (.returned (.tuple #[])) w:=
 fun _ w _ m=>⟨_,I,[r],rfl,m.orig,rfl,rfl,rfl⟩
theorem b5i (h:r=r'):SX n ⟨X,I,w0⟩ I' L [r] fun _ w=>a9p ⟨X,I,w0⟩ (fun u' I'' H'=>u' = .tuple #[]∧I''=I∧H'=[r']) (.returned (.tuple #[])) w:=h▸q_m
theorem q_x {v:Value} {p:Value→Res→Prop} (h:p v r):SX n ⟨X,I,w0⟩ I' L [r] fun _ w=>a9p ⟨X,I,w0⟩ (fun u' I'' H'=>I''=I∧∃r',H'=[r']∧p u' r') (.returned v) w:=
 fun _ w _ m=>⟨v,I,[r],rfl,m.orig,rfl,r,rfl,h⟩
end
end Go.Sx
set_option linter.all false
namespace Go.Sx
open Go
def Uk (k:Nat) (xss:List (List Value)):Prop:=∀c∈xss,c.length=k
theorem Uk.append {k:Nat} {a b:List (List Value)} (h:Uk k a) (h':Uk k b):Uk k (a++b):=fun c hc=>(List.mem_append.1 hc).elim (h c) (h' c)
theorem Uk.take {k:Nat} {a:List (List Value)} (h:Uk k a) (i:Nat):Uk k (a.take i):=fun c hc=>h c (List.mem_of_mem_take hc)
theorem Uk.drop {k:Nat} {a:List (List Value)} (h:Uk k a) (i:Nat):Uk k (a.drop i):=fun c hc=>h c (List.mem_of_mem_drop hc)
theorem Uk.rep {k:Nat} {c:List Value} (h:c.length=k) (i:Nat):Uk k (List.replicate i c):=fun d hd=>by rw[List.eq_of_mem_replicate hd];exact h
theorem Uk.set {k:Nat} {a:List (List Value)} {c:List Value} (h:Uk k a) (hc:c.length=k) (i:Nat):Uk k (a.set i c):=fun d hd=>by
 rcases List.mem_or_eq_of_mem_set hd with hd|rfl
 ·exact h d hd
 ·exact hc
theorem a2O {k:Nat} {xss:List (List Value)} (h:Uk k xss):xss.flatten.length=xss.length * k:=by
 induction xss with
 |nil=>simp
 |cons c r ih=>
  have h1:=h c (by simp);have h2:=ih (fun d hd=>h d (by simp[hd]))
  simp only[List.flatten_cons,List.length_append,h1,h2,List.length_cons,Nat.add_mul]
  omega
theorem a7s {k:Nat} {xss:List (List Value)} (h:Uk k xss) (i:Nat):xss.flatten.drop (i * k)=(xss.drop i).flatten:=by
 induction xss generalizing i with
 |nil=>simp
 |cons c r ih=>
  have h1:=h c (by simp);have h2:Uk k r:=fun d hd=>h d (by simp[hd])
  cases i with
  |zero=>simp
  |succ i=>
   rw[List.flatten_cons,List.drop_succ_cons,←ih h2 i,List.drop_append,List.drop_eq_nil_of_le (by rw[h1,Nat.add_mul];omega),List.nil_append,h1]
   congr 1
   rw[Nat.add_mul];omega
theorem a7t {k:Nat} {xss:List (List Value)} (h:Uk k xss) (i:Nat):xss.flatten.take (i * k)=(xss.take i).flatten:=by
 have h1:(xss.take i).flatten++(xss.drop i).flatten=xss.flatten:=by rw[←List.flatten_append,List.take_append_drop]
 have h2:=a7s h i;have h3:xss.flatten.take (i * k)++xss.flatten.drop (i * k)=xss.flatten:=List.take_append_drop _ _;rw[h2]at h3
 exact List.append_cancel_right (h3.trans h1.symm)
theorem b6j {k:Nat} {xss:List (List Value)} (h:Uk k xss) {i:Nat} {c:List Value} (hi:xss[i]? = some c):(xss.flatten.drop (i * k)).take k=c:=by
 obtain⟨hl,he⟩:=List.getElem?_eq_some_iff.1 hi;rw[a7s h,List.drop_eq_getElem_cons hl,he,List.flatten_cons,List.take_append_of_le_length (by rw[h c (he▸List.getElem_mem hl)];omega),List.take_of_length_le (by rw[h c (he▸List.getElem_mem hl)];omega)]
theorem a6V {k:Nat} {xss yss:List (List Value)} (h:Uk k xss) (h':Uk k yss) (o:Nat):xss.flatten.take (o * k)++(yss.flatten++xss.flatten.drop (o * k+yss.length * k))=(xss.take o++(yss++xss.drop (o+yss.length))).flatten:=by
 rw[←Nat.add_mul,a7t h,a7s h,List.flatten_append,List.flatten_append]
theorem c6g {k:Nat} {xss:List (List Value)} (h:Uk k xss) {i:Nat} {c:List Value} (hi:i<xss.length) (hc:c.length=k):xss.flatten.take (i * k)++(c++xss.flatten.drop (i * k+k))=(xss.set i c).flatten:=by
 have:=a6V h (yss:=[c]) (by intro d hd;simp at hd;subst hd;exact hc) i
 simp only[List.flatten_cons,List.flatten_nil,List.append_nil,List.length_cons,List.length_nil,Nat.zero_add,Nat.one_mul]at this
 rw[this,List.set_eq_take_append_cons_drop,if_pos hi]
 rfl
theorem a8m (zs:List Value) (n:Nat):c5i zs n=(List.replicate n zs).flatten:=by
 induction n with
 |zero=>rfl
 |succ n ih=>rw[c5i,List.replicate_succ,List.flatten_cons,ih]
inductive FlatC {α:Type} [Enc α] (I:IMap):List (List Value)→List α→Prop
 |nil:FlatC I [] []
 |cons {c:List Value} {x:α} {xss:List (List Value)} {l:List α}:Enc.rd I c x→FlatC I xss l→FlatC I (c::xss) (x::l)
section
variable {α:Type} [Enc α] {I I':IMap} {xss yss:List (List Value)} {l m:List α}
theorem FlatC.flat (h:FlatC I xss l):Flat I xss.flatten l:=by
 induction h with
 |nil=>exact .nil
 |cons h1 _ ih=>rw[List.flatten_cons];exact .cons h1 ih
theorem FlatC.of {ws:List Value} (h:Flat I ws l):∃xss,ws=xss.flatten∧FlatC I xss l:=by
 induction h with
 |nil=>exact⟨[],rfl,.nil⟩
 |cons h1 _ ih=>obtain⟨xss,rfl,h2⟩:=ih;exact⟨_::xss,rfl,.cons h1 h2⟩
theorem FlatC.len (h:FlatC I xss l):xss.length=l.length:=by
 induction h with
 |nil=>rfl
 |cons _ _ ih=>simp[ih]
theorem FlatC.uk (h:FlatC I xss l):Uk (Enc.k α) xss:=by
 induction h with
 |nil=>intro c hc;cases hc
 |cons h1 _ ih=>intro c hc;rcases List.mem_cons.1 hc with rfl|hc;exact Enc.len h1;exact ih c hc
theorem FlatC.le (h:FlatC I xss l) (hI:ILe I I'):FlatC I' xss l:=by
 induction h with
 |nil=>exact .nil
 |cons h1 _ ih=>exact .cons (Enc.mono hI h1) ih
theorem FlatC.append (h:FlatC I xss l) (h':FlatC I yss m):FlatC I (xss++yss) (l++m):=by
 induction h with
 |nil=>exact h'
 |cons h1 _ ih=>exact .cons h1 ih
theorem FlatC.take (h:FlatC I xss l) (i:Nat):FlatC I (xss.take i) (l.take i):=by
 induction h generalizing i with
 |nil=>simp;exact .nil
 |cons h1 _ ih=>cases i with
  |zero=>exact .nil
  |succ i=>exact .cons h1 (ih i)
theorem FlatC.drop (h:FlatC I xss l) (i:Nat):FlatC I (xss.drop i) (l.drop i):=by
 induction h generalizing i with
 |nil=>simp;exact .nil
 |cons h1 h2 ih=>cases i with
  |zero=>exact .cons h1 h2
  |succ i=>exact ih i
theorem FlatC.set {c:List Value} {x:α} (h:FlatC I xss l) (hx:Enc.rd I c x) (i:Nat):FlatC I (xss.set i c) (l.set i x):=by
 induction h generalizing i with
 |nil=>exact .nil
 |cons h1 h2 ih=>cases i with
  |zero=>exact .cons hx h2
  |succ i=>exact .cons h1 (ih i)
theorem FlatC.at_ (h:FlatC I xss l) {i:Nat} (hi:i<l.length):∃c,xss[i]? = some c∧Enc.rd I c l[i]:=by
 induction h generalizing i with
 |nil=>exact absurd hi (by simp)
 |cons h1 h2 ih=>cases i with
  |zero=>exact⟨_,rfl,h1⟩
  |succ i=>obtain⟨c,h3,h4⟩:=ih (i:=i) (by simpa using hi);exact⟨c,by simpa using h3,by simpa using h4⟩
theorem FlatC.one (h:FlatC I xss l):xss.flatten.all (·.oneCell')=true:=h.flat.all
theorem RdA.pieces {A:Option Addr} (h:RdA I A l):∃xss,FlatC I xss l∧(0<l.length→∃b o,A=some ⟨b,o,none⟩∧ICells I b o xss.flatten):=by
 rcases Nat.eq_zero_or_pos l.length with h0|hp
 ·obtain rfl:=List.eq_nil_of_length_eq_zero h0;exact⟨[],.nil,fun h=>absurd h (by simp)⟩
 ·obtain⟨b,o,e,hx⟩:=h hp;obtain⟨ws,h1,h2⟩:=Flat.of_rd l o hx;obtain⟨xss,rfl,h3⟩:=FlatC.of h1;exact⟨xss,h3,fun _=>⟨b,o,e,h2⟩⟩
end
section
variable {P:Program} {ρ:Option Nat} {n:Sz} {E:Ent} {I:IMap} {L:LL} {H:List Res} {Q:Exit→Act→World→Prop} {ops:Array Oper} {K:Act→World→Prop}
variable {d ty:Nat} {pos:String} {af:Array Edge} {x y z:Operand}
theorem a1H {g off tt t' k:Nat} {xss:List (List Value)} {c:List Value} (hm:Res.blk g t' xss.flatten∈H) (hU:Uk k xss) (ht:tyK P tt=some (true,k)) (hx:ev L x=some (.pointer (some ⟨g,off,none⟩))) (i:Nat) (ho:off=i * k) (hi:xss[i]? = some c) :
  OV P n E I L H ⟨some d,.load tt x,ty,pos,af,none⟩ (.agg c.toArray):=a1R c hm ht hx (by subst ho;exact b6j hU hi) (hU c (List.mem_of_getElem? hi))
theorem a1U {g off tt t' k:Nat} {b:Bool} {xss:List (List Value)} {v:Value} (c:List Value) (i:Nat) (hU:Uk k xss) (ht:tyK P tt=some (b,k)) (hx:ev L x=some (.pointer (some ⟨g,off,none⟩))) (hy:ev L y=some v)
  (hv:v.cells=c.toArray) (hk:c.length=k) (h1:c.all (·.oneCell')=true) (ho:off=i * k) (hi:i<xss.length)
  (kk:SX n E I L (.blk g t' (xss.set i c).flatten::H) K):SX n E I L (.blk g t' xss.flatten::H) (one P ops Q ⟨none,.store tt x y,ty,pos,af,none⟩ K):=by
 subst ho;refine d7P c _ ht hx hy hv hk ?_ h1 (c6g hU hi hk) kk;rw[a2O hU]
 apply Nat.ble_eq_true_of_le
 have:(i+1) * k≤xss.length * k:=Nat.mul_le_mul_right _ hi;rw[Nat.add_mul]at this
 omega
theorem c8u {tt e m c:Nat} {A:Option Addr} (ht:P.underlying tt=some (.slice e)) (hx:ev L x=some (.slice A m c)):OV P n E I L H ⟨some d,.call { callee:=.builtin .cap,args:=#[x],argTypes:=#[tt] },ty,pos,af,none⟩ (.int .i64 (c:Int)):=fun a w st _=>by
 simp[execOp,st.ev hx,resolve,invoke,builtin,Builtin.cap_,run_underlying ht,goInt]
theorem a6P {tt:Nat} {k kk:IntKind} {i:Int} {tyy:Nat} (hx:ev L x=some (.int k i)) (hk:1≤k.bits):OV P n E I L H ⟨some d,.binOp .shr tt x (.const (.int kk 1)) tyy,ty,pos,af,none⟩ (.int k (i / 2)):=fun a w st _=>by
 have h:=shift_shr_any k kk i 1 oM;have h2:min (1:Int).toNat k.bits=1:=oM;rw[h2]at h
 have hy:a.eval (.const (.int kk 1)) = .int kk 1:=rfl;have hb:binOp .shr tt (.int k i) (.int kk 1)=pure (.int k (i / 2)):=h
 simp[execOp,st.ev hx,hy,eqGuard_shr,hb]
theorem a9K {tt e m c tyy:Nat} {A:Option Addr} (ht:P.underlying tt=some (.slice e)) (hx:ev L x=some (.slice A m c)):OV P n E I L H ⟨some d,.binOp .eql tt x (.const (.slice none 0 0)) tyy,ty,pos,af,none⟩ (.bool A.isNone):=fun a w st _=>by
 have hy:a.eval (.const (.slice none 0 0)) = .slice none 0 0:=rfl
 have he:(Op.equalIn (9999+1) tt (.slice A m c) (.slice none 0 0)).run P w = .ok A.isNone w:=by
  rw[Op.equalIn]
  cases A<;>simp[run_underlying ht]
 have hb:(binOp .eql tt (.slice A m c) (.slice none 0 0)).run P w = .ok (.bool A.isNone) w:=by
  have h1:binOp .eql tt (.slice A m c) (.slice none 0 0)=(do Pure.pure (.bool (←Op.equal tt (.slice A m c) (.slice none 0 0)))):=by cases A<;>rfl
  rw[h1]
  simp only[Sem.run_bind,Op.equal,Op.maxDepth]
  rw[he]
  rfl
 have hg:(eqGuard .eql tt x (.const (.slice none 0 0)) (.slice A m c) (.slice none 0 0)).run P w = .ok () w:=by cases A<;>rfl
 simp only[execOp,st.ev hx,hy,Sem.run_bind,hg,hb,Result.andThen_ok,Sem.run_pure]
theorem a4x {tt e k bytes q:Nat} {zs:List Value} {kl:IntKind} (he:P.underlying tt=some (.slice e)) (hb:a2j P e=some (zs,k,bytes)) (hzs:zs.length=k) (hk0:Nat.blt 0 k=true)
  (hx:ev L x=some (.int kl (q:Nat))) (hq:q * bytes≤140737488355328) (hq2:q≤9223372036854775807) (hd:Nat.blt d n.sz=true)
  (kk:∀g,SX n E I ((d,.slice (some ⟨g,0,none⟩) q q)::L) (.blk g e (List.replicate q zs).flatten::H) K):SX n E I L H (one P ops Q ⟨some d,.makeSlice tt x x,ty,pos,af,none⟩ K):=
 a9n (fun g:Nat=>.slice (some ⟨g,0,none⟩) q q) (fun _=>I) (fun g=>.blk g e (List.replicate q zs).flatten::H) (fun _=>True) hd
  (fun a w st m=>by
   unfold a2j at hb
   split at hb
   ·rename_i inf hi
    cases hz:inf.zero with
    |none=>simp[hz]at hb
    |some z0=>
     simp only[hz,Option.map_some,Option.some.injEq,Prod.mk.injEq]at hb
     obtain⟨hz1,hz2,hz3⟩:=hb;have hk':0<k:=by simpa[Nat.blt_eq]using hk0
     have hr:=run_make (P:=P) w tt e inf z0 he hi hz kl kl (q:Int) (q:Int) oM oM (by
      rw[hz3,←Int.natCast_mul,Nat.mul_comm];omega) oM
     have hcs:madeCells z0.cells ((q:Int).toNat * inf.size)=(List.replicate q zs).flatten.toArray:=by
      have:z0.cells=zs.toArray:=by rw[←hz1]
      rw[hz2,this,←hzs,Int.toNat_natCast,a6l zs oM,a8m]
     rw[hcs,Int.toNat_natCast]at hr
     refine⟨w.heap.size,w.alloc (.cells (List.replicate q zs).flatten.toArray e),trivial,?_,m.alloc e (List.replicate q zs).flatten⟩
     simp only[execOp,st.ev hx,Sem.run_bind,hr,Result.andThen_ok,Sem.run_pure]
   ·cases hb) fun g _=>kk g
theorem b2t {g t o:Nat} {vs cs:List Value} {w:World} (m:Mem E I (.blk g t cs::H) w) (hl:o+vs.length≤cs.length) (h1:vs.all (·.oneCell')=true) :
  ∃w',(storeCells ⟨g,o,none⟩ vs 0).run P w = .ok () w'∧Mem E I (.blk g t (cs.take o++(vs++cs.drop (o+vs.length)))::H) w':=by
 have hg:w.heap[g]? = some (.cells cs.toArray t (0,0)):=m.blk;obtain⟨w',hr,hh,r1,r2,r3,r4,r5⟩:=a4Z (P:=P) vs w cs o 0 hg oM (fun v hv=>by simpa using List.all_eq_true.1 h1 v hv);refine⟨w',hr,m.step r1 ⟨r2,a1i _ hr⟩ r3 oM (fun k hk hne=>r5 k (fun e=>hne (by subst e;rfl))) ?_ (fun g' hg'=>.inl hg')⟩
 show w'.heap[g]? = _
 rw[hh]
 simp
theorem a6L {tt ts e k g t' dl dc sl sc:Nat} {D S:Option Addr} {xss:List (List Value)} (yss:List (List Value)) (o:Nat) (he:a6J P tt=some (e,k)) (hx:ev L x=some (.slice D dl dc)) (hy:ev L y=some (.slice S sl sc)) (hn:yss.length=min sl dl) (hU:Uk k xss) (hV:Uk k yss)
  (h1:yss.flatten.all (·.oneCell')=true) (hD:0<yss.length→D=some ⟨g,o * k,none⟩)
  (hS:0<yss.length→∃b so,S=some ⟨b,so,none⟩∧∀w,Mem E I (.blk g t' xss.flatten::H) w→∀j u,yss.flatten[j]? = some u→w.cell? ⟨b,so+j,none⟩=some u)
  (hfit:o+yss.length≤xss.length) (hd:Nat.blt d n.sz=true)
  (kk:SX n E I ((d,.int .i64 (yss.length:Nat))::L) (.blk g t' (xss.take o++(yss++xss.drop (o+yss.length))).flatten::H) K) :
  SX n E I L (.blk g t' xss.flatten::H) (one P ops Q ⟨some d,.call { callee:=.builtin .copy,args:=#[x,y],argTypes:=#[tt,ts] },ty,pos,af,none⟩ K):=
 a9n (fun _:Unit=>.int .i64 (yss.length:Nat)) (fun _=>I) (fun _=>.blk g t' (xss.take o++(yss++xss.drop (o+yss.length))).flatten::H) (fun _=>True) hd
  (fun a w st m=>by
   obtain⟨hu,bb,hk⟩:=a5U he;have hsz:=(a1a hk w).2;have hmin:Nat.min sl dl=yss.length:=hn.symm
   rcases Nat.eq_zero_or_pos yss.length with h0|hp
   ·obtain rfl:=List.eq_nil_of_length_eq_zero h0;refine⟨(),w,trivial,?_,by simpa using m⟩;have hl0:∀(b:Addr),(loadCells b 0).run P w = .ok #[] w:=fun b=>run_loadCells_list (P:=P) w b [] (fun j v hv=>by simp at hv)
    cases D<;>cases S<;>simp[execOp,st.ev hx,st.ev hy,resolve,invoke,builtin,Builtin.copy_,run_underlying hu,Builtin.lenOf,Builtin.firstCells,hsz,hmin,hl0,storeCells,goInt]
   ·obtain rfl:=hD hp;obtain⟨b,so,rfl,hcell⟩:=hS hp;have hll:yss.flatten.length=yss.length * k:=a2O hV;have hl:=run_loadCells_list (P:=P) w ⟨b,so,none⟩ yss.flatten (fun j v hv=>by rw[add_lit];exact hcell w m j v hv);rw[hll]at hl
    have hfit':o * k+yss.flatten.length≤xss.flatten.length:=by
     rw[hll,a2O hU,←Nat.add_mul];exact Nat.mul_le_mul_right _ hfit
    obtain⟨w',hr,hm⟩:=b2t (P:=P) m hfit' h1;rw[hll,a6V hU hV]at hm
    refine⟨(),w',trivial,?_,hm⟩
    simp[execOp,st.ev hx,st.ev hy,resolve,invoke,builtin,Builtin.copy_,run_underlying hu,Builtin.lenOf,Builtin.firstCells,hsz,hmin,hl,hr,goInt]) fun _ _=>kk
theorem b6y {tt e k g t' m c bytes:Nat} {D:Option Addr} {zs:List Value} {xss:List (List Value)} (o:Nat) (he:P.underlying tt=some (.slice e)) (hb:a2j P e=some (zs,k,bytes)) (hzs:zs.length=k) (hk0:Nat.blt 0 k=true) (hz1:zs.all (·.oneCell')=true)
  (hx:ev L x=some (.slice D m c)) (hU:Uk k xss) (hD:0<m→D=some ⟨g,o * k,none⟩) (hfit:o+m≤xss.length)
  (kk:SX n E I L (.blk g t' (xss.take o++(List.replicate m zs++xss.drop (o+m))).flatten::H) K) :
  SX n E I L (.blk g t' xss.flatten::H) (one P ops Q ⟨none,.call { callee:=.builtin .clear,args:=#[x],argTypes:=#[tt] },ty,pos,af,none⟩ K):=by
 intro a w st mm;unfold one;rw[if_pos (by rfl)];unfold a2j at hb
 split at hb
 ·rename_i inf hi
  cases hz:inf.zero with
  |none=>simp[hz]at hb
  |some z0=>
   simp only[hz,Option.map_some,Option.some.injEq,Prod.mk.injEq]at hb
   obtain⟨hz1',hz2,hz3⟩:=hb;have hk':0<k:=by simpa[Nat.blt_eq]using hk0
   have key:∃w',(execOp a.eval ⟨none,.call { callee:=.builtin .clear,args:=#[x],argTypes:=#[tt] },ty,pos,af,none⟩).run P w = .ok (.value (.tuple #[])) w'∧Mem E I (.blk g t' (xss.take o++(List.replicate m zs++xss.drop (o+m))).flatten::H) w':=by
    rcases Nat.eq_zero_or_pos m with h0|hp
    ·subst h0;refine⟨w,?_,by simpa using mm⟩
     cases D<;>simp[execOp,st.ev hx,resolve,invoke,builtin,Builtin.clear_,run_underlying he]
    ·obtain rfl:=hD hp;obtain⟨m,rfl⟩:∃q,m=q+1:=⟨m-1,oM⟩
     have hzc:(Builtin.zeroCells z0.cells (m+1)).toList=(List.replicate (m+1) zs).flatten:=by
      have:z0.cells=zs.toArray:=by rw[←hz1']
      have h2:Builtin.zeroCells zs.toArray (m+1)=madeCells zs.toArray ((m+1) * zs.length):=by simp[Builtin.zeroCells,madeCells]
      rw[this,h2,a6l zs oM,a8m]
     have hV:Uk k (List.replicate (m+1) zs):=Uk.rep hzs _;have hll:(List.replicate (m+1) zs).flatten.length=(m+1) * k:=by rw[a2O hV];simp
     have hfit':o * k+(List.replicate (m+1) zs).flatten.length≤xss.flatten.length:=by
      rw[hll,a2O hU,←Nat.add_mul];exact Nat.mul_le_mul_right _ hfit
     obtain⟨w',hr,hm⟩:=b2t (P:=P) mm hfit' (by
      rw[List.all_eq_true];intro v hv;obtain⟨c,hc,hv⟩:=List.mem_flatten.1 hv;rw[List.eq_of_mem_replicate hc]at hv
      exact List.all_eq_true.1 hz1 v hv)
     have hsp:=a6V hU hV o;rw[List.length_replicate]at hsp
     rw[hll,hsp]at hm
     refine⟨w',?_,hm⟩
     simp[execOp,st.ev hx,resolve,invoke,builtin,Builtin.clear_,run_underlying he,zeroValue,typeInfo,hi,hz,hzc,hr]
   obtain⟨w',hr,hm⟩:=key;rw[a9L hr];exact kk _ _ st hm
 ·cases hb
end
end Go.Sx
set_option linter.all false
namespace Go.Sx
open Go
theorem c1z {k:Nat} (q:Nat):∀(l:List Value),l.length=q * k→∃rest,Uk k rest∧rest.flatten=l∧rest.length=q:=by
 induction q with
 |zero=>intro l h;exact⟨[],fun c hc=>(by cases hc),by simp at h;simp[h],rfl⟩
 |succ q ih=>
  intro l h;rw[Nat.add_mul]at h
  obtain⟨r,h1,h2,h3⟩:=ih (l.drop k) (by rw[List.length_drop];omega);refine⟨l.take k::r,fun c hc=>?_,?_,by simp[h3]⟩
  ·rcases List.mem_cons.1 hc with rfl|hc
   ·rw[List.length_take];omega
   ·exact h1 c hc
  ·rw[List.flatten_cons,h2,List.take_append_drop]
theorem IsRow.open_ {w:World} {v:Value} {e k m:Nat} {xss:List (List Value)} (h:IsRow (b4L w) v e k m xss.flatten) (hU:Uk k xss) (hm:xss.length=m) :
  (m=0∧v = .slice none 0 0)∨∃g cap rest,v = .slice (some ⟨g,0,none⟩) m cap∧Uk k rest∧m+rest.length=cap∧cap≤maxLen∧w.heap[g]? = some (.cells (xss++rest).flatten.toArray e (0,0)):=by
 obtain⟨h1,h2⟩:=h
 rcases h2 with ⟨h2,h3⟩|⟨g,cap,cur,rfl,h3,h4,h5,h6,h7⟩
 ·exact .inl ⟨h3,h2⟩
 ·right
  obtain⟨r,r1,r2,r3⟩:=c1z (k:=k) (cap-m) (cur.toList.drop (m * k)) (by rw[List.length_drop,Array.length_toList,h6,Nat.sub_mul]);refine⟨g,cap,r,rfl,r1,oM,h5,?_⟩;have h8:w.heap[g]? = some (.cells cur e (0,0)):=h3;rw[h8]
  congr 2
  apply Array.toList_inj.1
  rw[List.flatten_append,r2,←h7]
  simp
theorem IsRow.shut {w:World} {g e k m cap:Nat} {xss rest:List (List Value)} (h:w.heap[g]? = some (.cells (xss++rest).flatten.toArray e (0,0))) (hU:Uk k xss) (hR:Uk k rest) (hm:xss.length=m) (hc:m+rest.length=cap) (hl:cap≤maxLen) :
  IsRow (b4L w) (.slice (some ⟨g,0,none⟩) m cap) e k m xss.flatten:=by
 have hu:Uk k (xss++rest):=hU.append hR;refine⟨by rw[a2O hU,hm],.inr ⟨g,cap,_,rfl,h,oM,hl,?_,?_⟩⟩
 ·rw[List.size_toArray,a2O hu,List.length_append,hm,hc]
 ·show ((xss++rest).flatten.toArray.toList).take (m * k)=_
  rw[List.toList_toArray,a7t hu,←hm,List.take_left]
section
variable {P:Program} {ρ:Option Nat} {n:Sz} {E:Ent} {I:IMap} {L:LL} {H:List Res} {Q:Exit→Act→World→Prop} {ops:Array Oper} {K:Act→World→Prop}
theorem a6O {v:Value} {e k m:Nat} {xss:List (List Value)} (hU:Uk k xss) (hm:xss.length=m) (h0:m=0→v = .slice none 0 0→SX n E I L H K)
  (h1:∀g cap rest,v = .slice (some ⟨g,0,none⟩) m cap→Uk k rest→m+rest.length=cap→cap≤maxLen→SX n E I L (.blk g e (xss++rest).flatten::H) K):SX n E I L (.row v e k m xss.flatten::H) K:=by
 intro a w st mm;have hr:IsRow (b4L w) v e k m xss.flatten:=mm.holds (.row v e k m xss.flatten) (List.mem_cons_self ..)
 rcases hr.open_ hU hm with ⟨h2,h3⟩|⟨g,cap,rest,h2,h3,h4,h5,h6⟩
 ·exact h0 h2 h3 a w st mm.drop
 ·refine h1 g cap rest h2 h3 h4 h5 a w st (mm.step rfl ⟨rfl,Nat.le_refl _⟩ rfl (Nat.le_refl _) (fun _ _ _=>rfl) h6 (fun g' hg'=>?_));subst h2;exact .inl hg'
theorem a2e {g e k m cap:Nat} {xss rest:List (List Value)} (hU:Uk k xss) (hR:Uk k rest) (hm:xss.length=m) (hc:m+rest.length=cap) (hl:cap≤maxLen)
  (h:SX n E I L (.row (.slice (some ⟨g,0,none⟩) m cap) e k m xss.flatten::H) K):SX n E I L (.blk g e (xss++rest).flatten::H) K:=by
 intro a w st mm;have hb:w.heap[g]? = some (.cells (xss++rest).flatten.toArray e (0,0)):=mm.blk;exact h a w st (mm.step rfl ⟨rfl,Nat.le_refl _⟩ rfl (Nat.le_refl _) (fun _ _ _=>rfl) (IsRow.shut hb hU hR hm hc hl) (fun g' hg'=>.inl hg'))
theorem c4w {g t:Nat} {cs:List Value} (h:∀I',ILe I I'→I' g=some (.cells cs.toArray t (0,0))→SX n E I' L H K):SX n E I L (.blk g t cs::H) K:=by
 intro a w s mm;have hh:w.heap[g]? = some (.cells cs.toArray t (0,0)):=mm.blk;exact h _ (IMap.pub_le _ (mm.priv _ (List.mem_cons_self ..) g rfl).1) (IMap.pub_same _ _ _) a w s (mm.pub (g:=g) rfl hh)
theorem FnX.of_row {f:FuncId} {args:Value→List Value} {p:Value→Res→Prop} {v:Value} {e k m:Nat} {xss:List (List Value)} (hU:Uk k xss) (hm:xss.length=m)
  (h0:m=0→FnX P f (args (.slice none 0 0)).toArray I [] p)
  (h1:∀g cap rest,Uk k rest→m+rest.length=cap→cap≤maxLen→FnX P f (args (.slice (some ⟨g,0,none⟩) m cap)).toArray I [.blk g e (xss++rest).flatten] p):FnX P f (args v).toArray I [.row v e k m xss.flatten] p:=by
 refine⟨fun w mm=>?_⟩;have hr:IsRow (b4L w) v e k m xss.flatten:=mm.holds (.row v e k m xss.flatten) (List.mem_cons_self ..)
 rcases hr.open_ hU hm with ⟨h2,h3⟩|⟨g,cap,rest,h2,h3,h4,h5,h6⟩
 ·subst h3;exact (h0 h2).go w mm.drop
 ·subst h2;exact (h1 g cap rest h3 h4 h5).go w (mm.step rfl ⟨rfl,Nat.le_refl _⟩ rfl (Nat.le_refl _) (fun _ _ _=>rfl) h6 (fun g' hg'=>.inl hg'))
variable {d ty:Nat} {pos:String} {af:Array Edge} {x y z:Operand}
theorem a9b {tt tn e k g t' bytes q i cap:Nat} {kn kq:IntKind} {A:Option Addr} {zs:List Value} {xss:List (List Value)} (yss:List (List Value)) (he:P.underlying tt=some (.slice e)) (hn:P.underlying tn=some (.int kn)) (hb:a2j P e=some (zs,k,bytes)) (hzs:zs.length=k) (hk0:Nat.blt 0 k=true)
  (hx:ev L x=some (.slice A i cap)) (hy:ev L y=some (.int kq (q:Nat))) (hU:Uk k xss) (hys:yss.length=i) (hV:Uk k yss)
  (hA:0<i→A=some ⟨g,0,none⟩∧xss.take i=yss) (hq:0<q) (hg:cap<i+q) (hroom:(i+q) * bytes≤140737488355328) (hlen:i+q≤maxLen) (hd:Nat.blt d n.sz=true)
  (kk:∀g' r,i+q+r≤maxLen→SX n E I ((d,.slice (some ⟨g',0,none⟩) (i+q) (i+q+r))::L) (.blk g' e (yss++List.replicate (q+r) zs).flatten :: .blk g t' xss.flatten::H) K) :
  SX n E I L (.blk g t' xss.flatten::H) (one P ops Q ⟨some d,.call { callee:=.builtin .append,args:=#[x,y],argTypes:=#[tt,tn] },ty,pos,af,none⟩ K):=
 a9n (fun q':Nat×Nat=>.slice (some ⟨q'.1,0,none⟩) (i+q) (i+q+q'.2)) (fun _=>I) (fun q'=>.blk q'.1 e (yss++List.replicate (q+q'.2) zs).flatten :: .blk g t' xss.flatten::H) (fun q'=>i+q+q'.2≤maxLen) hd
  (fun a w st mm=>by
   unfold a2j at hb
   split at hb
   ·rename_i inf hi
    cases hz:inf.zero with
    |none=>simp[hz]at hb
    |some z0=>
     simp only[hz,Option.map_some,Option.some.injEq,Prod.mk.injEq]at hb
     obtain⟨hz1,hz2,hz3⟩:=hb;have hk':0<k:=by simpa[Nat.blt_eq]using hk0
     have hz0:z0.cells=zs.toArray:=by rw[←hz1]
     have hold:(Builtin.firstCells inf.size i (.slice A i cap)).run P w.drew = .ok yss.flatten.toArray w.drew:=by
      rcases Nat.eq_zero_or_pos i with h0|hp
      ·subst h0;obtain rfl:=List.eq_nil_of_length_eq_zero hys;have hl0:∀(b:Addr),(loadCells b 0).run P w.drew = .ok #[] w.drew:=fun b=>run_loadCells_list (P:=P) w.drew b [] (fun j v hv=>by simp at hv)
       cases A<;>simp[Builtin.firstCells,hl0]
      ·obtain⟨rfl,ht⟩:=hA hp
       have hl:=run_loadCells_list (P:=P) w.drew ⟨g,0,none⟩ yss.flatten (fun j v hv=>by
        rw[add_lit];have hg':w.drew.heap[g]? = some (.cells xss.flatten.toArray t' (0,0)):=mm.drew.blk;rw[cell_of_row w.drew g _ _ t' _ hg',Nat.zero_add];rw[←ht,←a7t hU,List.getElem?_take]at hv
        split at hv
        ·simpa using hv
        ·cases hv)
       rw[a2O hV,hys,←hz2]at hl
       simp only[Builtin.firstCells]
       exact hl
     have hcapq:grownCap w (i+q) cap e=i+q+(grownCap w (i+q) cap e-(i+q)):=by have:=grownCap_ge w (i+q) cap e;omega
     have h48:Builtin.nextslicecap (i+q) cap * inf.bytes≤281474976710656:=by
      have h1:Builtin.nextslicecap (i+q) cap * inf.bytes≤2 * (i+q) * inf.bytes:=Nat.mul_le_mul_right _ (Room.nextslicecap_le' hg);rw[Nat.mul_assoc,hz3]at h1
      rw[hz3]
      omega
     have h48q:q * inf.bytes≤281474976710656:=by
      have h1:q * inf.bytes≤(i+q) * inf.bytes:=Nat.mul_le_mul_right _ oM;rw[hz3]at h1 ⊢
      omega
     have hr:=Lib.run_append_grow_zeros (P:=P) w tt tn ty e inf z0 kq kn he hn hi hz A i cap yss.flatten hold q hq oM hg (by unfold maxLen at hlen;omega) h48q h48
     have hzc:∀q,Builtin.zeroCells z0.cells q=(List.replicate q zs).flatten.toArray:=fun q=>by
      have h2:Builtin.zeroCells zs.toArray q=madeCells zs.toArray (q * zs.length):=by simp[Builtin.zeroCells,madeCells]
      rw[hz0,h2,a6l zs oM,a8m]
     rw[hzc,hzc]at hr
     refine⟨(w.heap.size,grownCap w (i+q) cap e-(i+q)),w.drew.alloc (.cells (yss++List.replicate (q+(grownCap w (i+q) cap e-(i+q))) zs).flatten.toArray e),?_,?_,mm.drew.alloc e _⟩
     ·show i+q+(grownCap w (i+q) cap e-(i+q))≤maxLen
      rw[←hcapq];exact grownCap_le_maxLen w (i+q) cap e hlen
     ·have e1:yss.flatten.toArray++(List.replicate q zs).flatten.toArray++(List.replicate (grownCap w (i+q) cap e-(i+q)) zs).flatten.toArray=(yss++List.replicate (q+(grownCap w (i+q) cap e-(i+q))) zs).flatten.toArray:=by
       rw[List.append_toArray,List.append_toArray,←List.flatten_append,←List.flatten_append,List.append_assoc,List.replicate_append_replicate]
      rw[e1]at hr
      simp only[execOp,resolve,invoke,builtin,Sem.run_bind,Sem.run_pure,Result.andThen_ok,List.map_toArray,List.map_cons,List.map_nil,st.ev hx,st.ev hy,hr]
      rw[←hcapq]
   ·cases hb) fun q' hq'=>kk q'.1 q'.2 hq'
end
end Go.Sx
set_option linter.all false
namespace Go.Sx
open Go
abbrev a0M:ByteArray:=⟨#[]⟩
def b3S:Kind:=⟨a0M,false,[]⟩
def c8C:Slot:=⟨a0M,[],0⟩
def a8v (c:List Kind) (s:ByteArray):Option Kind:=c.find? fun k=>decide (k.name=s)
def b5u (c:List Kind) (k s:ByteArray):Option Slot:=((a8v c k).getD b3S).slots.find? fun x=>decide (x.name=s)
def a8e (c:List Kind) (k s p:ByteArray):Bool:=match b5u c k s with|some x=>decide (p∈x.kinds)|none=>false
def b4J (pre:List Kind) (ks:List ByteArray) (n:ByteArray):Bool:=!(hit id ks n)&&d6H Kind.name (fun k=>!k.vehicle) pre n
def a5D (pre:List Kind) (sl:List Slot) (s:Slot):Bool:=!(((hit Slot.name sl s.name || !a1p s.name)||decide (s.normal<1))||decide ((s.kinds.length:Int)<s.normal))&&a3v (b4J pre) s.kinds s.kinds.length
def a4q (pre:List Kind) (k:Kind):Bool:=!((hit Kind.name pre k.name || !a1p k.name)||decide ((12:Int)<(k.slots.length:Nat)))&&a3v (a5D pre) k.slots k.slots.length
def a1I (c:List Kind):Bool:=a3v a4q c c.length&&decide (((c.length:Nat):Int)≤60)
abbrev Sm (s:ByteArray):Prop:=s.size≤9223372036854775807
def SmS (s:Slot):Prop:=Sm s.name∧∀k∈s.kinds,Sm k
def SmC (c:List Kind):Prop:=∀k∈c,Sm k.name∧∀s∈k.slots,SmS s
def a4T (s:Slot):Bool:=!(decide ((100:Int)<(s.name.size:Nat))||decide ((15:Int)<(s.kinds.length:Nat)))&&a3v (fun _ k=>!decide ((100:Int)<((k:ByteArray).size:Nat))) s.kinds s.kinds.length
def a3B (k:Kind):Bool:=!(decide ((100:Int)<(k.name.size:Nat))||decide ((15:Int)<(k.slots.length:Nat)))&&a3v (fun _ s=>a4T s) k.slots k.slots.length
def c5W (c:List Kind):Bool:=!decide ((65:Int)<(c.length:Nat))&&a3v (fun _ k=>a3B k) c c.length
def KindIs (I:IMap) (r:Option Kind) (u:Value):Prop:=∃vs,u = .tuple #[.agg vs.toArray,.bool r.isSome]∧Enc.rd I vs (r.getD b3S)
def SlotIs (I:IMap) (r:Option Slot) (u:Value):Prop:=∃vs,u = .tuple #[.agg vs.toArray,.bool r.isSome]∧Enc.rd I vs (r.getD c8C)
theorem KindIs.of {I:IMap} {r:Option Kind} {k:Kind} {vs:List Value} (h:r=some k) (hr:Enc.rd I vs k):KindIs I r (.tuple #[.agg vs.toArray,.bool true]):=by subst h;exact⟨vs,rfl,hr⟩
theorem SlotIs.of {I:IMap} {r:Option Slot} {k:Slot} {vs:List Value} (h:r=some k) (hr:Enc.rd I vs k):SlotIs I r (.tuple #[.agg vs.toArray,.bool true]):=by subst h;exact⟨vs,rfl,hr⟩
theorem KindIs.none {I:IMap} {r:Option Kind} (h:r=none):KindIs I r (.tuple #[.agg #[.string ⟨#[]⟩,.bool false,.slice none 0 0],.bool false]):=by subst h;exact⟨_,rfl,_,rfl,RdS.nil'⟩
theorem SlotIs.none {I:IMap} {r:Option Slot} (h:r=none):SlotIs I r (.tuple #[.agg #[.string ⟨#[]⟩,.slice none 0 0,.int .i64 0],.bool false]):=by subst h;exact⟨_,rfl,_,rfl,RdS.nil'⟩
end Go.Sx
set_option linter.all false
namespace Go.Sx
open Go
def c8D:Use:=⟨⟨0,0⟩,⟨0,0⟩,⟨0,0⟩⟩
def d6v:Evt:=⟨0,0,a0M,a0M,a0M,a0M,a0M,a0M,c8D⟩
def opWords:List ByteArray:=[⟨#[]⟩,⟨#[109,97,107,101]⟩,⟨#[102,105,116]⟩,⟨#[114,101,109,111,118,101]⟩,⟨#[114,117,110]⟩,⟨#[111,118,101,114,104,97,117,108]⟩,⟨#[110,111,116,101]⟩,⟨#[115,99,114,97,112]⟩]
def b1u (op:Int):ByteArray:=if op<0∨8≤op then a0M else (opWords[op.toNat]?).getD a0M
theorem b2H {op:Int} (h:op<0∨8≤op):b1u op=a0M:=if_pos h
theorem c5e {op:Int} (h0:0≤op) (h8:op<8):(opWords.map Value.string)[op.toNat]? = some (.string (b1u op)):=by
 have h:op.toNat<opWords.length:=by show op.toNat<8;omega
 rw[List.getElem?_map,List.getElem?_eq_getElem h,b1u,if_neg oM,List.getElem?_eq_getElem h]
 rfl
theorem b5K (op:Int):b1u op=a0M↔op<1∨8≤op:=by
 unfold b1u
 split
 ·rename_i h;simp;omega
 ·rename_i h
  obtain⟨q,rfl⟩:∃q:Nat,op=q:=⟨op.toNat,oM⟩;have hq:q<8:=oM
  constructor
  ·intro he
   match q,hq,he with
   |0,_,_=>left;decide
   |1,_,he=>exact absurd he (by decide)
   |2,_,he=>exact absurd he (by decide)
   |3,_,he=>exact absurd he (by decide)
   |4,_,he=>exact absurd he (by decide)
   |5,_,he=>exact absurd he (by decide)
   |6,_,he=>exact absurd he (by decide)
   |7,_,he=>exact absurd he (by decide)
  ·intro he;have:q=0:=oM;subst this
   rfl
def b5B (u:Use):Nat→Ivl
 |0=>u.km
 |1=>u.cycles
 |_=>u.load
theorem c4H (e:Evt) {i:Nat} (h:i<3):e.cells[8+2 * i+0]? = some (ci (b5B e.use i).low):=by
 match i,h with
 |0,_=>rfl
 |1,_=>rfl
 |2,_=>rfl
theorem b9e (e:Evt) {i:Nat} (h:i<3):e.cells[8+2 * i+1]? = some (ci (b5B e.use i).high):=by
 match i,h with
 |0,_=>rfl
 |1,_=>rfl
 |2,_=>rfl
def b7i (g o:Nat):List Value:=[.pointer (some ⟨g,o+0,none⟩),.pointer (some ⟨g,o+2,none⟩),.pointer (some ⟨g,o+4,none⟩)]
theorem c0N (g o:Nat) {i:Nat} (h:i<3):(b7i g o)[i]? = some (.pointer (some ⟨g,o+2 * i,none⟩)):=by
 match i,h with
 |0,_=>rfl
 |1,_=>rfl
 |2,_=>rfl
def b1H (i:Ivl):Bool:=!((decide (i.low<0)||decide (i.high<i.low))||decide (1000000<i.high))
def b1N (u:Use) (n:Nat):Bool:=(List.range n).all fun i=>b1H (b5B u i)
theorem d2M {u:Use} {i:Nat} (hi:i<3) (h:b1H (b5B u i)=false):b1N u 3=false:=a9S (p:=fun i=>b1H (b5B u i)) hi h
theorem c8s {u:Use} {i:Nat} (h:b1N u i=true) (hp:b1H (b5B u i)=true):b1N u (i+1)=true:=a7d h hp
def a6e (e:Evt):Evt:=
 let r:Evt:={ e with op:=0,day:=0,part:=a0M }
 if e.op=1 then { r with kind:=a0M } else if e.op=2 then { r with into:=a0M,slot:=a0M } else if e.op=6 then { r with key:=a0M,value:=a0M } else if e.op=4 then { r with use:=c8D } else r
def a1T (e:Evt):List ByteArray:=if e.op=1 then [e.kind] else if e.op=2 then [e.into,e.slot] else if e.op=6 then [e.key] else []
def a5O (e:Evt):Bool:=if e.op=2 then decide (e.into=e.part) else if e.op=6 then decide (e.value=a0M)||decide ((200:Int)<(e.value.size:Nat)) else if e.op=4 then !b1N e.use 3 else false
def b0p (e:Evt):Bool:=((decide (b1u e.op=a0M)||decide (e.day<0))||decide (40000<e.day)) || !a1p e.part
def a1D (e:Evt):Bool:=!b0p e && !a5O e&&decide (a6e e=d6v) && !((a1T e).any fun s=>!a1p s)
def SmE (e:Evt):Prop:=Sm e.part∧Sm e.kind∧Sm e.into∧Sm e.slot∧Sm e.key∧Sm e.value
theorem c6M {e:Evt} (h:SmE e) {s:ByteArray} (hs:s∈a1T e):Sm s:=by
 obtain⟨h1,h2,h3,h4,h5,h6⟩:=h;unfold a1T at hs
 split at hs
 ·simp at hs;subst hs;exact h2
 ·split at hs
  ·simp at hs;rcases hs with rfl|rfl<;>assumption
  ·split at hs
   ·simp at hs;subst hs;exact h5
   ·simp at hs
def Ivl.eqB (a b:Ivl):Bool:=decide (a.low=b.low)&&(decide (a.high=b.high)&&true)
def Use.eqB (a b:Use):Bool:=Ivl.eqB a.km b.km&&(Ivl.eqB a.cycles b.cycles&&(Ivl.eqB a.load b.load&&true))
def Life.eqB (a b:Life):Bool:=Ivl.eqB a.km b.km&&(Ivl.eqB a.cycles b.cycles&&(Ivl.eqB a.damage b.damage&&true))
def Evt.eqB (a b:Evt):Bool:=decide (a.op=b.op)&&(decide (a.day=b.day)&&(decide (a.part=b.part)&&(decide (a.kind=b.kind)&&(decide (a.into=b.into)&&(decide (a.slot=b.slot)&&(decide (a.key=b.key)&&(decide (a.value=b.value)&&(Use.eqB a.use b.use&&true))))))))
def Prp.eqB (a b:Prp):Bool:=decide (a.key=b.key)&&(decide (a.value=b.value)&&true)
theorem Ivl.eqB_eq (a b:Ivl):Ivl.eqB a b=decide (a=b):=by
 cases a;cases b;simp[Ivl.eqB]
theorem Use.eqB_eq (a b:Use):Use.eqB a b=decide (a=b):=by
 cases a;cases b;simp[Use.eqB,Ivl.eqB_eq]
theorem Life.eqB_eq (a b:Life):Life.eqB a b=decide (a=b):=by
 cases a;cases b;simp[Life.eqB,Ivl.eqB_eq]
theorem Evt.eqB_eq (a b:Evt):Evt.eqB a b=decide (a=b):=by
 cases a;cases b;simp[Evt.eqB,Use.eqB_eq]
theorem Prp.eqB_eq (a b:Prp):Prp.eqB a b=decide (a=b):=by
 cases a;cases b;simp[Prp.eqB]
def d7G (s t:ByteArray):ByteArray:=if (sLt s t||decide (s=t))=true then s else t
def d7E (s t:ByteArray):ByteArray:=if (!sLt s t)=true then s else t
def a4b (e:Evt):List ByteArray:=if a1D e=false then [] else if e.op=2 then [d7G e.part e.into,d7E e.part e.into] else [e.part]
def a6g (e:Evt):Bool:=((((decide (((e.part.size:Nat):Int)≤300)&&decide (((e.kind.size:Nat):Int)≤300))&&decide (((e.into.size:Nat):Int)≤300))&&decide (((e.slot.size:Nat):Int)≤300))&&decide (((e.key.size:Nat):Int)≤300))&&decide (((e.value.size:Nat):Int)≤300)
def c5X (l:List Evt) (n:Int):Bool:=a3v (fun _ e=>a6g e) l l.length&&decide (((l.length:Nat):Int)≤n)
theorem d2n {α:Type} [DecidableEq α] {l m:List α} {i:Nat} (h1:i<l.length) (h2:i<m.length) (h:decide (l[i]=m[i])=false):decide (l=m)=false:=by
 rw[decide_eq_false_iff_not]at h ⊢
 rintro rfl;exact h rfl
theorem c4e {α:Type} {l m:List α} {i:Nat} (h1:i<l.length) (h2:i<m.length) (ht:l.take i=m.take i) (h:l[i]=m[i]):l.take (i+1)=m.take (i+1):=by
 rw[←a0c h1,←a0c h2,ht,h]
theorem c7S {α:Type} {l m:List α} {i:Nat} (h:l.length=m.length) (hi:l.length≤i) (ht:l.take i=m.take i):l=m:=by
 rw[List.take_of_length_le hi,List.take_of_length_le oM]at ht
 exact ht
end Go.Sx
