/- The judgement of a symbolic run: a frame read as a list of slots, private blocks, immutable memory; the rules for the forms of code. -/
import Derived.Tactics
import Derived.Orders
import Derived.WalkKit
import Derived.Laws.Entries
import Derived.Laws.NewBlocks
import Derived.KernelRfl
import Derived.TacticsIn
import Derived.OrdersIn
import Derived.RangeFuncRecord
set_option linter.all false
namespace Go.Sx
open Go
theorem bO : (∀ (p : Prop) [Decidable p], (decide p = true) = p) ∧ (∀ (p : Prop) [Decidable p], (decide p = false) = ¬p) ∧ (∀ b : Bool, ((!b) = true) = (b = false)) ∧ (∀ b : Bool, ((!b) = false) = (b = true)) ∧ (∀ a b : Bool, ((a && b) = true) = (a = true ∧ b = true)) ∧ (∀ a b : Bool, ((a || b) = true) = (a = true ∨ b = true)) ∧ (∀ a b : Bool, ((a || b) = false) = (a = false ∧ b = false)) := by
  refine ⟨?_, ?_, ?_, ?_, ?_, ?_, ?_⟩ <;> simp
theorem bS : (∀ b : Bool, (true && b) = b) ∧ (∀ b : Bool, (b && true) = b) ∧ (∀ b : Bool, (false && b) = false) ∧ (∀ b : Bool, (b && false) = false) ∧ (∀ b : Bool, (true || b) = true) ∧ (∀ b : Bool, (b || true) = true) ∧ (∀ b : Bool, (false || b) = b) ∧ (∀ b : Bool, (b || false) = b) ∧ ((!true) = false) ∧ ((!false) = true) := by
  refine ⟨?_, ?_, ?_, ?_, ?_, ?_, ?_, ?_, ?_, ?_⟩ <;> simp

/-- the fence of a walk: nothing is shut out; ρ: the round that it is in -/
def fen (ρ : Option Nat) : Fence := { Fence.wide with round := ρ }
def _root_.Go.Code.wq (ρ : Option Nat) (P : Program) (c : Code) (Q : Exit → Act → World → Prop) (a : Act) (w : World) : Prop := c.wpIn (fen ρ) 0 P Q a w
/-- the slots of a frame, and its marks -/
structure Sz where
  sz : Nat
  D : List Nat
def Sz.marks (n : Sz) : List Deferred := n.D.map fun r => { target := .collected r, args := #[] }
def After (P : Program) (s : Sem Next) (w : World) (R : Ending → World → Prop) : Prop :=
  match s.run P w with
  | .ok (.value v) w' => R (.returned v) w'
  | .ok (.enter f args) w' => Calls P f args w' R
  | .ok (.round l f tmps assign body) w' => RoundIn Fence.wide 0 P l f tmps assign body w' R
  | _ => False
theorem After.mono {P : Program} {s : Sem Next} {w : World} {R R' : Ending → World → Prop} (h : After P s w R) (hr : ∀ e w, R e w → R' e w) : After P s w R' := by
  unfold After at *
  split at h
  · exact hr _ _ h
  · exact Calls.mono h hr
  · exact RoundIn.mono h hr
  · exact h.elim
theorem cwq_mono {ρ : Option Nat} {P : Program} {c : Code} {Q Q' : Exit → Act → World → Prop} {a : Act} {w : World} (hq : ∀ e a w, Q e a w → Q' e a w) (h : c.wq ρ P Q a w) : c.wq ρ P Q' a w := Go.wpIn_mono h hq
/-- what an operation that is no jump comes to -/
def _root_.Go.Oper.wq (P : Program) (o : Oper) (a : Act) (w : World) (K : Act → World → Prop) : Prop :=
  match (execOp a.eval o).run P w with
  | .ok .skip w' => K (a.put o.dst undef) w'
  | _ => After P (execOp a.eval o) w fun e w' => match e with
    | .returned v => K (a.put o.dst v) w'
    | _ => False
theorem wq_value {P : Program} {o : Oper} {a : Act} {w w' : World} {K : Act → World → Prop} {v : Value} (h : (execOp a.eval o).run P w = .ok (.value v) w') : o.wq P a w K = K (a.put o.dst v) w' := by
  simp [Oper.wq, After, h]
theorem wq_skip {P : Program} {o : Oper} {a : Act} {w w' : World} {K : Act → World → Prop} (h : (execOp a.eval o).run P w = .ok .skip w') : o.wq P a w K = K (a.put o.dst undef) w' := by
  simp [Oper.wq, h]
theorem wq_after {P : Program} {o : Oper} {a : Act} {w : World} {K : Act → World → Prop} (h : After P (execOp a.eval o) w fun e w' => match e with
    | .returned v => K (a.put o.dst v) w'
    | _ => False) : o.wq P a w K := by
  unfold Oper.wq
  split
  · rename_i w' hr; unfold After at h; rw [hr] at h; exact h.elim
  · exact h
theorem wq_mono {P : Program} {o : Oper} {a : Act} {w : World} {K K' : Act → World → Prop} (hk : ∀ a w, K a w → K' a w) (h : o.wq P a w K) : o.wq P a w K' := by
  unfold Oper.wq at *
  split
  · rename_i w' hr; rw [hr] at h; exact hk _ _ h
  · rename_i hn
    split at h
    · rename_i w' hr; exact absurd hr (hn w')
    · refine h.mono fun e w' he => ?_
      cases e with
      | returned v => exact hk _ _ he
      | panicked c => exact he
      | outgrown => exact he
theorem defer_after {P : Program} {o : Oper} {a : Act} {w : World} {c : Call} (ho : o.op = .defer c) {K : Act → World → Prop} : ¬ o.wq P a w K := by
  intro h
  unfold Oper.wq After at h
  have e : execOp a.eval o = (do Pure.pure (.defer (← resolve a.eval c o.type))) := by unfold execOp; rw [ho]
  rw [e] at h
  simp only [Sem.run_bind] at h
  cases hr : (resolve a.eval c o.type).run P w with
  | ok d w' => rw [hr] at h; simp [Result.andThen] at h
  | halt x w' => rw [hr] at h; simp [Result.andThen] at h
theorem callsIn_fen {P : Program} {ρ : Option Nat} {f : FuncId} {args : Array Value} {w : World} {R : Ending → World → Prop} {k : Nat} (h : Calls P f args w R) : CallsIn (fen ρ) k P f args w R :=
  (callsIn_wide (n := k)).2 h
theorem roundIn_fen {P : Program} {ρ : Option Nat} {l : Nat} {f : FuncId} {tmps : Array Value} {assign body : Code} {w : World} {R : Ending → World → Prop} (h : RoundIn Fence.wide 0 P l f tmps assign body w R) : RoundIn (fen ρ) 0 P l f tmps assign body w R := h
theorem wq_wpIn {P : Program} {o : Oper} {a : Act} {w : World} {ρ : Option Nat} {K : Act → World → Prop} {Q : Exit → Act → World → Prop} (h : o.wq P a w K) : o.wpIn (fen ρ) 0 P a w K Q := by
  refine ⟨fun _ _ => trivial, ?_⟩
  rw [Oper.semAt_eq _ _ _ (fun c hc => defer_after hc h)]
  unfold Oper.wq at h
  split at h
  · rename_i w' hr; rw [hr]; exact h
  · unfold After at h
    split at h
    · rename_i v w' hr; rw [hr]; exact h
    · rename_i f args w' hr
      rw [hr]
      refine ⟨fun hd => by simp [fen, Fence.wide] at hd, callsIn_fen (Calls.mono h fun e w'' he => ?_)⟩
      cases e <;> first | exact he | exact he.elim
    · rename_i l f tmps assign body w' hr
      rw [hr]
      refine ⟨fun hd => by simp [fen, Fence.wide] at hd, roundIn_fen (RoundIn.mono h fun e w'' he => ?_)⟩
      cases e <;> first | exact he | exact he.elim
    · exact h.elim
/-- one operation of a region, and what is asked behind it -/
def one (P : Program) (ops : Array Oper) (_Q : Exit → Act → World → Prop) (o : Oper) (K : Act → World → Prop) (a : Act) (w : World) : Prop :=
  if Region.wanted o (yielded ops a.tmps) then o.wq P a w K else K (a.put o.dst undef) w
theorem one_mono {P : Program} {ops : Array Oper} {Q Q' : Exit → Act → World → Prop} {o : Oper} {a : Act} {w : World} {K K' : Act → World → Prop} (hk : ∀ a w, K a w → K' a w) (h : one P ops Q o K a w) : one P ops Q' o K' a w := by
  unfold one at *
  split
  · rename_i hw; rw [if_pos hw] at h; exact wq_mono hk h
  · rename_i hw; rw [if_neg hw] at h; exact hk _ _ h
def wpL (P : Program) (ops : Array Oper) (Q : Exit → Act → World → Prop) : List Oper → Act → World → Prop
  | [], a, w => Q .normal a w
  | o :: rest, a, w => one P ops Q o (wpL P ops Q rest) a w
theorem wpL_in {P : Program} {ops : Array Oper} {Q : Exit → Act → World → Prop} {ρ : Option Nat} : ∀ (l : List Oper) (a : Act) (w : World), wpL P ops Q l a w → wpListIn (fen ρ) 0 P ops Q l a w
  | [], _, _, h => h
  | o :: rest, a, w, h => by
    have h : one P ops Q o (wpL P ops Q rest) a w := h
    have h : one P ops Q o (wpListIn (fen ρ) 0 P ops Q rest) a w := one_mono (fun a w h => wpL_in rest a w h) h
    unfold one at h
    unfold wpListIn
    split
    · rename_i hw; rw [if_pos hw] at h; exact wq_wpIn h
    · rename_i hw; rw [if_neg hw] at h; exact ⟨fun _ _ => trivial, h⟩

abbrev LL := List (Nat × Value)
/-- what a slot holds -/
def look : LL → Nat → Option Value
  | [], _ => none
  | (d, v) :: L, i => bif Nat.beq i d then some v else look L i

/-- the frame reads as L -/
structure St (n : Sz) (a : Act) (L : LL) : Prop where
  size : a.tmps.size = n.sz
  defers : a.defers = n.marks
  get : ∀ i v, look L i = some v → a.tmps[i]? = some v

def ev (L : LL) : Operand → Option Value
  | .tmp t => look L t
  | .const v => some v
  | .global g => some (.pointer (some ⟨g, 0, none⟩))
  | .func f => some (.func (.func f) #[] #[])

theorem St.ev {n : Sz} {a : Act} {L : LL} {x : Operand} {v : Value} (h : St n a L) (hx : ev L x = some v) : a.eval x = v := by
  cases x with
  | tmp t =>
    have := h.get t v hx
    simp [Act.eval, this]
  | const c => simpa [Sx.ev, Act.eval] using hx
  | global g => simpa [Sx.ev, Act.eval] using hx
  | func f => simpa [Sx.ev, Act.eval] using hx

theorem St.put {n : Sz} {a : Act} {L : LL} {d : Nat} {v : Value} (h : St n a L) (hd : Nat.blt d n.sz = true) : St n (a.put (some d) v) ((d, v) :: L) where
  size := by simp [Act.put, h.size]
  defers := by simp [Act.put, h.defers]
  get := by
    intro i u hu
    have hd' : d < a.tmps.size := by rw [h.size]; simpa [Nat.blt_eq] using hd
    simp only [look] at hu
    by_cases e : i = d
    · subst e
      simp at hu
      subst hu
      simp [Act.put, hd']
    · have : Nat.beq i d = false := by rw [Bool.eq_false_iff]; intro hb; exact e (Nat.eq_of_beq_eq_true hb)
      rw [this] at hu
      simp only [cond_false] at hu
      simp only [Act.put]
      rw [Array.getElem?_setIfInBounds_ne (Ne.symm e)]
      exact h.get i u hu

def Sub : LL → LL → Prop
  | [], _ => True
  | p :: r, L => look L p.1 = some p.2 ∧ Sub r L
theorem St.sub {n : Sz} {a : Act} {L L' : LL} (h : St n a L) (hs : Sub L' L) : St n a L' where
  size := h.size
  defers := h.defers
  get := by
    intro i v
    induction L' with
    | nil => intro hv; simp [look] at hv
    | cons p r ih =>
      obtain ⟨d, u⟩ := p
      obtain ⟨h1, h2⟩ := hs
      intro hv
      simp only [look] at hv
      cases hb : Nat.beq i d with
      | true =>
        rw [hb] at hv
        simp at hv
        subst hv
        obtain rfl : i = d := Nat.eq_of_beq_eq_true hb
        exact h.get _ _ h1
      | false =>
        rw [hb] at hv
        exact ih h2 hv

/-- immutable memory -/
abbrev IMap := Nat → Option Obj
def ILe (I I' : IMap) : Prop := ∀ b o, I b = some o → I' b = some o
theorem ILe.refl (I : IMap) : ILe I I := fun _ _ h => h
theorem ILe.trans {I I' I'' : IMap} (h : ILe I I') (h' : ILe I' I'') : ILe I I'' := fun b o x => h' b o (h b o x)
def Con (I : IMap) (w : World) : Prop := ∀ b o, I b = some o → w.heap[b]? = some o

/-- what is owned -/
inductive Res where
  | blk (g : Nat) (t : TypeId) (cs : List Value)
  | row (v : Value) (t : TypeId) (k n : Nat) (xs : List Value)
  | mp (r : Nat) (es : List (Value × Value))
  | any (g : Nat) (o : Obj)
def blockOf : Value → Option Nat
  | .slice (some a) _ _ => some a.block
  | _ => none
def Res.foot : Res → Option Nat
  | .blk g _ _ => some g
  | .row v _ _ _ _ => blockOf v
  | .mp r _ => some r
  | .any g _ => some g
/-- a slice value that heads a row of its own, of which xs is what it holds -/
def IsRow (h : Option Nat → Option Obj) (v : Value) (t : TypeId) (k n : Nat) (xs : List Value) : Prop :=
  xs.length = n * k ∧ ((v = .slice none 0 0 ∧ n = 0) ∨
    ∃ g cap cur, v = .slice (some ⟨g, 0, none⟩) n cap ∧ h (some g) = some (.cells cur t (0, 0)) ∧ n ≤ cap ∧ cap ≤ maxLen ∧ cur.size = cap * k ∧ cur.toList.take (n * k) = xs)
def MapIs (o : Obj) (es : List (Value × Value)) : Prop :=
  ∃ entries clock, o = .map entries clock ∧ entries.toList.map (fun e => (e.key, e.val)) = es ∧ (entries.toList.map (·.born)).Nodup ∧ ∀ e ∈ entries.toList, e.born < clock
def Res.holdsAt (h : Option Nat → Option Obj) : Res → Prop
  | .blk g t cs => h (some g) = some (.cells cs.toArray t (0, 0))
  | .row v t k n xs => IsRow h v t k n xs
  | .mp r es => ∃ o, h (some r) = some o ∧ MapIs o es
  | .any g o => h (some g) = some o
def look' (w : World) : Option Nat → Option Obj
  | some g => w.heap[g]?
  | none => none
def Res.holds (w : World) (r : Res) : Prop := r.holdsAt (look' w)

theorem Res.lt {w : World} {r : Res} {g : Nat} (h : r.holds w) (hf : r.foot = some g) : g < w.heap.size := by
  have key : ∀ o, w.heap[g]? = some o → g < w.heap.size := fun o ho => (Array.getElem?_eq_some_iff.1 ho).1
  cases r with
  | blk g' t cs => simp only [Res.foot, Option.some.injEq] at hf; subst hf; exact key _ h
  | row v t k n xs =>
    obtain ⟨_, h⟩ := h
    rcases h with ⟨rfl, _⟩ | ⟨g', cap, cur, rfl, hh, _⟩
    · simp [Res.foot, blockOf] at hf
    · simp only [Res.foot, blockOf, Option.some.injEq] at hf; subst hf; exact key _ hh
  | mp r es => simp only [Res.foot, Option.some.injEq] at hf; subst hf; obtain ⟨o, ho, _⟩ := h; exact key _ ho
  | any g' o => simp only [Res.foot, Option.some.injEq] at hf; subst hf; exact key _ h
theorem Res.keep {w w' : World} {r : Res} (h : r.holds w) (hk : ∀ g, r.foot = some g → w'.heap[g]? = w.heap[g]?) : r.holds w' := by
  cases r with
  | blk g t cs => exact (hk g rfl).trans h
  | row v t k n xs =>
    obtain ⟨h1, h⟩ := h
    refine ⟨h1, ?_⟩
    rcases h with h | ⟨g, cap, cur, rfl, hh, hl⟩
    · exact .inl h
    · exact .inr ⟨g, cap, cur, rfl, (hk g rfl).trans hh, hl⟩
  | mp r es => obtain ⟨o, ho, h2⟩ := h; exact ⟨o, (hk r rfl).trans ho, h2⟩
  | any g o => exact (hk g rfl).trans h

/-- but for the blocks of X, what was there is as it was -/
structure Upd (X : List Nat) (w w' : World) : Prop where
  os : w'.os = w.os
  tape : w'.tape = w.tape
  output : w'.output = w.output
  size : w.heap.size ≤ w'.heap.size
  block : ∀ k, k < w.heap.size → k ∉ X → w'.heap[k]? = w.heap[k]?
theorem Upd.refl (X : List Nat) (w : World) : Upd X w w := ⟨rfl, rfl, rfl, Nat.le_refl _, fun _ _ _ => rfl⟩

/-- where a call began -/
structure Ent where
  X : List Nat
  I : IMap
  w : World

def foots (H : List Res) : List Nat := H.filterMap Res.foot

structure Mem (E : Ent) (I : IMap) (H : List Res) (w : World) : Prop where
  upd : Upd E.X E.w w
  con : Con I w
  mono : ILe E.I I
  fresh : ∀ b, I b ≠ none → E.I b ≠ none ∨ E.w.heap.size ≤ b ∨ b ∈ E.X
  holds : ∀ r ∈ H, r.holds w
  priv : ∀ r ∈ H, ∀ g, r.foot = some g → I g = none ∧ (E.w.heap.size ≤ g ∨ g ∈ E.X)
  dist : (foots H).Nodup

theorem mem_foots {H : List Res} {g : Nat} : g ∈ foots H ↔ ∃ r ∈ H, r.foot = some g := by simp [foots, List.mem_filterMap]

theorem Mem.size {E : Ent} {I : IMap} {H : List Res} {w : World} (h : Mem E I H w) : E.w.heap.size ≤ w.heap.size := h.upd.size
theorem Mem.ilt {E : Ent} {I : IMap} {H : List Res} {w : World} (h : Mem E I H w) {b : Nat} {o : Obj} (hb : I b = some o) : b < w.heap.size :=
  (Array.getElem?_eq_some_iff.1 (h.con b o hb)).1

/-- one step at the resource in front: only its block, or a new one, turns -/
theorem Mem.step {E : Ent} {I : IMap} {r r' : Res} {H : List Res} {w w' : World} (h : Mem E I (r :: H) w)
    (hos : w'.os = w.os) (htape : w'.tape = w.tape) (hout : w'.output = w.output) (hsize : w.heap.size ≤ w'.heap.size)
    (hblock : ∀ k, k < w.heap.size → r.foot ≠ some k → w'.heap[k]? = w.heap[k]?)
    (hr : r'.holds w') (hf : ∀ g, r'.foot = some g → r.foot = some g ∨ w.heap.size ≤ g) : Mem E I (r' :: H) w' := by
  have hE := h.upd.size
  have hsame : ∀ k, k < E.w.heap.size → k ∉ E.X → r.foot ≠ some k := fun k hk hX e => by
    have := (h.priv r (by simp) k e).2
    rcases this with hle | hx
    · omega
    · exact hX hx
  have hnd := h.dist
  have hrest : ∀ q ∈ H, ∀ g, q.foot = some g → r.foot ≠ some g := fun q hq g hg e => by
    have : (foots (r :: H)).Nodup := hnd
    simp only [foots, List.filterMap_cons, e] at this
    rw [List.nodup_cons] at this
    exact this.1 (List.mem_filterMap.2 ⟨q, hq, hg⟩)
  refine ⟨⟨hos.trans h.upd.os, htape.trans h.upd.tape, hout.trans h.upd.output, by omega, fun k hk hX => ?_⟩, fun b o hb => ?_, h.mono, h.fresh, ?_, ?_, ?_⟩
  · rw [hblock k (by omega) (hsame k hk hX)]
    exact h.upd.block k hk hX
  · have hc := h.con b o hb
    rw [hblock b (h.ilt hb) (fun e => by have := (h.priv r (by simp) b e).1; rw [hb] at this; cases this)]
    exact hc
  · intro q hq
    rcases List.mem_cons.1 hq with rfl | hq
    · exact hr
    · have hq' : q.holds w := h.holds q (by simp [hq])
      exact Res.keep hq' fun g hg => hblock g (Res.lt hq' hg) (hrest q hq g hg)
  · intro q hq g hg
    rcases List.mem_cons.1 hq with rfl | hq
    · rcases hf g hg with e | hge
      · exact h.priv r (by simp) g e
      · refine ⟨?_, .inl (by omega)⟩
        cases hI : I g with
        | none => rfl
        | some o => have := h.ilt hI; omega
    · exact h.priv q (by simp [hq]) g hg
  · have hndH : (foots H).Nodup := by
      simp only [foots, List.filterMap_cons] at hnd
      split at hnd
      · exact hnd
      · exact (List.nodup_cons.1 hnd).2
    simp only [foots, List.filterMap_cons]
    split
    · exact hndH
    · rename_i g hg
      refine List.nodup_cons.2 ⟨fun hm => ?_, hndH⟩
      obtain ⟨q, hq, hqf⟩ := List.mem_filterMap.1 hm
      rcases hf g hg with e | hge
      · exact hrest q hq g hqf e
      · have := Res.lt (h.holds q (by simp [hq])) hqf
        omega

/-- a resource that has no block in front of a memory: the way in for what is new -/
theorem Mem.nilrow {E : Ent} {I : IMap} {H : List Res} {w : World} (h : Mem E I H w) (t : TypeId) (k : Nat) : Mem E I (.row (.slice none 0 0) t k 0 [] :: H) w :=
  ⟨h.upd, h.con, h.mono, h.fresh, by
    intro q hq
    rcases List.mem_cons.1 hq with rfl | hq
    · exact ⟨by simp, .inl ⟨rfl, rfl⟩⟩
    · exact h.holds q hq, by
    intro q hq g hg
    rcases List.mem_cons.1 hq with rfl | hq
    · simp [Res.foot, blockOf] at hg
    · exact h.priv q hq g hg, by have := h.dist; simp only [foots, List.filterMap_cons, Res.foot, blockOf] at this ⊢; exact this⟩
theorem Mem.drop {E : Ent} {I : IMap} {r : Res} {H : List Res} {w : World} (h : Mem E I (r :: H) w) : Mem E I H w :=
  ⟨h.upd, h.con, h.mono, h.fresh, fun q hq => h.holds q (by simp [hq]), fun q hq => h.priv q (by simp [hq]), by
    have hnd := h.dist
    simp only [foots, List.filterMap_cons] at hnd
    split at hnd
    · exact hnd
    · exact (List.nodup_cons.1 hnd).2⟩
theorem Mem.perm {E : Ent} {I : IMap} {H H' : List Res} {w : World} (h : Mem E I H w) (hp : H.Perm H') : Mem E I H' w :=
  ⟨h.upd, h.con, h.mono, h.fresh, fun q hq => h.holds q (hp.mem_iff.2 hq), fun q hq => h.priv q (hp.mem_iff.2 hq), (hp.filterMap _).nodup_iff.1 h.dist⟩
theorem Mem.new {E : Ent} {I : IMap} {H : List Res} {w w' : World} (h : Mem E I H w) {r : Res}
    (hos : w'.os = w.os) (htape : w'.tape = w.tape) (hout : w'.output = w.output) (hsize : w.heap.size ≤ w'.heap.size)
    (hblock : ∀ k, k < w.heap.size → w'.heap[k]? = w.heap[k]?) (hr : r.holds w') (hf : ∀ g, r.foot = some g → w.heap.size ≤ g) : Mem E I (r :: H) w' :=
  (h.nilrow 0 0).step hos htape hout hsize (fun k hk _ => hblock k hk) hr fun g hg => .inr (hf g hg)
theorem Mem.other {E : Ent} {I : IMap} {H : List Res} {w w' : World} (h : Mem E I H w)
    (hos : w'.os = w.os) (htape : w'.tape = w.tape) (hout : w'.output = w.output) (hsize : w.heap.size ≤ w'.heap.size)
    (hblock : ∀ k, k < w.heap.size → w'.heap[k]? = w.heap[k]?) : Mem E I H w' :=
  (h.new (r := .row (.slice none 0 0) 0 0 0 []) hos htape hout hsize hblock ⟨by simp, .inl ⟨rfl, rfl⟩⟩ (fun g hg => by simp [Res.foot, blockOf] at hg)).drop
theorem Mem.drew {E : Ent} {I : IMap} {H : List Res} {w : World} (h : Mem E I H w) : Mem E I H w.drew :=
  h.other rfl rfl rfl (Nat.le_refl _) fun _ _ => rfl
theorem Below_old (w : World) (o : Obj) (k : Nat) (h : k < w.heap.size) : (w.alloc o).heap[k]? = w.heap[k]? := by
  show (w.heap.push o)[k]? = _
  rw [Array.getElem?_push, if_neg (by omega)]
theorem Mem.alloc {E : Ent} {I : IMap} {H : List Res} {w : World} (h : Mem E I H w) (t : TypeId) (cs : List Value) :
    Mem E I (.blk w.heap.size t cs :: H) (w.alloc (.cells cs.toArray t)) :=
  h.new rfl rfl rfl (by simp) (fun k hk => Below_old w _ k hk) (heap_alloc_new w _) fun g hg => by simp only [Res.foot, Option.some.injEq] at hg; omega

/-- a block that is given up becomes immutable -/
def IMap.pub (I : IMap) (g : Nat) (o : Obj) : IMap := fun b => if b = g then some o else I b
theorem IMap.pub_same (I : IMap) (g : Nat) (o : Obj) : I.pub g o g = some o := by simp [IMap.pub]
theorem IMap.pub_le {I : IMap} {g : Nat} (o : Obj) (h : I g = none) : ILe I (I.pub g o) := fun b u hu => by
  unfold IMap.pub
  split
  · rename_i e; subst e; rw [h] at hu; cases hu
  · exact hu
theorem Mem.pub {E : Ent} {I : IMap} {r : Res} {H : List Res} {w : World} {g : Nat} {o : Obj} (h : Mem E I (r :: H) w) (hf : r.foot = some g) (ho : w.heap[g]? = some o) :
    Mem E (I.pub g o) H w := by
  have hp := h.priv r (by simp) g hf
  refine ⟨h.upd, fun b u hu => ?_, h.mono.trans (IMap.pub_le o hp.1), fun b hb => ?_, h.drop.holds, fun q hq g' hg' => ?_, h.drop.dist⟩
  · unfold IMap.pub at hu
    split at hu
    · rename_i e; subst e; cases hu; exact ho
    · exact h.con b u hu
  · unfold IMap.pub at hb
    split at hb
    · rename_i e; subst e; exact .inr hp.2
    · exact h.fresh b hb
  · have := h.drop.priv q hq g' hg'
    refine ⟨?_, this.2⟩
    unfold IMap.pub
    split
    · rename_i e
      subst e
      have hnd := h.dist
      simp only [foots, List.filterMap_cons, hf] at hnd
      exact absurd (List.mem_filterMap.2 ⟨q, hq, hg'⟩) (List.nodup_cons.1 hnd).1
    · exact this.1

/-! ## the judgement -/
def SX (n : Sz) (E : Ent) (I : IMap) (L : LL) (H : List Res) (K : Act → World → Prop) : Prop := ∀ a w, St n a L → Mem E I H w → K a w

section
variable {P : Program} {ρ : Option Nat} {n : Sz} {E : Ent} {I I' : IMap} {L L' : LL} {H H' : List Res} {K K' : Act → World → Prop} {Q : Exit → Act → World → Prop} {ops : Array Oper}

theorem sx_mono (h : SX n E I L H K) (hk : ∀ a w, K a w → K' a w) : SX n E I L H K' := fun a w s m => hk a w (h a w s m)
theorem sx_sub (hs : Sub L' L) (h : SX n E I L' H K) : SX n E I L H K := fun a w s m => h a w (s.sub hs) m
theorem sx_perm (hp : H.Perm H') (h : SX n E I L H' K) : SX n E I L H K := fun a w s m => h a w s (m.perm hp)
theorem sx_drop {r : Res} (h : SX n E I L H K) : SX n E I L (r :: H) K := fun a w s m => h a w s m.drop
theorem sx_mem (hm : ∀ w, Mem E I H w → Mem E I' H' w) (h : SX n E I' L H' K) : SX n E I L H K := fun a w s m => h a w s (hm w m)
/-- what the memory gives, into the context -/
theorem sx_know {p : Prop} (hp : ∀ w, Mem E I H w → p) (h : p → SX n E I L H K) : SX n E I L H K := fun a w s m => h (hp w m) a w s m
theorem sx_nilrow (t : TypeId) (k : Nat) (h : SX n E I L (.row (.slice none 0 0) t k 0 [] :: H) K) : SX n E I L H K := fun a w s m => h a w s (m.nilrow t k)

theorem sx_split {v : Bool} (t : Nat) (_ : look L t = some (.bool v)) (h1 : v = true → SX n E I L H K) (h2 : v = false → SX n E I L H K) : SX n E I L H K := by
  cases v
  · exact h2 rfl
  · exact h1 rfl

theorem bring1 {r0 r : Res} (h : SX n E I L (r :: r0 :: H) K) : SX n E I L (r0 :: r :: H) K := sx_perm (.swap r r0 H) h
theorem bring2 {r0 r1 r : Res} (h : SX n E I L (r :: r0 :: r1 :: H) K) : SX n E I L (r0 :: r1 :: r :: H) K :=
  sx_perm (List.perm_middle (l₁ := [r0, r1])) h
theorem bring3 {r0 r1 r2 r : Res} (h : SX n E I L (r :: r0 :: r1 :: r2 :: H) K) : SX n E I L (r0 :: r1 :: r2 :: r :: H) K :=
  sx_perm (List.perm_middle (l₁ := [r0, r1, r2])) h
theorem bring4 {r0 r1 r2 r3 r : Res} (h : SX n E I L (r :: r0 :: r1 :: r2 :: r3 :: H) K) : SX n E I L (r0 :: r1 :: r2 :: r3 :: r :: H) K :=
  sx_perm (List.perm_middle (l₁ := [r0, r1, r2, r3])) h
theorem bring5 {r0 r1 r2 r3 r4 r : Res} (h : SX n E I L (r :: r0 :: r1 :: r2 :: r3 :: r4 :: H) K) : SX n E I L (r0 :: r1 :: r2 :: r3 :: r4 :: r :: H) K :=
  sx_perm (List.perm_middle (l₁ := [r0, r1, r2, r3, r4])) h
theorem bring6 {r0 r1 r2 r3 r4 r5 r : Res} (h : SX n E I L (r :: r0 :: r1 :: r2 :: r3 :: r4 :: r5 :: H) K) : SX n E I L (r0 :: r1 :: r2 :: r3 :: r4 :: r5 :: r :: H) K :=
  sx_perm (List.perm_middle (l₁ := [r0, r1, r2, r3, r4, r5])) h
theorem bring7 {r0 r1 r2 r3 r4 r5 r6 r : Res} (h : SX n E I L (r :: r0 :: r1 :: r2 :: r3 :: r4 :: r5 :: r6 :: H) K) : SX n E I L (r0 :: r1 :: r2 :: r3 :: r4 :: r5 :: r6 :: r :: H) K :=
  sx_perm (List.perm_middle (l₁ := [r0, r1, r2, r3, r4, r5, r6])) h
theorem bring8 {r0 r1 r2 r3 r4 r5 r6 r7 r : Res} (h : SX n E I L (r :: r0 :: r1 :: r2 :: r3 :: r4 :: r5 :: r6 :: r7 :: H) K) : SX n E I L (r0 :: r1 :: r2 :: r3 :: r4 :: r5 :: r6 :: r7 :: r :: H) K :=
  sx_perm (List.perm_middle (l₁ := [r0, r1, r2, r3, r4, r5, r6, r7])) h

/-! control -/
theorem c_seq {x y : Code} (h : SX n E I L H (x.wq ρ P (Exit.then (y.wq ρ P Q) Q))) : SX n E I L H ((Code.seq x y).wq ρ P Q) := fun a w s m => wpIn_seq (h a w s m)
theorem c_skip (h : SX n E I L H (Q .normal)) : SX n E I L H (Code.skip.wq ρ P Q) := fun a w s m => wpIn_skip (h a w s m)
theorem c_block {id : Nat} {c : Code} (h : SX n E I L H (c.wq ρ P (Exit.inBlock id Q))) : SX n E I L H ((Code.block id c).wq ρ P Q) := fun a w s m => wpIn_block (h a w s m)
theorem c_exit {id : Nat} (h : SX n E I L H (Q (.exit id))) : SX n E I L H ((Code.exit id).wq ρ P Q) := fun a w s m => wpIn_exit (h a w s m)
theorem c_ret (h : SX n E I L H (Q .ret)) : SX n E I L H (Code.ret.wq ρ P Q) := fun a w s m => wpIn_ret (h a w s m)
theorem c_region {id : Nat} {l : List Oper} (h : SX n E I L H (wpL P l.toArray Q l)) : SX n E I L H ((Code.region id l.toArray false).wq ρ P Q) :=
  fun a w s m => wpIn_region_lit (wpL_in _ _ _ (h a w s m))
theorem c_cond {c : Operand} {x y : Code} {b : Bool} (hc : ev L c = some (.bool b)) (ht : b = true → SX n E I L H (x.wq ρ P Q)) (hf : b = false → SX n E I L H (y.wq ρ P Q)) :
    SX n E I L H ((Code.cond c x y).wq ρ P Q) := fun a w s m =>
  wpIn_cond_split (s.ev hc) (fun e => ht e a w s m) (fun e => hf e a w s m)
theorem c_if {c : Operand} {x y : Code} {p : Prop} [Decidable p] (hc : ev L c = some (.bool (decide p))) (ht : p → SX n E I L H (x.wq ρ P Q)) (hf : ¬ p → SX n E I L H (y.wq ρ P Q)) :
    SX n E I L H ((Code.cond c x y).wq ρ P Q) := c_cond hc (fun e => ht (of_decide_eq_true e)) (fun e => hf (of_decide_eq_false e))
theorem c_ifn {c : Operand} {x y : Code} {p : Prop} [Decidable p] (hc : ev L c = some (.bool (!decide p))) (ht : ¬ p → SX n E I L H (x.wq ρ P Q)) (hf : p → SX n E I L H (y.wq ρ P Q)) :
    SX n E I L H ((Code.cond c x y).wq ρ P Q) := c_cond hc (fun e => ht (by simpa using e)) (fun e => hf (by simpa using e))
theorem c_true {c : Operand} {x y : Code} (hc : ev L c = some (.bool true)) (ht : SX n E I L H (x.wq ρ P Q)) : SX n E I L H ((Code.cond c x y).wq ρ P Q) :=
  fun a w s m => wpIn_cond_true (s.ev hc) (ht a w s m)
theorem c_false {c : Operand} {x y : Code} (hc : ev L c = some (.bool false)) (ht : SX n E I L H (y.wq ρ P Q)) : SX n E I L H ((Code.cond c x y).wq ρ P Q) :=
  fun a w s m => wpIn_cond_false (s.ev hc) (ht a w s m)

/-! where a piece ends -/
theorem q_then {N : Act → World → Prop} (h : SX n E I L H N) : SX n E I L H (Exit.then N Q .normal) := h
theorem q_then_exit {N : Act → World → Prop} {id : Nat} (h : SX n E I L H (Q (.exit id))) : SX n E I L H (Exit.then N Q (.exit id)) := h
theorem q_then_ret {N : Act → World → Prop} (h : SX n E I L H (Q .ret)) : SX n E I L H (Exit.then N Q .ret) := h
theorem q_block {id : Nat} (h : SX n E I L H (Q .normal)) : SX n E I L H (Exit.inBlock id Q .normal) := h
theorem q_block_ret {id : Nat} (h : SX n E I L H (Q .ret)) : SX n E I L H (Exit.inBlock id Q .ret) := h
theorem q_block_eq {id : Nat} (h : SX n E I L H (Q .normal)) : SX n E I L H (Exit.inBlock id Q (.exit id)) := fun a w s m => by
  simp only [Exit.inBlock, if_true]; exact h a w s m
theorem q_block_ne {id id' : Nat} (hne : Nat.beq id' id = false) (h : SX n E I L H (Q (.exit id'))) : SX n E I L H (Exit.inBlock id Q (.exit id')) := fun a w s m => by
  have : id' ≠ id := fun e => by subst e; simp at hne
  simp only [Exit.inBlock, this, if_false]; exact h a w s m

/-- a loop whose measure is part of its relation -/
theorem wq_loop_rel {c : Code} {a : Act} {w : World} (J : Nat → Act → World → Prop) (k : Nat) (h₀ : J k a w)
    (round : ∀ k a w, J k a w → c.wq ρ P (Exit.then (fun a' w' => ∃ k', k' < k ∧ J k' a' w') Q) a w) : (Code.loop c).wq ρ P Q a w := by
  intro b s cs hro hb hr
  have key : ∀ k a w, J k a w → ∃ e a' w', Q e a' w' ∧ ArrivesIn (Machine.fenced P (fen ρ)) P (lone (b.atR a (.code c :: .inLoop c :: s)) cs w) b s cs e a' w' := by
    intro k
    induction k using Nat.strongRecOn with
    | _ k ih =>
      intro a w hJ
      obtain ⟨e, a₁, w₁, hq, harr⟩ := round k a w hJ b (.inLoop c :: s) cs hro hb hr
      cases e with
      | normal =>
        obtain ⟨k', hlt, hJ₁⟩ := hq
        obtain ⟨e₂, a₂, w₂, hq₂, harr₂⟩ := ih k' hlt a₁ w₁ hJ₁
        exact ⟨e₂, a₂, w₂, hq₂, .of_steps (StepsIn.trans harr (.one (fenced_calm (fr := b.atR a₁ (.inLoop c :: s)) hb hr rfl) stepR_inLoop)) harr₂⟩
      | exit id => exact ⟨_, a₁, w₁, hq, .pass (x := .inLoop c) rfl (fun _ _ => .inl (by simp)) harr⟩
      | goto l => exact ⟨_, a₁, w₁, hq, .pass (x := .inLoop c) rfl (fun _ _ => .inl (by simp)) harr⟩
      | ret => exact ⟨_, a₁, w₁, hq, .pass (x := .inLoop c) rfl (fun _ _ => .inl (by simp)) harr⟩
      | panic ch => exact ⟨_, a₁, w₁, hq, .pass (x := .inLoop c) rfl (fun _ _ => .inl (by simp)) harr⟩
      | outgrown => exact ⟨_, a₁, w₁, hq, .pass (x := .inLoop c) rfl (fun _ _ => .inl (by simp)) harr⟩
  obtain ⟨e, a', w', hq, harr⟩ := key k a w h₀
  exact ⟨e, a', w', hq, .of_steps (.one (fenced_calm (fr := b.atR a (.code (.loop c) :: s)) hb hr rfl) stepR_loop) harr⟩
/-- the state that a round hands on -/
def NextS {α : Type} (n : Sz) (E : Ent) (Ix : α → IMap) (Lx : α → LL) (Hx : α → List Res) (p : α → Prop) (μ : α → Nat) (x : α) (a : Act) (w : World) : Prop :=
  ∃ y, p y ∧ μ y < μ x ∧ St n a (Lx y) ∧ Mem E (Ix y) (Hx y) w
theorem c_loop {α : Type} (x0 : α) (Ix : α → IMap) (Lx : α → LL) (Hx : α → List Res) (p : α → Prop) (μ : α → Nat) {c : Code}
    (h0 : p x0) (hI : Ix x0 = I) (hL : Sub (Lx x0) L) (hH : Hx x0 = H)
    (round : ∀ x, p x → SX n E (Ix x) (Lx x) (Hx x) (c.wq ρ P (Exit.then (NextS n E Ix Lx Hx p μ x) Q))) : SX n E I L H ((Code.loop c).wq ρ P Q) := by
  intro a w s m
  exact wq_loop_rel (fun k a w => ∃ x, p x ∧ μ x = k ∧ St n a (Lx x) ∧ Mem E (Ix x) (Hx x) w) (μ x0) ⟨x0, h0, rfl, s.sub hL, by rw [hI, hH]; exact m⟩
    fun k a w ⟨x, hp, hk, hs, hm⟩ => cwq_mono (fun e a' w' q => by
      cases e with
      | normal => obtain ⟨y, hpy, hlt, hsy, hmy⟩ := q; exact ⟨μ y, by omega, y, hpy, rfl, hsy, hmy⟩
      | _ => exact q) (round x hp a w hs hm)
theorem q_next {α : Type} {Ix : α → IMap} {Lx : α → LL} {Hx : α → List Res} {p : α → Prop} {μ : α → Nat} {x : α} (y : α) (hp : p y) (hμ : μ y < μ x)
    (hI : Ix y = I) (hL : Sub (Lx y) L) (hH : Hx y = H) : SX n E I L H (NextS n E Ix Lx Hx p μ x) :=
  fun a w s m => ⟨y, hp, hμ, s.sub hL, by rw [hI, hH]; exact m⟩

/-- the ways meet: from here on only L', H', I' are known -/
theorem c_cut {I' : IMap} {L' : LL} {H' : List Res} {c : Code} {N : Act → World → Prop}
    (h1 : SX n E I L H (c.wq ρ P (Exit.then (fun a w => St n a L' ∧ Mem E I' H' w) Q))) (h2 : SX n E I' L' H' N) : SX n E I L H (c.wq ρ P (Exit.then N Q)) := fun a w s m =>
  cwq_mono (fun e a w q => by cases e <;> first | exact q | exact h2 a w q.1 q.2) (h1 a w s m)
theorem c_cutL {L' : LL} {c : Code} {N : Act → World → Prop}
    (h1 : SX n E I L H (c.wq ρ P (Exit.then (fun a w => St n a L' ∧ Mem E I H w) Q))) (h2 : SX n E I L' H N) : SX n E I L H (c.wq ρ P (Exit.then N Q)) := c_cut h1 h2
/-- the same with a choice -/
theorem c_cutx {α : Type} {Ix : α → IMap} {Lx : α → LL} {Hx : α → List Res} {p : α → Prop} {c : Code} {N : Act → World → Prop}
    (h1 : SX n E I L H (c.wq ρ P (Exit.then (fun a w => ∃ x, p x ∧ St n a (Lx x) ∧ Mem E (Ix x) (Hx x) w) Q))) (h2 : ∀ x, p x → SX n E (Ix x) (Lx x) (Hx x) N) : SX n E I L H (c.wq ρ P (Exit.then N Q)) := fun a w s m =>
  cwq_mono (fun e a w q => by cases e <;> first | exact q | (obtain ⟨x, hp, hs, hm⟩ := q; exact h2 x hp a w hs hm)) (h1 a w s m)
theorem q_cut (hL : Sub L' L) (hH : H' = H) (hI : I' = I) : SX n E I L H (fun a w => St n a L' ∧ Mem E I' H' w) := fun _ _ s m => ⟨s.sub hL, by rw [hH, hI]; exact m⟩
theorem q_cutx {α : Type} {Ix : α → IMap} {Lx : α → LL} {Hx : α → List Res} {p : α → Prop} (x : α) (hp : p x) (hL : Sub (Lx x) L) (hH : Hx x = H) (hI : Ix x = I) :
    SX n E I L H (fun a w => ∃ x, p x ∧ St n a (Lx x) ∧ Mem E (Ix x) (Hx x) w) := fun _ _ s m => ⟨x, hp, s.sub hL, by rw [hH, hI]; exact m⟩

/-- the end of a region -/
theorem o_nil (h : SX n E I L H (Q .normal)) : SX n E I L H (wpL P ops Q []) := fun a w s m => h a w s m
end
end Go.Sx
