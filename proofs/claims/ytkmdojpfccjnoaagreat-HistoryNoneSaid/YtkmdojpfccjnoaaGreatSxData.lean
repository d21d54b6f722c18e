/- Data in immutable memory: what a slice, a struct reads as. -/
import Derived.Test.YtkmdojpfccjnoaaGreatSxFn
set_option linter.all false
namespace Go.Sx
open Go

class Enc (α : Type) where
  k : Nat
  rd : IMap → List Value → α → Prop
  len : ∀ {I : IMap} {vs : List Value} {x : α}, rd I vs x → vs.length = k
  mono : ∀ {I I' : IMap} {vs : List Value} {x : α}, ILe I I' → rd I vs x → rd I' vs x
  one : ∀ {I : IMap} {vs : List Value} {x : α}, rd I vs x → vs.all (·.oneCell') = true

/-- the cells behind a slice -/
def RdA {α : Type} [Enc α] (I : IMap) (A : Option Addr) (l : List α) : Prop :=
  0 < l.length → ∃ b o, A = some ⟨b, o, none⟩ ∧ ∀ i x, l[i]? = some x → ∃ vs, ICells I b (o + i * Enc.k α) vs ∧ Enc.rd I vs x
def RdS {α : Type} [Enc α] (I : IMap) (v : Value) (l : List α) : Prop := ∃ A c, v = .slice A l.length c ∧ RdA I A l ∧ l.length ≤ c ∧ c ≤ 9223372036854775807

section
variable {α : Type} [Enc α] {I I' : IMap} {A : Option Addr} {l : List α} {v : Value}
theorem RdA.le (h : RdA I A l) (hI : ILe I I') : RdA I' A l := fun hl => by
  obtain ⟨b, o, e, hx⟩ := h hl
  exact ⟨b, o, e, fun i x hi => by obtain ⟨vs, h1, h2⟩ := hx i x hi; exact ⟨vs, h1.le hI, Enc.mono hI h2⟩⟩
theorem RdS.le (h : RdS I v l) (hI : ILe I I') : RdS I' v l := by
  obtain ⟨A, c, h1, h2, h3⟩ := h; exact ⟨A, c, h1, h2.le hI, h3⟩
theorem RdA.at_ (h : RdA I A l) {i : Nat} (hi : i < l.length) : ∃ b o vs, A = some ⟨b, o, none⟩ ∧ ICells I b (o + i * Enc.k α) vs ∧ Enc.rd I vs (l[i]'hi) := by
  obtain ⟨b, o, e, hx⟩ := h (by omega)
  obtain ⟨vs, h1, h2⟩ := hx i _ (List.getElem?_eq_getElem hi)
  exact ⟨b, o, vs, e, h1, h2⟩
theorem RdA.nil : RdA (α := α) I A [] := fun h => absurd h (by simp)
theorem RdS.nil (c : Nat) (hc : c ≤ 9223372036854775807) : RdS (α := α) I (.slice A 0 c) [] := ⟨A, c, rfl, RdA.nil, Nat.zero_le _, hc⟩
theorem RdS.nil' : RdS (α := α) I (.slice none 0 0) [] := RdS.nil 0 (by omega)
theorem RdA.take (h : RdA I A l) (q : Nat) : RdA I A (l.take q) := fun hl => by
  obtain ⟨b, o, e, hx⟩ := h (by simp at hl; omega)
  exact ⟨b, o, e, fun i x hi => hx i x (by rw [List.getElem?_take] at hi; split at hi; exact hi; cases hi)⟩
theorem RdA.cut (h : RdA I A l) (q c : Nat) (hc : l.length ≤ c) : RdA I (cutA A c q (Enc.k α)) (l.drop q) := fun hl => by
  have hq : q < l.length := by simp at hl; omega
  obtain ⟨b, o, rfl, hx⟩ := h (by omega)
  refine ⟨b, o + q * Enc.k α, ?_, fun i x hi => ?_⟩
  · unfold cutA
    rw [if_neg (by omega)]
    simp [add_lit]
  · rw [List.getElem?_drop] at hi
    obtain ⟨vs, h1, h2⟩ := hx (q + i) x hi
    refine ⟨vs, ?_, h2⟩
    have : o + q * Enc.k α + i * Enc.k α = o + (q + i) * Enc.k α := by rw [Nat.add_mul]; omega
    rw [this]
    exact h1
theorem RdS.take {c : Nat} (h : RdS I (.slice A l.length c) l) (q : Nat) (hq : q ≤ l.length) : RdS I (.slice A q c) (l.take q) := by
  obtain ⟨A', c', h1, h2, h3, h4⟩ := h
  cases h1
  exact ⟨A, c, by rw [List.length_take, Nat.min_eq_left hq], h2.take q, by rw [List.length_take]; omega, h4⟩
theorem RdS.drop {c : Nat} (h : RdS I (.slice A l.length c) l) (q : Nat) (hq : q ≤ l.length) : RdS I (.slice (cutA A c q (Enc.k α)) (l.length - q) (c - q)) (l.drop q) := by
  obtain ⟨A', c', h1, h2, h3, h4⟩ := h
  cases h1
  exact ⟨_, _, by rw [List.length_drop], h2.cut q c h3, by rw [List.length_drop]; omega, by omega⟩
theorem RdS.mid {c : Nat} (h : RdS I (.slice A l.length c) l) (q r : Nat) (hq : q ≤ r) (hr : r ≤ l.length) : RdS I (.slice (cutA A c q (Enc.k α)) (r - q) (c - q)) ((l.take r).drop q) := by
  have h1 := h.take r hr
  have e : (l.take r).length = r := by rw [List.length_take]; omega
  have h2 := RdS.drop (l := l.take r) (A := A) (c := c) (by rw [e]; exact h1) q (by omega)
  rwa [e] at h2
end

instance : Enc Int where
  k := 1
  rd _ vs n := vs = [.int .i64 n]
  len h := by rw [h]; rfl
  mono _ h := h
  one h := by rw [h]; rfl
instance : Enc Bool where
  k := 1
  rd _ vs b := vs = [.bool b]
  len h := by rw [h]; rfl
  mono _ h := h
  one h := by rw [h]; rfl
instance : Enc ByteArray where
  k := 1
  rd _ vs s := vs = [.string s]
  len h := by rw [h]; rfl
  mono _ h := h
  one h := by rw [h]; rfl
instance {α : Type} [Enc α] : Enc (List α) where
  k := 1
  rd I vs l := ∃ v, vs = [v] ∧ RdS I v l
  len h := by obtain ⟨v, rfl, _⟩ := h; rfl
  mono hI h := by obtain ⟨v, rfl, h⟩ := h; exact ⟨v, rfl, h.le hI⟩
  one h := by obtain ⟨v, rfl, A, c, rfl, _⟩ := h; rfl

instance decMemStr (s : ByteArray) (l : List ByteArray) : Decidable (s ∈ l) := @List.instDecidableMemOfLawfulBEq ByteArray instBEqOfDecidableEq inferInstance s l
/-- a row of cells that reads as a list -/
inductive Flat {α : Type} [Enc α] (I : IMap) : List Value → List α → Prop
  | nil : Flat I [] []
  | cons {vs ws : List Value} {x : α} {l : List α} : Enc.rd I vs x → Flat I ws l → Flat I (vs ++ ws) (x :: l)
section
variable {α : Type} [Enc α] {I I' : IMap} {l l' : List α} {vs ws : List Value} {x : α}
theorem Flat.len (h : Flat I ws l) : ws.length = l.length * Enc.k α := by
  induction h with
  | nil => simp
  | cons h1 _ ih => simp only [List.length_append, Enc.len h1, ih, List.length_cons, Nat.add_mul]; omega
theorem Flat.le (h : Flat I ws l) (hI : ILe I I') : Flat I' ws l := by
  induction h with
  | nil => exact .nil
  | cons h1 _ ih => exact .cons (Enc.mono hI h1) ih
theorem Flat.append (h : Flat I vs l) (h' : Flat I ws l') : Flat I (vs ++ ws) (l ++ l') := by
  induction h with
  | nil => exact h'
  | cons h1 _ ih => rw [List.append_assoc]; exact .cons h1 ih
theorem Flat.one (h : Enc.rd I vs x) : Flat I vs [x] := by have := Flat.cons h .nil; simpa using this
theorem Flat.snoc (h : Flat I ws l) (h' : Enc.rd I vs x) : Flat I (ws ++ vs) (l ++ [x]) := h.append (.one h')
theorem Flat.all (h : Flat I ws l) : ws.all (·.oneCell') = true := by
  induction h with
  | nil => rfl
  | cons h1 _ ih => rw [List.all_append, Enc.one h1, ih]; rfl
theorem Flat.at_ (h : Flat I ws l) : ∀ (i : Nat) (x : α), l[i]? = some x → ∃ vs, Enc.rd I vs x ∧ ∀ j u, vs[j]? = some u → ws[i * Enc.k α + j]? = some u := by
  induction h with
  | nil => intro i x hi; simp at hi
  | cons h1 h2 ih =>
    rename_i vs ws y l
    intro i x hi
    cases i with
    | zero =>
      simp at hi
      subst hi
      refine ⟨vs, h1, fun j u hu => ?_⟩
      have : j < vs.length := (List.getElem?_eq_some_iff.1 hu).1
      rw [Nat.zero_mul, Nat.zero_add, List.getElem?_append_left this]
      exact hu
    | succ i =>
      simp at hi
      obtain ⟨us, h3, h4⟩ := ih i x hi
      refine ⟨us, h3, fun j u hu => ?_⟩
      have e := Enc.len h1
      rw [show (i + 1) * Enc.k α + j = vs.length + (i * Enc.k α + j) from by rw [e, Nat.add_mul]; omega, List.getElem?_append_right (by omega)]
      rw [Nat.add_sub_cancel_left]
      exact h4 j u hu
/-- the other way: what is read is such a row -/
theorem Flat.of_rd {b : Nat} : ∀ (l : List α) (o : Nat), (∀ i x, l[i]? = some x → ∃ vs, ICells I b (o + i * Enc.k α) vs ∧ Enc.rd I vs x) → ∃ ws, Flat I ws l ∧ ICells I b o ws := by
  intro l
  induction l with
  | nil => intro o _; exact ⟨[], .nil, fun j u hu => by simp at hu⟩
  | cons x l ih =>
    intro o h
    obtain ⟨vs, h1, h2⟩ := h 0 x rfl
    obtain ⟨ws, h3, h4⟩ := ih (o + Enc.k α) (fun i y hy => by
      obtain ⟨us, g1, g2⟩ := h (i + 1) y (by simpa using hy)
      refine ⟨us, ?_, g2⟩
      rw [show o + Enc.k α + i * Enc.k α = o + (i + 1) * Enc.k α from by rw [Nat.add_mul]; omega]
      exact g1)
    refine ⟨vs ++ ws, .cons h2 h3, fun j u hu => ?_⟩
    have e := Enc.len h2
    rcases Nat.lt_or_ge j vs.length with hj | hj
    · rw [List.getElem?_append_left hj] at hu
      simpa using h1 j u hu
    · rw [List.getElem?_append_right hj] at hu
      have := h4 _ u hu
      rwa [show o + Enc.k α + (j - vs.length) = o + j from by omega] at this
end

section
variable {P : Program} {ρ : Option Nat} {n : Sz} {E : Ent} {I : IMap} {L : LL} {H : List Res} {K : Act → World → Prop} {α : Type} [Enc α]
/-- a row is given up: it reads as a list from here on -/
theorem sx_pubrow {v : Value} {t k m : Nat} {xs : List Value} {l : List α} (hk : k = Enc.k α) (hm : m = l.length) (hF : Flat I xs l) (h : ∀ I', ILe I I' → RdS I' v l → SX n E I' L H K) : SX n E I L (.row v t k m xs :: H) K := by
  intro a w s mm
  have hr : IsRow (look' w) v t k m xs := mm.holds (.row v t k m xs) (List.mem_cons_self ..)
  obtain ⟨h1, h2⟩ := hr
  subst hk hm
  rcases h2 with ⟨rfl, h0⟩ | ⟨g, cap, cur, rfl, hh, hn, h4, hl, h3⟩
  · have : l = [] := List.eq_nil_of_length_eq_zero h0
    subst this
    exact h I (ILe.refl I) RdS.nil' a w s mm.drop
  · have hp := mm.pub (g := g) rfl hh
    have hle := IMap.pub_le (Obj.cells cur t (0, 0)) (mm.priv _ (List.mem_cons_self ..) g rfl).1
    refine h _ hle ⟨_, cap, rfl, fun _ => ⟨g, 0, rfl, fun i x hi => ?_⟩, hn, by unfold maxLen at h4; exact h4⟩ a w s hp
    obtain ⟨vs, g1, g2⟩ := hF.at_ i x hi
    refine ⟨vs, fun j u hu => ⟨_, t, (0, 0), IMap.pub_same _ _ _, ?_⟩, Enc.mono hle g1⟩
    have h5 := g2 j u hu
    have h6 : i * Enc.k α + j < xs.length := (List.getElem?_eq_some_iff.1 h5).1
    rw [Nat.zero_add]
    rw [← h3, List.getElem?_take] at h5
    split at h5
    · simpa using h5
    · cases h5
/-- a block is given up: its cells can be read for ever -/
theorem sx_pub {g t : Nat} {cs : List Value} (h : ∀ I', ILe I I' → ICells I' g 0 cs → SX n E I' L H K) : SX n E I L (.blk g t cs :: H) K := by
  intro a w s mm
  have hh : w.heap[g]? = some (.cells cs.toArray t (0, 0)) := mm.blk
  have hp := mm.pub (g := g) rfl hh
  exact h _ (IMap.pub_le _ (mm.priv _ (List.mem_cons_self ..) g rfl).1) (fun j u hu => ⟨_, t, (0, 0), IMap.pub_same _ _ _, by rw [Nat.zero_add]; simpa using hu⟩) a w s hp
end
end Go.Sx
