/- The library of a symbolic run: merged. -/
import Derived.Test.YtoadjlmbdliceaaGreatZa
import Derived.Laws.Shifts
import Derived.Scope
/- Lists in strict order of a name: what putting one in does. -/
set_option linter.all false
namespace Go.Sx
open Go
section
variable {α : Type} {nm : α → ByteArray}
def Inc (nm : α → ByteArray) (l : List α) : Prop := l.Pairwise fun x y => sLt (nm x) (nm y) = true
theorem inc_of {l : List α} (h : Srt nm l) : Inc nm l := by
  rw [Inc, List.pairwise_iff_getElem]
  exact fun i j hi hj hij => h i j hj hij
theorem of_inc {l : List α} (h : Inc nm l) : Srt nm l := by
  rw [Inc, List.pairwise_iff_getElem] at h
  exact fun i j hj hij => h i j (by omega) hj hij
/-- a list parted at a name -/
structure Cut (nm : α → ByteArray) (s : ByteArray) (a b : List α) : Prop where
  lo : ∀ y ∈ a, sLt (nm y) s = true
  hi : ∀ y ∈ b, sLt s (nm y) = true
theorem cut_of (l : List α) (s : ByteArray) (h : Inc nm l) : (∃ a b, l = a ++ b ∧ Cut nm s a b) ∨ ∃ a y b, l = a ++ y :: b ∧ nm y = s ∧ Cut nm s a b := by
  induction l with
  | nil => exact .inl ⟨[], [], rfl, fun _ h => (by cases h), fun _ h => (by cases h)⟩
  | cons x r ih =>
    have h' := List.pairwise_cons.1 h
    cases hx : sLt (nm x) s with
    | true =>
      rcases ih h'.2 with ⟨a, b, rfl, hc⟩ | ⟨a, y, b, rfl, hy, hc⟩
      · exact .inl ⟨x :: a, b, rfl, fun y hy => by rcases List.mem_cons.1 hy with rfl | hy; exact hx; exact hc.lo y hy, hc.hi⟩
      · exact .inr ⟨x :: a, y, b, rfl, hy, fun y hy => by rcases List.mem_cons.1 hy with rfl | hy; exact hx; exact hc.lo y hy, hc.hi⟩
    | false =>
      by_cases he : nm x = s
      · subst he
        exact .inr ⟨[], x, r, rfl, rfl, fun _ h => (by cases h), fun y hy => h'.1 y hy⟩
      · have hs : sLt s (nm x) = true := by
          cases hs : sLt s (nm x) with
          | true => rfl
          | false => exact absurd (sLt_tri hx hs) he
        exact .inl ⟨[], x :: r, rfl, fun _ h => (by cases h), fun y hy => by
          rcases List.mem_cons.1 hy with rfl | hy
          · exact hs
          · exact sLt_trans hs (h'.1 y hy)⟩
theorem pos_cut {a b : List α} {s : ByteArray} (hc : Cut nm s a b) : posF nm (a ++ b) s = a.length := by
  refine pos_eq (by simp) (fun q x hq hx => ?_) fun q x hq hx => ?_
  · rw [List.getElem?_append_left hq] at hx
    exact hc.lo x (List.mem_of_getElem? hx)
  · rw [List.getElem?_append_right hq] at hx
    exact sLt_asymm (hc.hi x (List.mem_of_getElem? hx))
theorem pos_cut1 {a b : List α} {y : α} {s : ByteArray} (hc : Cut nm s a b) (hy : nm y = s) : posF nm (a ++ y :: b) s = a.length := by
  refine pos_eq (by simp) (fun q x hq hx => ?_) fun q x hq hx => ?_
  · rw [List.getElem?_append_left hq] at hx
    exact hc.lo x (List.mem_of_getElem? hx)
  · rw [List.getElem?_append_right hq] at hx
    rcases List.mem_cons.1 (List.mem_of_getElem? hx) with rfl | hx
    · rw [hy]; exact sLt_irrefl s
    · exact sLt_asymm (hc.hi x hx)
theorem at_cut {a b : List α} {s : ByteArray} (hc : Cut nm s a b) : atF nm (a ++ b) s = false := by
  unfold atF
  rw [pos_cut hc]
  cases b with
  | nil => simp
  | cons y r =>
    rw [List.getElem?_append_right (Nat.le_refl _), Nat.sub_self]
    simp only [List.getElem?_cons_zero, decide_eq_false_iff_not]
    rintro rfl
    have := hc.hi y (by simp)
    rw [sLt_irrefl] at this; cases this
theorem at_cut1 {a b : List α} {y : α} {s : ByteArray} (hc : Cut nm s a b) (hy : nm y = s) : atF nm (a ++ y :: b) s = true := by
  unfold atF
  rw [pos_cut1 hc hy, List.getElem?_append_right (Nat.le_refl _), Nat.sub_self]
  simp [hy]
theorem put_cut {a b : List α} {x : α} (hc : Cut nm (nm x) a b) : putL nm (a ++ b) x = a ++ x :: b := by
  unfold putL
  rw [at_cut hc, pos_cut hc, if_neg (by decide)]
  simp
theorem put_cut1 {a b : List α} {x y : α} (hc : Cut nm (nm x) a b) (hy : nm y = nm x) : putL nm (a ++ y :: b) x = a ++ x :: b := by
  unfold putL
  rw [at_cut1 hc hy, pos_cut1 hc hy, if_pos rfl]
  simp
theorem inc_mid {a b : List α} {x : α} (ha : Inc nm a) (hb : Inc nm b) (hc : Cut nm (nm x) a b) : Inc nm (a ++ x :: b) := by
  rw [Inc, List.pairwise_append, List.pairwise_cons]
  exact ⟨ha, ⟨hc.hi, hb⟩, fun y hy z hz => by
    rcases List.mem_cons.1 hz with rfl | hz
    · exact hc.lo y hy
    · exact sLt_trans (hc.lo y hy) (hc.hi z hz)⟩
theorem put_inc {l : List α} (x : α) (h : Inc nm l) : Inc nm (putL nm l x) := by
  rcases cut_of l (nm x) h with ⟨a, b, rfl, hc⟩ | ⟨a, y, b, rfl, hy, hc⟩
  · rw [put_cut hc]
    rw [Inc, List.pairwise_append] at h
    exact inc_mid h.1 h.2.1 hc
  · rw [put_cut1 hc hy]
    rw [Inc, List.pairwise_append, List.pairwise_cons] at h
    exact inc_mid h.1 h.2.1.2 hc
theorem cut_ne {a b : List α} {s : ByteArray} (hc : Cut nm s a b) {y : α} (hy : y ∈ a ∨ y ∈ b) : nm y ≠ s := by
  rintro rfl
  rcases hy with hy | hy
  · have := hc.lo y hy; rw [sLt_irrefl] at this; cases this
  · have := hc.hi y hy; rw [sLt_irrefl] at this; cases this
theorem put_mem {l : List α} {x z : α} (h : Inc nm l) : z ∈ putL nm l x ↔ z = x ∨ (z ∈ l ∧ nm z ≠ nm x) := by
  rcases cut_of l (nm x) h with ⟨a, b, rfl, hc⟩ | ⟨a, y, b, rfl, hy, hc⟩
  · rw [put_cut hc]
    simp only [List.mem_append, List.mem_cons]
    constructor
    · rintro (h | h | h)
      · exact .inr ⟨.inl h, cut_ne hc (.inl h)⟩
      · exact .inl h
      · exact .inr ⟨.inr h, cut_ne hc (.inr h)⟩
    · rintro (h | ⟨h | h, _⟩)
      · exact .inr (.inl h)
      · exact .inl h
      · exact .inr (.inr h)
  · rw [put_cut1 hc hy]
    simp only [List.mem_append, List.mem_cons]
    constructor
    · rintro (h | h | h)
      · exact .inr ⟨.inl h, cut_ne hc (.inl h)⟩
      · exact .inl h
      · exact .inr ⟨.inr (.inr h), cut_ne hc (.inr h)⟩
    · rintro (h | ⟨h | h | h, hn⟩)
      · exact .inr (.inl h)
      · exact .inl h
      · subst h; exact absurd hy hn
      · exact .inr (.inr h)
theorem inc_uniq {l : List α} (h : Inc nm l) {x y : α} (hx : x ∈ l) (hy : y ∈ l) (he : nm x = nm y) : x = y := by
  obtain ⟨i, hi, rfl⟩ := List.getElem_of_mem hx
  obtain ⟨j, hj, rfl⟩ := List.getElem_of_mem hy
  rw [Inc, List.pairwise_iff_getElem] at h
  rcases Nat.lt_trichotomy i j with hij | rfl | hij
  · have := h i j hi hj hij; rw [he, sLt_irrefl] at this; cases this
  · rfl
  · have := h j i hj hi hij; rw [he, sLt_irrefl] at this; cases this
theorem inc_ext : ∀ {l m : List α}, Inc nm l → Inc nm m → (∀ x, x ∈ l ↔ x ∈ m) → l = m
  | [], [], _, _, _ => rfl
  | [], y :: m, _, _, h => by have := (h y).2 (by simp); cases this
  | x :: l, [], _, _, h => by have := (h x).1 (by simp); cases this
  | x :: l, y :: m, h1, h2, h => by
    have h1' := List.pairwise_cons.1 h1
    have h2' := List.pairwise_cons.1 h2
    have hxy : x = y := by
      rcases List.mem_cons.1 ((h x).1 (by simp)) with e | hx
      · exact e
      · rcases List.mem_cons.1 ((h y).2 (by simp)) with e | hy
        · exact e.symm
        · have a := h2'.1 x hx
          have b := h1'.1 y hy
          have := sLt_trans a b
          rw [sLt_irrefl] at this; cases this
    subst hxy
    congr 1
    refine inc_ext h1'.2 h2'.2 fun z => ?_
    have hz := h z
    simp only [List.mem_cons] at hz
    constructor
    · intro hzl
      rcases hz.1 (.inr hzl) with rfl | hm
      · have := h1'.1 z hzl; rw [sLt_irrefl] at this; cases this
      · exact hm
    · intro hzm
      rcases hz.2 (.inr hzm) with rfl | hm
      · have := h2'.1 z hzm; rw [sLt_irrefl] at this; cases this
      · exact hm
theorem put_comm {l : List α} {x y : α} (h : Inc nm l) (hn : nm x ≠ nm y) : putL nm (putL nm l x) y = putL nm (putL nm l y) x := by
  refine inc_ext (put_inc y (put_inc x h)) (put_inc x (put_inc y h)) fun z => ?_
  rw [put_mem (put_inc x h), put_mem h, put_mem (put_inc y h), put_mem h]
  constructor
  · rintro (rfl | ⟨rfl | ⟨h1, h2⟩, h3⟩)
    · exact .inr ⟨.inl rfl, fun e => hn e.symm⟩
    · exact .inl rfl
    · exact .inr ⟨.inr ⟨h1, h3⟩, h2⟩
  · rintro (rfl | ⟨rfl | ⟨h1, h2⟩, h3⟩)
    · exact .inr ⟨.inl rfl, hn⟩
    · exact .inl rfl
    · exact .inr ⟨.inr ⟨h1, h3⟩, h2⟩
theorem put_len {l : List α} {x : α} (h : Inc nm l) : (putL nm l x).length = if atF nm l (nm x) = true then l.length else l.length + 1 := by
  rcases cut_of l (nm x) h with ⟨a, b, rfl, hc⟩ | ⟨a, y, b, rfl, hy, hc⟩
  · rw [put_cut hc, at_cut hc]; simp; omega
  · rw [put_cut1 hc hy, at_cut1 hc hy]; simp
theorem find_inc {l : List α} (h : Inc nm l) {x : α} (hx : x ∈ l) : l.find? (fun y => decide (nm y = nm x)) = some x := by
  cases hf : l.find? fun y => decide (nm y = nm x) with
  | none =>
    rw [List.find?_eq_none] at hf
    have := hf x hx
    simp at this
  | some y =>
    have h1 := List.mem_of_find?_eq_some hf
    have h2 := List.find?_some hf
    rw [inc_uniq h h1 hx (by simpa using h2)]
theorem find_iff {l : List α} (h : Inc nm l) {s : ByteArray} {x : α} : l.find? (fun y => decide (nm y = s)) = some x ↔ x ∈ l ∧ nm x = s := by
  constructor
  · intro hf
    exact ⟨List.mem_of_find?_eq_some hf, by simpa using List.find?_some hf⟩
  · rintro ⟨hx, rfl⟩; exact find_inc h hx
theorem find_none {l : List α} {s : ByteArray} : l.find? (fun y => decide (nm y = s)) = none ↔ ∀ x ∈ l, nm x ≠ s := by
  rw [List.find?_eq_none]; simp
theorem put_find {l : List α} {x : α} (h : Inc nm l) (s : ByteArray) : (putL nm l x).find? (fun y => decide (nm y = s)) = if nm x = s then some x else l.find? fun y => decide (nm y = s) := by
  have h1 := put_inc x h
  split
  · rename_i e; subst e; exact find_inc h1 ((put_mem h).2 (.inl rfl))
  · rename_i e
    cases hf : l.find? fun y => decide (nm y = s) with
    | none =>
      rw [find_none] at hf ⊢
      intro z hz
      rcases (put_mem h).1 hz with rfl | ⟨hz, _⟩
      · exact e
      · exact hf z hz
    | some y =>
      rw [find_iff h] at hf
      rw [find_iff h1]
      exact ⟨(put_mem h).2 (.inr ⟨hf.1, fun e' => e (e'.symm.trans hf.2)⟩), hf.2⟩
theorem at_find {l : List α} (h : Inc nm l) (s : ByteArray) : atF nm l s = (l.find? fun y => decide (nm y = s)).isSome := by
  rcases cut_of l s h with ⟨a, b, rfl, hc⟩ | ⟨a, y, b, rfl, hy, hc⟩
  · rw [at_cut hc]
    have : (a ++ b).find? (fun y => decide (nm y = s)) = none := find_none.2 fun x hx => cut_ne hc (List.mem_append.1 hx)
    rw [this]; rfl
  · rw [at_cut1 hc hy]
    have : (a ++ y :: b).find? (fun y => decide (nm y = s)) = some y := (find_iff h).2 ⟨by simp, hy⟩
    rw [this]; rfl
theorem put_same {l : List α} {x : α} (h : Inc nm l) (hx : x ∈ l) : putL nm l x = l :=
  inc_ext (put_inc x h) h fun z => by
    rw [put_mem h]
    constructor
    · rintro (rfl | ⟨h1, _⟩)
      · exact hx
      · exact h1
    · intro hz
      by_cases e : nm z = nm x
      · exact .inl (inc_uniq h hz hx e)
      · exact .inr ⟨hz, e⟩
end
end Go.Sx

/- Sorting events by their day, keeping the order of one day: the plain part. -/
set_option linter.all false
namespace Go.Sx
open Go
/-- what is sorted by a number -/
class Day (α : Type) where
  day : α → Int
  ch : α → List Value
  k : Nat
  len : ∀ x, (ch x).length = k
instance : Day Evt := ⟨Evt.day, Evt.cells, 14, fun _ => rfl⟩
variable {α : Type} [Day α]
def evCh (l : List α) : List (List Value) := l.map Day.ch
theorem evCh_uk (l : List α) : Uk (Day.k α) (evCh l) := fun c hc => by obtain ⟨e, _, rfl⟩ := List.mem_map.1 hc; exact Day.len e
theorem evCh_len (l : List α) : (evCh l).length = l.length := by simp [evCh]
theorem evCh_at {l : List α} {i : Nat} (h : i < l.length) : (evCh l)[i]? = some (Day.ch l[i]) := by simp [evCh, h]
theorem evCh_set (l : List α) (i : Nat) (e : α) : (evCh l).set i (Day.ch e) = evCh (l.set i e) := by simp [evCh, List.map_set]
theorem evCh_ukE (l : List Evt) : Uk 14 (evCh l) := evCh_uk l
theorem evCh_flat {I : IMap} (l : List Evt) : FlatC I (evCh l) l := by
  induction l with
  | nil => exact .nil
  | cons e l ih => exact .cons rfl ih
theorem evCh_rest {l : List Evt} {rest : List (List Value)} {i : Nat} (h : i < l.length) : (evCh l ++ rest)[i]? = some (Day.ch l[i]) := by
  rw [List.getElem?_append_left (by rw [evCh_len]; exact h)]; exact evCh_at h
theorem evCh_set' (l : List Evt) (rest : List (List Value)) (i : Nat) (h : i < l.length) (e : Evt) : (evCh l ++ rest).set i (Day.ch e) = evCh (l.set i e) ++ rest := by
  rw [List.set_append_left _ _ (by rw [evCh_len]; exact h), evCh_set]
theorem evCh_of {I : IMap} {xss : List (List Value)} {l : List Evt} (h : FlatC I xss l) : xss = evCh l := by
  induction h with
  | nil => rfl
  | cons h1 _ ih => rw [ih]; simp only [evCh, List.map_cons]; rw [show _ = _ from h1]; rfl
/-- exchange two -/
def swp (l : List α) (i j : Nat) : List α := match l[i]?, l[j]? with
  | some x, some y => (l.set i y).set j x
  | _, _ => l
theorem swp_eq {l : List α} {i j : Nat} (hi : i < l.length) (hj : j < l.length) : swp l i j = (l.set i l[j]).set j l[i] := by simp [swp, hi, hj]
theorem swp_len (l : List α) (i j : Nat) : (swp l i j).length = l.length := by unfold swp; split <;> simp
def dayAt (l : List α) (k : Nat) : Int := (l[k]?.map Day.day).getD 0
theorem dayAt_eq {l : List α} {k : Nat} (h : k < l.length) : dayAt l k = Day.day l[k] := by simp [dayAt, h]
theorem swp_get {l : List α} {i j : Nat} (hi : i < l.length) (hj : j < l.length) (k : Nat) : (swp l i j)[k]? = if k = j then l[i]? else if k = i then l[j]? else l[k]? := by
  rw [swp_eq hi hj, List.getElem?_set, List.getElem?_set]
  by_cases h1 : j = k
  · subst h1; simp [hj, hi]
  · have : ¬ k = j := fun e => h1 e.symm
    by_cases h2 : i = k
    · subst h2; simp [h1, this, hi, hj]
    · have h3 : ¬ k = i := fun e => h2 e.symm
      simp [h1, h2, this, h3]
theorem swp_day {l : List α} {i j : Nat} (hi : i < l.length) (hj : j < l.length) (k : Nat) : dayAt (swp l i j) k = if k = j then dayAt l i else if k = i then dayAt l j else dayAt l k := by
  unfold dayAt
  rw [swp_get hi hj]
  split
  · rfl
  · split <;> rfl
/-- as many of each day, in the same order -/
def Stb (l m : List α) : Prop := l.length = m.length ∧ ∀ d : Int, m.filter (fun e => decide (Day.day e = d)) = l.filter (fun e => decide (Day.day e = d))
theorem Stb.refl (l : List α) : Stb l l := ⟨rfl, fun _ => rfl⟩
theorem Stb.trans {l m k : List α} (h : Stb l m) (h' : Stb m k) : Stb l k := ⟨h.1.trans h'.1, fun d => (h'.2 d).trans (h.2 d)⟩
/-- x in front of what is later than it may go behind -/
theorem filter_swap (a b : List α) (d : Int) (h : ∀ x ∈ a, ∀ y ∈ b, Day.day x ≠ Day.day y) : (b ++ a).filter (fun e => decide (Day.day e = d)) = (a ++ b).filter (fun e => decide (Day.day e = d)) := by
  rw [List.filter_append, List.filter_append]
  by_cases ha : a.filter (fun e => decide (Day.day e = d)) = []
  · rw [ha]; simp
  · have hb : b.filter (fun e => decide (Day.day e = d)) = [] := by
      rw [List.filter_eq_nil_iff]
      intro y hy
      obtain ⟨x, hx⟩ := List.exists_mem_of_ne_nil _ ha
      rw [List.mem_filter] at hx
      have := h x hx.1 y hy
      simp at hx ⊢
      omega
    rw [hb]; simp
theorem Stb.block {p a b s : List α} (h : ∀ x ∈ a, ∀ y ∈ b, Day.day x ≠ Day.day y) : Stb (p ++ (a ++ (b ++ s))) (p ++ (b ++ (a ++ s))) := by
  refine ⟨by simp; omega, fun d => ?_⟩
  have := filter_swap a b d h
  rw [List.filter_append, List.filter_append] at this
  simp only [List.filter_append]
  congr 1
  rw [← List.append_assoc, this, List.append_assoc]
def swpN (l : List α) (a b : Nat) : Nat → List α
  | 0 => l
  | k + 1 => swp (swpN l a b k) (a + k) (b + k)
theorem swpN_len (l : List α) (a b : Nat) : ∀ k, (swpN l a b k).length = l.length
  | 0 => rfl
  | k + 1 => by rw [swpN, swp_len, swpN_len l a b k]
theorem evCh_swp {l : List α} {i j : Nat} (hi : i < l.length) (hj : j < l.length) : ((evCh l).set i (Day.ch l[j])).set j (Day.ch l[i]) = evCh (swp l i j) := by
  rw [evCh_set, evCh_set, swp_eq hi hj]
theorem evCh_swp' {l : List α} {i j : Nat} (hi : i < l.length) (hj : j < l.length) (hij : i ≠ j) : ((evCh l).set j (Day.ch l[i])).set i (Day.ch l[j]) = evCh (swp l i j) := by
  rw [evCh_set, evCh_set, swp_eq hi hj, List.set_comm _ _ hij.symm]
theorem split2 (m : List α) {j : Nat} (hj : j + 1 < m.length) : m = m.take j ++ ([m[j]] ++ ([m[j + 1]] ++ m.drop (j + 2))) := by
  conv => lhs; rw [← List.take_append_drop j m, List.drop_eq_getElem_cons (by omega), List.drop_eq_getElem_cons hj]
  rfl
theorem swp_adj (m : List α) {j : Nat} (hj : j + 1 < m.length) : swp m (j + 1) j = m.take j ++ ([m[j + 1]] ++ ([m[j]] ++ m.drop (j + 2))) := by
  rw [swp_eq hj (by omega)]
  apply List.ext_getElem?
  intro k
  rw [List.getElem?_set, List.getElem?_set, List.getElem?_append]
  simp only [List.length_take, List.length_set]
  have hmin : min j m.length = j := by omega
  rw [hmin]
  by_cases h1 : k < j
  · simp [h1, show ¬ j = k by omega, show ¬ j + 1 = k by omega, List.getElem?_take]
  · rw [if_neg h1]
    obtain ⟨q, rfl⟩ : ∃ q, k = j + q := ⟨k - j, by omega⟩
    rw [Nat.add_sub_cancel_left]
    match q with
    | 0 => simp; omega
    | 1 => simp [hj]
    | q + 2 =>
      simp only [show ¬ j = j + (q + 2) by omega, show ¬ j + 1 = j + (q + 2) by omega, if_false]
      simp [List.getElem?_drop]
      congr 1
      omega
theorem swp_stb {l m : List α} {j : Nat} (h : Stb l m) (hj : j + 1 < m.length) (hd : dayAt m (j + 1) < dayAt m j) : Stb l (swp m (j + 1) j) := by
  refine h.trans ?_
  have e := split2 m hj
  rw [swp_adj m hj]
  conv => arg 1; rw [e]
  refine Stb.block fun x hx y hy => ?_
  rw [List.mem_singleton] at hx hy
  subst hx hy
  rw [dayAt_eq hj, dayAt_eq (by omega)] at hd
  omega
theorem swp_stb' {l m : List α} {j : Nat} (h : Stb l m) (h0 : 0 < j) (hj : j < m.length) (hd : dayAt m j < dayAt m (j - 1)) : Stb l (swp m j (j - 1)) := by
  obtain ⟨q, rfl⟩ : ∃ q, j = q + 1 := ⟨j - 1, by omega⟩
  exact swp_stb h hj hd
theorem cmpI_neg {a b : Int} : cmpI a b < 0 ↔ a < b := by
  unfold cmpI
  split
  · rename_i h; simp [h]
  · rename_i h; split <;> simp [h]
/-- a segment is sorted, and nothing else has turned -/
structure Seg (l m : List α) (a b : Nat) : Prop where
  stb : Stb l m
  out : ∀ k, k < a ∨ b ≤ k → m[k]? = l[k]?
  srt : ∀ p q, a ≤ p → p < q → q < b → dayAt m p ≤ dayAt m q
theorem Seg.one (l : List α) (a : Nat) : Seg l l a (a + 1) := ⟨Stb.refl l, fun _ _ => rfl, fun p q h1 h2 h3 => by omega⟩
theorem Seg.none {l : List α} {a b : Nat} (h : b ≤ a + 1) : Seg l l a b := ⟨Stb.refl l, fun _ _ => rfl, fun p q h1 h2 h3 => by omega⟩
/-- .. but for the element at j, that is on its way down -/
structure Ins (l m : List α) (a i j : Nat) : Prop where
  stb : Stb l m
  out : ∀ k, k < a ∨ i + 1 ≤ k → m[k]? = l[k]?
  srt : ∀ p q, a ≤ p → p < q → q ≤ i → q ≠ j → dayAt m p ≤ dayAt m q
theorem Ins.start {l m : List α} {a i : Nat} (h : Seg l m a i) : Ins l m a i i := ⟨h.stb, fun k hk => h.out k (by omega), fun p q h1 h2 h3 h4 => h.srt p q h1 h2 (by omega)⟩
theorem Ins.step {l m : List α} {a i j : Nat} (h : Ins l m a i j) (h1 : a < j) (h2 : j ≤ i) (h3 : i < m.length) (hd : dayAt m j < dayAt m (j - 1)) : Ins l (swp m j (j - 1)) a i (j - 1) := by
  refine ⟨swp_stb' h.stb (by omega) (by omega) hd, fun k hk => ?_, fun p q p1 p2 p3 p4 => ?_⟩
  · rw [swp_get (by omega) (by omega), if_neg (by omega), if_neg (by omega)]
    exact h.out k hk
  · rw [swp_day (by omega) (by omega), swp_day (by omega) (by omega)]
    rw [if_neg p4]
    by_cases hq : q = j
    · subst hq
      rw [if_pos rfl]
      by_cases hp : p = q - 1
      · rw [if_pos hp]; omega
      · rw [if_neg hp, if_neg (by omega)]
        exact h.srt p (q - 1) p1 (by omega) (by omega) (by omega)
    · rw [if_neg hq]
      by_cases hp : p = j - 1
      · rw [if_pos hp]
        exact h.srt j q (by omega) (by omega) p3 hq
      · rw [if_neg hp]
        by_cases hp2 : p = j
        · rw [if_pos hp2]
          exact h.srt (j - 1) q (by omega) (by omega) p3 hq
        · rw [if_neg hp2]
          exact h.srt p q p1 p2 p3 hq
theorem Ins.done {l m : List α} {a i j : Nat} (h : Ins l m a i j) (h1 : a ≤ j) (h2 : j ≤ i) (hd : j = a ∨ dayAt m (j - 1) ≤ dayAt m j) : Seg l m a (i + 1) := by
  refine ⟨h.stb, fun k hk => h.out k hk, fun p q p1 p2 p3 => ?_⟩
  by_cases hq : q = j
  · subst hq
    rcases hd with hd | hd
    · omega
    · rcases Nat.lt_or_ge p (q - 1) with hp | hp
      · exact Int.le_trans (h.srt p (q - 1) p1 hp (by omega) (by omega)) hd
      · obtain rfl : p = q - 1 := by omega
        exact hd
  · exact h.srt p q p1 p2 (by omega) hq
theorem Seg.len {l m : List α} {a b : Nat} (h : Seg l m a b) : m.length = l.length := h.stb.1.symm
theorem Ins.len {l m : List α} {a i j : Nat} (h : Ins l m a i j) : m.length = l.length := h.stb.1.symm
/-! blocks that change their places, place by place -/
def swpG (f : Nat → Option α) (a b n k : Nat) : Option α := if a ≤ k ∧ k < a + n then f (k - a + b) else if b ≤ k ∧ k < b + n then f (k - b + a) else f k
/-- [m - i, m) and [m, m + j), the one for the other -/
def rotG (f : Nat → Option α) (m i j k : Nat) : Option α := if m - i ≤ k ∧ k < m - i + j then f (k + i) else if m - i + j ≤ k ∧ k < m + j then f (k - j) else f k
theorem swpN_get {l : List α} {a b : Nat} : ∀ (n : Nat), a + n ≤ b → b + n ≤ l.length → ∀ k, (swpN l a b n)[k]? = swpG (l[·]?) a b n k
  | 0, _, _, k => by
    simp only [swpN, swpG]
    rw [if_neg (by omega), if_neg (by omega)]
  | n + 1, h1, h2, k => by
    have hl := swpN_len l a b n
    rw [swpN, swp_get (by omega) (by omega)]
    have ih := swpN_get n (l := l) (a := a) (b := b) (by omega) (by omega)
    rw [ih, ih, ih]
    simp only [swpG]
    repeat' split
    all_goals first
      | (exfalso; omega)
      | rfl
      | (congr 1; omega)
theorem rot_gt {f g : Nat → Option α} {m i j : Nat} (hm : i ≤ m) (h : j < i) (hg : ∀ k, g k = swpG f (m - i) m j k) (k : Nat) : rotG g m (i - j) j k = rotG f m i j k := by
  simp only [rotG, hg, swpG]
  repeat' split
  all_goals first
    | (exfalso; omega)
    | rfl
    | (congr 1; omega)
theorem rot_lt {f g : Nat → Option α} {m i j : Nat} (hm : i ≤ m) (h : i < j) (hg : ∀ k, g k = swpG f (m - i) (m + j - i) i k) (k : Nat) : rotG g m i (j - i) k = rotG f m i j k := by
  simp only [rotG, hg, swpG]
  repeat' split
  all_goals first
    | (exfalso; omega)
    | rfl
    | (congr 1; omega)
theorem rot_eq {f g : Nat → Option α} {m i : Nat} (hm : i ≤ m) (hg : ∀ k, g k = swpG f (m - i) m i k) (k : Nat) : g k = rotG f m i i k := by
  simp only [rotG, hg, swpG]
  repeat' split
  all_goals first
    | (exfalso; omega)
    | rfl
    | (congr 1; omega)
end Go.Sx

/- Merging two sorted segments: the plain part. -/
set_option linter.all false
namespace Go.Sx
open Go
variable {α : Type} [Day α]
/-- a piece of a list -/
def pc (l : List α) (a b : Nat) : List α := (l.drop a).take (b - a)
theorem pc_get {l : List α} {a b : Nat} (k : Nat) : (pc l a b)[k]? = if k < b - a then l[a + k]? else none := by
  rw [pc, List.getElem?_take, List.getElem?_drop]
theorem pc_len {l : List α} {a b : Nat} (h : b ≤ l.length) : (pc l a b).length = b - a := by rw [pc, List.length_take, List.length_drop]; omega
theorem pc_mem {l : List α} {a b : Nat} {x : α} (hx : x ∈ pc l a b) : ∃ p, a ≤ p ∧ p < b ∧ l[p]? = some x := by
  obtain ⟨k, hk⟩ := List.getElem?_of_mem hx
  rw [pc_get] at hk
  split at hk
  · exact ⟨a + k, by omega, by omega, hk⟩
  · cases hk
theorem mem_pc {l : List α} {a b p : Nat} {x : α} (h1 : a ≤ p) (h2 : p < b) (hx : l[p]? = some x) : x ∈ pc l a b := by
  refine List.mem_of_getElem? (i := p - a) ?_
  rw [pc_get, if_pos (by omega), show a + (p - a) = p from by omega]
  exact hx
theorem cut3 {l : List α} {a b : Nat} (h1 : a ≤ b) (h2 : b ≤ l.length) : l = l.take a ++ (pc l a b ++ l.drop b) := by
  have e : pc l a b ++ l.drop b = l.drop a := by
    have := List.take_append_drop (b - a) (l.drop a)
    rw [List.drop_drop, show a + (b - a) = b from by omega] at this
    exact this
  rw [e, List.take_append_drop]
theorem day_of {l : List α} {p : Nat} {x : α} (h : l[p]? = some x) : dayAt l p = Day.day x := by simp [dayAt, h]
/-- what has turned within a segment only has the same elements there -/
theorem seg_mem {l m : List α} {a b : Nat} (hs : Stb l m) (ho : ∀ k, k < a ∨ b ≤ k → m[k]? = l[k]?) (h1 : a ≤ b) (h2 : b ≤ l.length) {p : Nat} (hp1 : a ≤ p) (hp2 : p < b) : ∃ q, a ≤ q ∧ q < b ∧ dayAt m p = dayAt l q := by
  have hml : m.length = l.length := hs.1.symm
  have et : m.take a = l.take a := by
    apply List.ext_getElem?
    intro k
    rw [List.getElem?_take, List.getElem?_take]
    split
    · exact ho k (.inl (by omega))
    · rfl
  have ed : m.drop b = l.drop b := by
    apply List.ext_getElem?
    intro k
    rw [List.getElem?_drop, List.getElem?_drop]
    exact ho _ (.inr (by omega))
  have hx : m[p]? = some m[p] := List.getElem?_eq_getElem (by omega)
  obtain ⟨y, hy⟩ : ∃ y, y = m[p] := ⟨_, rfl⟩
  rw [← hy] at hx
  have key : ∀ d : Int, (pc m a b).filter (fun e => decide (Day.day e = d)) = (pc l a b).filter (fun e => decide (Day.day e = d)) := by
    intro d
    have hf := hs.2 d
    rw [show l.filter (fun e => decide (Day.day e = d)) = (l.take a ++ (pc l a b ++ l.drop b)).filter (fun e => decide (Day.day e = d)) from congrArg _ (cut3 h1 h2),
      show m.filter (fun e => decide (Day.day e = d)) = (m.take a ++ (pc m a b ++ m.drop b)).filter (fun e => decide (Day.day e = d)) from congrArg _ (cut3 h1 (by omega)), et, ed] at hf
    simp only [List.filter_append] at hf
    exact List.append_cancel_right (List.append_cancel_left hf)
  have hmem : y ∈ (pc m a b).filter (fun e => decide (Day.day e = Day.day y)) := List.mem_filter.2 ⟨mem_pc hp1 hp2 hx, by simp⟩
  rw [key] at hmem
  obtain ⟨hm1, hm2⟩ := List.mem_filter.1 hmem
  obtain ⟨q, q1, q2, q3⟩ := pc_mem hm1
  exact ⟨q, q1, q2, by rw [day_of hx, day_of q3]⟩
/-- exchanging two blocks, as lists -/
theorem rot_list {l k : List α} {a m b : Nat} (h1 : a ≤ m) (h2 : m ≤ b) (h3 : b ≤ l.length) (hk : k.length = l.length) (hr : ∀ q, k[q]? = rotG (l[·]?) m (m - a) (b - m) q) : k = l.take a ++ (pc l m b ++ (pc l a m ++ l.drop b)) := by
  apply List.ext_getElem?
  intro q
  rw [hr, rotG]
  have l1 : (l.take a).length = a := by rw [List.length_take]; omega
  have l2 := pc_len (l := l) (a := m) (b := b) h3
  have l3 := pc_len (l := l) (a := a) (b := m) (by omega)
  rw [List.getElem?_append, l1, List.getElem?_append, l2, List.getElem?_append, l3, List.getElem?_take, pc_get, pc_get, List.getElem?_drop]
  repeat' split
  all_goals first
    | (exfalso; omega)
    | rfl
    | (congr 1; omega)
theorem rot_stb {l k : List α} {a m b : Nat} (h1 : a ≤ m) (h2 : m ≤ b) (h3 : b ≤ l.length) (hk : k.length = l.length) (hr : ∀ q, k[q]? = rotG (l[·]?) m (m - a) (b - m) q) (hd : ∀ p q, a ≤ p → p < m → m ≤ q → q < b → dayAt l q < dayAt l p) : Stb l k := by
  have e := rot_list h1 h2 h3 hk hr
  have e2 : l = l.take a ++ (pc l a m ++ (pc l m b ++ l.drop b)) := by
    conv => lhs; rw [cut3 (l := l) (a := a) (b := m) h1 (by omega)]
    congr 2
    have := cut3 (l := l.drop m) (a := 0) (b := b - m) (by omega) (by rw [List.length_drop]; omega)
    simp only [List.take_zero, List.nil_append, List.drop_drop, show m + (b - m) = b from by omega] at this
    exact this
  rw [e]
  conv => arg 1; rw [e2]
  refine Stb.block fun x hx y hy => ?_
  obtain ⟨p, p1, p2, p3⟩ := pc_mem hx
  obtain ⟨q, q1, q2, q3⟩ := pc_mem hy
  have := hd p q p1 p2 q1 q2
  rw [day_of p3, day_of q3] at this
  omega
theorem rot_day {l k : List α} {m i j : Nat} (hr : ∀ q, k[q]? = rotG (l[·]?) m i j q) (q : Nat) : dayAt k q = if m - i ≤ q ∧ q < m - i + j then dayAt l (q + i) else if m - i + j ≤ q ∧ q < m + j then dayAt l (q - j) else dayAt l q := by
  unfold dayAt
  rw [hr, rotG]
  repeat' split
  all_goals rfl
/-- merged halves, the first of which is not behind the second -/
theorem seg_join {l m : List α} {a c b : Nat} (hs : Stb l m) (ho : ∀ k, k < a ∨ b ≤ k → m[k]? = l[k]?) (h1 : ∀ p q, a ≤ p → p < q → q < c → dayAt m p ≤ dayAt m q) (h2 : ∀ p q, c ≤ p → p < q → q < b → dayAt m p ≤ dayAt m q) (h3 : ∀ p q, a ≤ p → p < c → c ≤ q → q < b → dayAt m p ≤ dayAt m q) : Seg l m a b :=
  ⟨hs, ho, fun p q p1 p2 p3 => by
    rcases Nat.lt_or_ge q c with hq | hq
    · exact h1 p q p1 p2 hq
    · rcases Nat.lt_or_ge p c with hp | hp
      · exact h3 p q p1 hp hq p3
      · exact h2 p q hp p2 p3⟩
theorem Seg.trans_in {l m k : List α} {a b a' b' : Nat} (h1 : Stb l m) (h2 : ∀ k, k < a ∨ b ≤ k → m[k]? = l[k]?) (h : Seg m k a' b') (ha : a ≤ a') (hb : b' ≤ b) : Stb l k ∧ ∀ q, q < a ∨ b ≤ q → k[q]? = l[q]? :=
  ⟨h1.trans h.stb, fun q hq => (h.out q (by omega)).trans (h2 q hq)⟩
/-- sorted between two places -/
def SrtD (l : List α) (a b : Nat) : Prop := ∀ p q, a ≤ p → p < q → q < b → dayAt l p ≤ dayAt l q
theorem SrtD.le {l : List α} {a b : Nat} (h : SrtD l a b) {p q : Nat} (h1 : a ≤ p) (h2 : p ≤ q) (h3 : q < b) : dayAt l p ≤ dayAt l q := by
  rcases Nat.lt_or_ge p q with hp | hp
  · exact h p q h1 hp h3
  · obtain rfl : p = q := by omega
    exact Int.le_refl _
theorem SrtD.sub {l : List α} {a b a' b' : Nat} (h : SrtD l a b) (h1 : a ≤ a') (h2 : b' ≤ b) : SrtD l a' b' := fun p q p1 p2 p3 => h p q (by omega) p2 (by omega)
theorem SrtD.none {l : List α} {a b : Nat} (h : b ≤ a + 1) : SrtD l a b := fun p q h1 h2 h3 => by omega
theorem Seg.toD {l m : List α} {a b : Nat} (h : Seg l m a b) : SrtD m a b := h.srt
/-- a turn of two neighbouring pieces -/
structure Rot (l k : List α) (a s m e b : Nat) : Prop where
  stb : Stb l k
  out : ∀ q, q < s ∨ e ≤ q → k[q]? = l[q]?
  day : ∀ q, dayAt k q = if s ≤ q ∧ q < s + (e - m) then dayAt l (q + (m - s)) else if s + (e - m) ≤ q ∧ q < e then dayAt l (q - (e - m)) else dayAt l q
theorem Rot.of {l k : List α} {a s m e b : Nat} (h1 : s ≤ m) (h2 : m ≤ e) (h3 : e ≤ l.length) (hk : k.length = l.length) (hr : ∀ q, k[q]? = rotG (l[·]?) m (m - s) (e - m) q) (hd : ∀ p q, s ≤ p → p < m → m ≤ q → q < e → dayAt l q < dayAt l p) : Rot l k a s m e b := by
  refine ⟨rot_stb h1 h2 h3 hk hr hd, fun q hq => ?_, fun q => ?_⟩
  · rw [hr, rotG, if_neg (by omega), if_neg (by omega)]
  · rw [rot_day hr, show m - (m - s) = s from by omega, show m + (e - m) = e from by omega]
theorem Rot.id {l : List α} {a s m e b : Nat} (h : s = m ∨ e = m) (h1 : s ≤ m) (h2 : m ≤ e) : Rot l l a s m e b := by
  refine ⟨Stb.refl l, fun _ _ => rfl, fun q => ?_⟩
  rcases h with rfl | rfl
  · split
    · congr 1; omega
    · split
      · exfalso; omega
      · rfl
  · split
    · exfalso; omega
    · split
      · congr 1; omega
      · rfl
theorem Rot.len {l k : List α} {a s m e b : Nat} (h : Rot l k a s m e b) : k.length = l.length := h.stb.1.symm
/-- the four pieces behind a turn -/
theorem Rot.p1 {l k : List α} {a s m e b : Nat} (h : Rot l k a s m e b) (h1 : SrtD l a m) (g1 : s ≤ m) : SrtD k a s := fun p q p1 p2 p3 => by
  rw [h.day, h.day, if_neg (by omega), if_neg (by omega), if_neg (by omega), if_neg (by omega)]
  exact h1 p q p1 p2 (by omega)
theorem Rot.p2 {l k : List α} {a s m e b : Nat} (h : Rot l k a s m e b) (h2 : SrtD l m b) (g1 : s ≤ m) (g2 : m ≤ e) (g3 : e ≤ b) : SrtD k s (s + (e - m)) := fun p q p1 p2 p3 => by
  rw [h.day, h.day, if_pos (by omega), if_pos (by omega)]
  exact h2 _ _ (by omega) (by omega) (by omega)
theorem Rot.p3 {l k : List α} {a s m e b : Nat} (h : Rot l k a s m e b) (h1 : SrtD l a m) (g0 : a ≤ s) (g1 : s ≤ m) (g2 : m ≤ e) : SrtD k (s + (e - m)) e := fun p q p1 p2 p3 => by
  rw [h.day, h.day, if_neg (by omega), if_pos (by omega), if_neg (by omega), if_pos (by omega)]
  exact h1 _ _ (by omega) (by omega) (by omega)
theorem Rot.p4 {l k : List α} {a s m e b : Nat} (h : Rot l k a s m e b) (h2 : SrtD l m b) (g1 : s ≤ m) (g2 : m ≤ e) : SrtD k e b := fun p q p1 p2 p3 => by
  rw [h.day, h.day, if_neg (by omega), if_neg (by omega), if_neg (by omega), if_neg (by omega)]
  exact h2 p q (by omega) p2 p3
theorem Rot.cross {l k : List α} {a s m e b : Nat} (h : Rot l k a s m e b) (h1 : SrtD l a m) (h2 : SrtD l m b) (g0 : a ≤ s) (g1 : s ≤ m) (g2 : m ≤ e) (g3 : e ≤ b)
    (hx : ∀ p q, s ≤ p → p < m → m ≤ q → q < e → dayAt l q < dayAt l p) (hy : ∀ p q, a ≤ p → p < s → e ≤ q → q < b → dayAt l p ≤ dayAt l q) (p q : Nat) (p1 : a ≤ p) (p2 : p < s + (e - m)) (q1 : s + (e - m) ≤ q) (q2 : q < b) : dayAt k p ≤ dayAt k q := by
  rw [h.day p, h.day q]
  by_cases hp : s ≤ p
  · rw [if_pos ⟨hp, p2⟩]
    by_cases hq : q < e
    · rw [if_neg (by omega), if_pos ⟨q1, hq⟩]
      exact Int.le_of_lt (hx _ _ (by omega) (by omega) (by omega) (by omega))
    · rw [if_neg (by omega), if_neg (by omega)]
      exact h2.le (by omega) (by omega) q2
  · rw [if_neg (by omega), if_neg (by omega)]
    by_cases hq : q < e
    · rw [if_neg (by omega), if_pos ⟨q1, hq⟩]
      exact h1.le p1 (by omega) (by omega)
    · rw [if_neg (by omega), if_neg (by omega)]
      exact hy p q p1 (by omega) (by omega) q2
/-- both halves merged: all of it is -/
theorem Rot.done {l k k1 k2 : List α} {a s m e b c : Nat} (h : Rot l k a s m e b) (h1 : SrtD l a m) (h2 : SrtD l m b) (g0 : a ≤ s) (g1 : s ≤ m) (g2 : m ≤ e) (g3 : e ≤ b) (g4 : b ≤ l.length) (hc : s + (e - m) = c)
    (hx : ∀ p q, s ≤ p → p < m → m ≤ q → q < e → dayAt l q < dayAt l p) (hy : ∀ p q, a ≤ p → p < s → e ≤ q → q < b → dayAt l p ≤ dayAt l q) (s1 : Seg k k1 a c) (s2 : Seg k1 k2 c b) : Seg l k2 a b := by
  subst hc
  have hl := h.len
  have hl1 := s1.len
  have d1 : ∀ p, p < s + (e - m) → k2[p]? = k1[p]? := fun p hp => s2.out p (.inl hp)
  have d2 : ∀ p, s + (e - m) ≤ p → k1[p]? = k[p]? := fun p hp => s1.out p (.inr hp)
  have e1 : ∀ p, p < s + (e - m) → dayAt k2 p = dayAt k1 p := fun p hp => by unfold dayAt; rw [d1 p hp]
  refine seg_join (c := s + (e - m)) (h.stb.trans (s1.stb.trans s2.stb)) (fun q hq => ?_) (fun p q p1 p2 p3 => ?_) (fun p q p1 p2 p3 => s2.srt p q p1 p2 p3) (fun p q p1 p2 p3 p4 => ?_)
  · rw [s2.out q (by omega), s1.out q (by omega), h.out q (by omega)]
  · rw [e1 p (by omega), e1 q p3]; exact s1.srt p q p1 p2 p3
  · rw [e1 p p2]
    obtain ⟨p', a1, a2, a3⟩ := seg_mem s1.stb s1.out (by omega) (by omega) p1 p2
    obtain ⟨q', b1, b2, b3⟩ := seg_mem s2.stb s2.out (by omega) (by omega) p3 p4
    have : dayAt k1 q' = dayAt k q' := by unfold dayAt; rw [d2 q' b1]
    rw [a3, b3, this]
    exact h.cross h1 h2 g0 g1 g2 g3 hx hy p' q' a1 a2 b1 b2
/-- one element on its way up -/
def bub (l : List α) (a : Nat) : Nat → List α
  | 0 => l
  | k + 1 => swp (bub l a k) (a + k) (a + k + 1)
theorem bub_len (l : List α) (a : Nat) : ∀ k, (bub l a k).length = l.length
  | 0 => rfl
  | k + 1 => by rw [bub, swp_len, bub_len l a k]
theorem bub_get {l : List α} {a : Nat} : ∀ (n : Nat), a + n < l.length → ∀ k, (bub l a n)[k]? = rotG (l[·]?) (a + 1) 1 n k
  | 0, _, k => by simp only [bub, rotG]; rw [if_neg (by omega)]; split; · congr 1
                  · rfl
  | n + 1, h, k => by
    have hl := bub_len l a n
    rw [bub, swp_get (by omega) (by omega)]
    have ih := bub_get n (l := l) (a := a) (by omega)
    rw [ih, ih, ih]
    simp only [rotG]
    repeat' split
    all_goals first
      | (exfalso; omega)
      | rfl
      | (congr 1; omega)
/-- .. on its way down -/
def bud (l : List α) (m : Nat) : Nat → List α
  | 0 => l
  | k + 1 => swp (bud l m k) (m - k) (m - k - 1)
theorem bud_len (l : List α) (m : Nat) : ∀ k, (bud l m k).length = l.length
  | 0 => rfl
  | k + 1 => by rw [bud, swp_len, bud_len l m k]
theorem bud_get {l : List α} {m : Nat} (hm : m < l.length) : ∀ (n : Nat), n ≤ m → ∀ k, (bud l m n)[k]? = rotG (l[·]?) m n 1 k
  | 0, _, k => by simp only [bud, rotG]; split; · congr 1
                  · split
                    · exfalso; omega
                    · rfl
  | n + 1, h, k => by
    have hl := bud_len l m n
    rw [bud, swp_get (by omega) (by omega)]
    have ih := bud_get hm n (by omega)
    rw [ih, ih, ih]
    simp only [rotG]
    repeat' split
    all_goals first
      | (exfalso; omega)
      | rfl
      | (congr 1; omega)
/-- the first piece is one element -/
theorem merge_up {l : List α} {a b i : Nat} (hs : SrtD l (a + 1) b) (h1 : a + 1 ≤ i) (h2 : i ≤ b) (h3 : b ≤ l.length) (hlo : ∀ q, a + 1 ≤ q → q < i → dayAt l q < dayAt l a) (hhi : ∀ q, i ≤ q → q < b → dayAt l a ≤ dayAt l q) : Seg l (bub l a (i - 1 - a)) a b := by
  have hR : Rot l (bub l a (i - 1 - a)) a a (a + 1) i b := Rot.of (by omega) h1 (by omega) (bub_len _ _ _) (fun q => by rw [bub_get _ (by omega)]; congr 1 <;> omega)
    (fun p q p1 p2 p3 p4 => by obtain rfl : p = a := by omega
                               exact hlo q p3 p4)
  refine ⟨hR.stb, fun k hk => hR.out k (by omega), fun p q p1 p2 p3 => ?_⟩
  rw [hR.day p, hR.day q]
  by_cases hp : p < i - 1
  · rw [if_pos (by omega)]
    by_cases hq : q < i - 1
    · rw [if_pos (by omega)]; exact hs _ _ (by omega) (by omega) (by omega)
    · by_cases hq2 : q = i - 1
      · rw [if_neg (by omega), if_pos (by omega), show q - (i - (a + 1)) = a from by omega]; exact Int.le_of_lt (hlo _ (by omega) (by omega))
      · rw [if_neg (by omega), if_neg (by omega)]; exact hs _ _ (by omega) (by omega) (by omega)
  · by_cases hp2 : p = i - 1
    · rw [if_neg (by omega), if_pos (by omega), if_neg (by omega), if_neg (by omega), show p - (i - (a + 1)) = a from by omega]; exact hhi _ (by omega) p3
    · rw [if_neg (by omega), if_neg (by omega), if_neg (by omega), if_neg (by omega)]; exact hs _ _ (by omega) (by omega) (by omega)
/-- the second piece is one element -/
theorem merge_down {l : List α} {a m i : Nat} (hs : SrtD l a m) (h1 : a ≤ i) (h2 : i ≤ m) (h3 : m < l.length) (hlo : ∀ q, a ≤ q → q < i → dayAt l q ≤ dayAt l m) (hhi : ∀ q, i ≤ q → q < m → dayAt l m < dayAt l q) : Seg l (bud l m (m - i)) a (m + 1) := by
  have hR : Rot l (bud l m (m - i)) a i m (m + 1) (m + 1) := Rot.of h2 (by omega) (by omega) (bud_len _ _ _) (fun q => by rw [bud_get h3 _ (by omega)]; congr 1; omega)
    (fun p q p1 p2 p3 p4 => by obtain rfl : q = m := by omega
                               exact hhi p p1 p2)
  refine ⟨hR.stb, fun k hk => hR.out k (by omega), fun p q p1 p2 p3 => ?_⟩
  rw [hR.day p, hR.day q]
  by_cases hp : p < i
  · rw [if_neg (by omega), if_neg (by omega)]
    by_cases hq : q < i
    · rw [if_neg (by omega), if_neg (by omega)]; exact hs _ _ (by omega) (by omega) (by omega)
    · by_cases hq2 : q = i
      · rw [if_pos (by omega), show q + (m - i) = m from by omega]; exact hlo _ (by omega) (by omega)
      · rw [if_neg (by omega), if_pos (by omega)]; exact hs _ _ (by omega) (by omega) (by omega)
  · by_cases hp2 : p = i
    · rw [if_pos (by omega), if_neg (by omega), if_pos (by omega), show p + (m - i) = m from by omega]; exact Int.le_of_lt (hhi _ (by omega) (by omega))
    · rw [if_neg (by omega), if_pos (by omega), if_neg (by omega), if_pos (by omega)]; exact hs _ _ (by omega) (by omega) (by omega)
theorem Seg.refl' {k : List α} {a c : Nat} (h : SrtD k a c) : Seg k k a c := ⟨Stb.refl k, fun _ _ => rfl, h⟩
theorem Rot.left {l k : List α} {a s m e b c : Nat} (h : Rot l k a s m e b) (h1 : SrtD l a m) (h2 : SrtD l m b) (g1 : s ≤ m) (g2 : m ≤ e) (g3 : e ≤ b) (hc : s + (e - m) = c) (hn : ¬ (a < s ∧ s < c)) (g0 : a ≤ s) : SrtD k a c := by
  subst hc
  by_cases hs : a = s
  · subst hs; exact h.p2 h2 g1 g2 g3
  · exact (h.p1 h1 g1).sub (Nat.le_refl _) (by omega)
theorem Rot.right {l k : List α} {a s m e b c : Nat} (h : Rot l k a s m e b) (h1 : SrtD l a m) (h2 : SrtD l m b) (g0 : a ≤ s) (g1 : s ≤ m) (g2 : m ≤ e) (hc : s + (e - m) = c) (hn : ¬ (c < e ∧ e < b)) (g3 : e ≤ b) : SrtD k c b := by
  subst hc
  by_cases hs : e = b
  · subst hs; exact h.p3 h1 g0 g1 g2
  · exact (h.p4 h2 g1 g2).sub (by omega) (Nat.le_refl _)
theorem Seg.keepD {k k1 : List α} {a c p q : Nat} (h : Seg k k1 a c) (hc : c ≤ p) (hs : SrtD k p q) : SrtD k1 p q := fun x y h1 h2 h3 => by
  have e : ∀ z, c ≤ z → dayAt k1 z = dayAt k z := fun z hz => by unfold dayAt; rw [h.out z (.inr hz)]
  rw [e x (by omega), e y (by omega)]; exact hs x y h1 h2 h3
/-- where the two sorted pieces are parted -/
theorem spl_fin {l : List α} {a m b c S R s : Nat} (m1 : SrtD l a m) (m2 : SrtD l m b) (ham : a < m) (hmb : m < b) (hc : c = (a + b) / 2) (hS : (c < m ∧ S = c + m - b ∧ R = c) ∨ (m ≤ c ∧ S = a ∧ R = m)) (hs1 : S ≤ s) (hs2 : s ≤ R)
    (lo : ∀ q, S ≤ q → q < s → dayAt l q ≤ dayAt l (c + m - 1 - q)) (hi : ∀ q, s ≤ q → q < R → dayAt l (c + m - 1 - q) < dayAt l q) :
    (∀ p q, s ≤ p → p < m → m ≤ q → q < c + m - s → dayAt l q < dayAt l p) ∧ (∀ p q, a ≤ p → p < s → c + m - s ≤ q → q < b → dayAt l p ≤ dayAt l q) := by
  refine ⟨fun p q p1 p2 q1 q2 => ?_, fun p q p1 p2 q1 q2 => ?_⟩
  · have hlt : s < R := by omega
    have h1 := hi s (Nat.le_refl _) hlt
    have h2 := m1.le (p := s) (q := p) (by omega) p1 p2
    have h3 := m2.le (p := q) (q := c + m - 1 - s) q1 (by omega) (by omega)
    omega
  · have hlt : S < s := by omega
    have h1 := lo (s - 1) (by omega) (by omega)
    have h2 := m1.le (p := p) (q := s - 1) p1 (by omega) (by omega)
    have h3 := m2.le (p := c + m - 1 - (s - 1)) (q := q) (by omega) (by omega) q2
    omega
theorem spl_up {l : List α} {a m b c S R r h : Nat} (m1 : SrtD l a m) (m2 : SrtD l m b) (ham : a < m) (hmb : m < b) (hc : c = (a + b) / 2) (hS : (c < m ∧ S = c + m - b ∧ R = c) ∨ (m ≤ c ∧ S = a ∧ R = m)) (h1 : S ≤ h) (h2 : h < r) (h3 : r ≤ R)
    (hd : dayAt l h ≤ dayAt l (c + m - 1 - h)) (q : Nat) (q1 : S ≤ q) (q2 : q < h + 1) : dayAt l q ≤ dayAt l (c + m - 1 - q) := by
  have e1 := m1.le (p := q) (q := h) (by omega) (by omega) (by omega)
  have e2 := m2.le (p := c + m - 1 - h) (q := c + m - 1 - q) (by omega) (by omega) (by omega)
  omega
theorem spl_dn {l : List α} {a m b c S R s h : Nat} (m1 : SrtD l a m) (m2 : SrtD l m b) (ham : a < m) (hmb : m < b) (hc : c = (a + b) / 2) (hS : (c < m ∧ S = c + m - b ∧ R = c) ∨ (m ≤ c ∧ S = a ∧ R = m)) (h1 : S ≤ s) (h2 : s ≤ h) (h3 : h < R)
    (hd : dayAt l (c + m - 1 - h) < dayAt l h) (q : Nat) (q1 : h ≤ q) (q2 : q < R) : dayAt l (c + m - 1 - q) < dayAt l q := by
  have e1 := m1.le (p := h) (q := q) (by omega) (by omega) (by omega)
  have e2 := m2.le (p := c + m - 1 - q) (q := c + m - 1 - h) (by omega) (by omega) (by omega)
  omega
theorem day_lt {l : List α} {i j : Nat} {hi : i < l.length} {hj : j < l.length} (h : cmpI (Day.day l[i]) (Day.day l[j]) < 0) : dayAt l i < dayAt l j := by
  rw [cmpI_neg] at h; rw [dayAt_eq hi, dayAt_eq hj]; exact h
theorem day_ge {l : List α} {i j : Nat} {hi : i < l.length} {hj : j < l.length} (h : ¬ cmpI (Day.day l[i]) (Day.day l[j]) < 0) : dayAt l j ≤ dayAt l i := by
  rw [cmpI_neg] at h; rw [dayAt_eq hi, dayAt_eq hj]; omega
end Go.Sx

/- The blocks of the stable sort; what is sorted stably is one list alone. -/
set_option linter.all false
namespace Go.Sx
open Go
variable {α : Type} [Day α]
/-- the first places, block by block -/
inductive Pre (l : List α) (q : Nat) : Nat → Prop
  | zero : Pre l q 0
  | snoc {a : Nat} : Pre l q a → SrtD l a (a + q) → Pre l q (a + q)
/-- the last places, block by block -/
inductive Blk (l : List α) (q n : Nat) : Nat → Prop
  | done {s : Nat} : n ≤ s → Blk l q n s
  | step {s : Nat} : SrtD l s (min (s + q) n) → Blk l q n (s + q) → Blk l q n s
theorem SrtD.same {l m : List α} {a b : Nat} (h : SrtD l a b) (he : ∀ k, a ≤ k → k < b → m[k]? = l[k]?) : SrtD m a b := fun p q p1 p2 p3 => by
  have e : ∀ z, a ≤ z → z < b → dayAt m z = dayAt l z := fun z h1 h2 => by unfold dayAt; rw [he z h1 h2]
  rw [e p p1 (by omega), e q (by omega) p3]; exact h p q p1 p2 p3
theorem Pre.same {l m : List α} {q a : Nat} (h : Pre l q a) (he : ∀ k, k < a → m[k]? = l[k]?) : Pre m q a := by
  induction h with
  | zero => exact .zero
  | snoc h1 h2 ih => exact .snoc (ih fun k hk => he k (by omega)) (h2.same fun k _ hk => he k hk)
theorem Blk.same {l m : List α} {q n s : Nat} (h : Blk l q n s) (he : ∀ k, s ≤ k → k < n → m[k]? = l[k]?) : Blk m q n s := by
  induction h with
  | done h => exact .done h
  | step h1 h2 ih => exact .step (h1.same fun k h3 h4 => he k h3 (by omega)) (ih fun k hk hk2 => he k (by omega) hk2)
theorem Pre.blk {l : List α} {q n a : Nat} (h : Pre l q a) (han : a ≤ n) (hb : Blk l q n a) : Blk l q n 0 := by
  induction h with
  | zero => exact hb
  | snoc h1 h2 ih => exact ih (by omega) (.step (h2.sub (Nat.le_refl _) (by omega)) hb)
theorem Pre.put {l m : List α} {q a : Nat} (h : Pre l q a) (hs : Seg l m a (a + q)) : Pre m q (a + q) := .snoc (h.same fun k hk => hs.out k (.inl hk)) hs.srt
theorem Pre.last {l m : List α} {q a n : Nat} (h : Pre l q a) (hs : Seg l m a n) (han : a ≤ n) (hq : n < a + q) : Blk m q n 0 :=
  (h.same fun k hk => hs.out k (.inl hk)).blk han (.step (hs.toD.sub (Nat.le_refl _) (by omega)) (.done (by omega)))
theorem Blk.two {l : List α} {q n s : Nat} (h : Blk l q n s) (hs : s + 2 * q ≤ n) (hq : 1 ≤ q) : SrtD l s (s + q) ∧ SrtD l (s + q) (s + 2 * q) ∧ Blk l q n (s + 2 * q) := by
  cases h with
  | done h => omega
  | step h1 h2 => cases h2 with
    | done h => omega
    | step h3 h4 => exact ⟨h1.sub (Nat.le_refl _) (by omega), h3.sub (Nat.le_refl _) (by omega), by rw [show s + 2 * q = s + q + q from by omega]; exact h4⟩
theorem Blk.one {l : List α} {q n s : Nat} (h : Blk l q n s) (hs : s + q < n) : SrtD l s (s + q) ∧ (n ≤ s + 2 * q → SrtD l (s + q) n) := by
  cases h with
  | done h => omega
  | step h1 h2 => cases h2 with
    | done h => omega
    | step h3 h4 => exact ⟨h1.sub (Nat.le_refl _) (by omega), fun h => h3.sub (Nat.le_refl _) (by omega)⟩
theorem Blk.all {l : List α} {q n s : Nat} (h : Blk l q n s) (hs : n ≤ s + q) : SrtD l s n := by
  cases h with
  | done h => exact SrtD.none (by omega)
  | step h1 h2 => exact h1.sub (Nat.le_refl _) (by omega)
/-! one list alone -/
def Srtd (l : List α) : Prop := l.Pairwise fun x y => Day.day x ≤ Day.day y
theorem SrtD.pw {l : List α} (h : SrtD l 0 l.length) : Srtd l := by
  rw [Srtd, List.pairwise_iff_getElem]
  intro i j hi hj hij
  have := h i j (Nat.zero_le _) hij hj
  rwa [dayAt_eq hi, dayAt_eq hj] at this
theorem stb_one : ∀ (m m' : List α), Srtd m → Srtd m' → (∀ d : Int, m.filter (fun e => decide (Day.day e = d)) = m'.filter (fun e => decide (Day.day e = d))) → m = m' := by
  intro m
  induction m with
  | nil =>
    intro m' _ _ h
    cases m' with
    | nil => rfl
    | cons y r => have := h (Day.day y); simp at this
  | cons x r ih =>
    intro m' h1 h2 h
    cases m' with
    | nil => have := h (Day.day x); simp at this
    | cons y r' =>
      unfold Srtd at h1 h2
      rw [List.pairwise_cons] at h1 h2
      have hx : x ∈ (y :: r') := by
        have : x ∈ (y :: r').filter (fun e => decide (Day.day e = Day.day x)) := by rw [← h]; simp
        exact (List.mem_filter.1 this).1
      have hy : y ∈ (x :: r) := by
        have : y ∈ (x :: r).filter (fun e => decide (Day.day e = Day.day y)) := by rw [h]; simp
        exact (List.mem_filter.1 this).1
      have d1 : Day.day y ≤ Day.day x := by
        rcases List.mem_cons.1 hx with e | hx
        · rw [e]; exact Int.le_refl _
        · exact h2.1 x hx
      have d2 : Day.day x ≤ Day.day y := by
        rcases List.mem_cons.1 hy with e | hy
        · rw [e]; exact Int.le_refl _
        · exact h1.1 y hy
      have hd : Day.day y = Day.day x := Int.le_antisymm d1 d2
      have h0 := h (Day.day x)
      simp only [List.filter_cons, hd, decide_true, if_true, List.cons.injEq] at h0
      obtain ⟨rfl, h0⟩ := h0
      congr 1
      refine ih r' h1.2 h2.2 fun d => ?_
      have h3 := h d
      simp only [List.filter_cons] at h3
      split at h3
      · simpa using h3
      · exact h3
def insD (e : α) : List α → List α
  | [] => [e]
  | x :: r => if Day.day e ≤ Day.day x then e :: x :: r else x :: insD e r
/-- the course of a list -/
def sortF (l : List α) : List α := l.foldr insD []
theorem insD_mem {e y : α} : ∀ {l : List α}, y ∈ insD e l ↔ y = e ∨ y ∈ l
  | [] => by simp [insD]
  | x :: r => by
    simp only [insD]
    split
    · simp
    · simp only [List.mem_cons, insD_mem (l := r)]
      constructor
      · rintro (h | h | h)
        · exact .inr (.inl h)
        · exact .inl h
        · exact .inr (.inr h)
      · rintro (h | h | h)
        · exact .inr (.inl h)
        · exact .inl h
        · exact .inr (.inr h)
theorem insD_srt {e : α} : ∀ {l : List α}, Srtd l → Srtd (insD e l)
  | [], _ => by simp [insD, Srtd]
  | x :: r, h => by
    unfold Srtd at h
    have h' := List.pairwise_cons.1 h
    simp only [insD]
    split
    · rename_i hd
      refine List.pairwise_cons.2 ⟨fun y hy => ?_, h⟩
      rcases List.mem_cons.1 hy with rfl | hy
      · exact hd
      · exact Int.le_trans hd (h'.1 y hy)
    · rename_i hd
      refine List.pairwise_cons.2 ⟨fun y hy => ?_, insD_srt h'.2⟩
      rcases insD_mem.1 hy with rfl | hy
      · omega
      · exact h'.1 y hy
theorem insD_len (e : α) : ∀ l : List α, (insD e l).length = l.length + 1
  | [] => rfl
  | x :: r => by simp only [insD]; split; · simp
                 · simp [insD_len e r]
theorem insD_filter (e : α) (d : Int) : ∀ l : List α, (insD e l).filter (fun e => decide (Day.day e = d)) = (e :: l).filter (fun e => decide (Day.day e = d))
  | [] => rfl
  | x :: r => by
    simp only [insD]
    split
    · rfl
    · rename_i hd
      rw [List.filter_cons, insD_filter e d r]
      simp only [List.filter_cons]
      by_cases h1 : Day.day x = d
      · by_cases h2 : Day.day e = d
        · omega
        · simp [h1, h2]
      · simp [h1]
theorem sortF_srt : ∀ l : List α, Srtd (sortF l)
  | [] => List.Pairwise.nil
  | x :: r => insD_srt (sortF_srt r)
theorem sortF_len : ∀ l : List α, (sortF l).length = l.length
  | [] => rfl
  | x :: r => (insD_len x (sortF r)).trans (by rw [sortF_len r]; rfl)
theorem sortF_filter (d : Int) : ∀ l : List α, (sortF l).filter (fun e => decide (Day.day e = d)) = l.filter (fun e => decide (Day.day e = d))
  | [] => rfl
  | x :: r => (insD_filter x d (sortF r)).trans (by rw [List.filter_cons, List.filter_cons, sortF_filter d r])
theorem sortF_is {l m : List α} (h : Stb l m) (hs : Srtd m) : m = sortF l := stb_one m _ hs (sortF_srt l) fun d => by rw [h.2 d, sortF_filter]
theorem sortF_mem {l : List α} {x : α} : x ∈ sortF l ↔ x ∈ l := by
  have h : ∀ (m : List α), x ∈ m ↔ x ∈ m.filter (fun e => decide (Day.day e = Day.day x)) := fun m => by simp
  rw [h, sortF_filter, ← h]
section
variable {P : Program} {n : Sz} {E : Ent} {I : IMap} {L : LL} {H : List Res} {K : Act → World → Prop}
theorem sx_unrow0 {g e k m : Nat} {xss : List (List Value)} (hU : Uk k xss) (hm : xss.length = m) (hl : m ≤ maxLen) (h : SX n E I L (.row (.slice (some ⟨g, 0, none⟩) m m) e k m xss.flatten :: H) K) : SX n E I L (.blk g e xss.flatten :: H) K := by
  have := sx_unrow (rest := []) hU (fun c hc => (by cases hc)) hm (by simp) hl h
  simpa using this
end
end Go.Sx

/- Ranging over a function: what the iterator is told of the rounds, what the loop is told of the iterator. -/
set_option linter.all false
namespace Go.Sx
open Go

/-- one call of yield -/
def YieldH (P : Program) (l : Nat) (args : List Value) (I : IMap) (H : List Res) (post : Value → IMap → List Res → Prop) : Prop :=
  ∀ w, Mem ⟨foots H, I, w⟩ I H w → After P (Instr.yield l args.toArray) w (Post ⟨foots H, I, w⟩ post)
/-- the rounds: J true pre: on behind the rounds pre; J false pre: the last one of pre has stopped it -/
def YieldsS {α : Type} (P : Program) (l : Nat) (rd : IMap → List Value → α → Prop) (ok : List α → α → Prop) (J : Bool → List α → IMap → List Res → Prop) : Prop :=
  ∀ pre x vs I H, J true pre I H → rd I vs x → ok pre x → YieldH P l vs I H fun u I' H' => ∃ b, u = .bool b ∧ J b (pre ++ [x]) I' H'
def JMono {α : Type} (J : Bool → List α → IMap → List Res → Prop) : Prop := ∀ b pre I I' H, ILe I I' → J b pre I H → J b pre I' H
/-- THE CONTRACT OF AN ITERATOR: whatever the rounds do: it yields the values of a list, in order: 'full' all of it, 'part' up to where it was stopped -/
def FnIt {α : Type} (P : Program) (f : FuncId) (cap : List Value) (I0 : IMap) (rd : IMap → List Value → α → Prop) (ok : List α → α → Prop) (full part : List α → Prop) : Prop :=
  ∀ (l : Nat) (J : Bool → List α → IMap → List Res → Prop) (I : IMap) (Hc : List Res), ILe I0 I → JMono J → YieldsS P l rd ok J → J true [] I Hc →
    FnH P f (.func (.yield l) #[] #[] :: cap).toArray I Hc fun _ I' H' => ∃ b pre, J b pre I' H' ∧ (if b then full pre else part pre)

section
variable {P : Program} {ρ : Option Nat} {n : Sz} {E : Ent} {I I' : IMap} {L : LL} {H : List Res} {Q : Exit → Act → World → Prop} {ops : Array Oper} {K : Act → World → Prop}
variable {d ty : Nat} {pos : String} {af : Array Edge}
theorem run_call_yield {a : Act} {w : World} {fo : Operand} {as : List Operand} {ats : Array TypeId} {l : Nat} {args : List Value} (s : St n a L) (hf : ev L fo = some (.func (.yield l) #[] #[])) (ha : evs L as = some args) (o : Oper)
    (ho : o.op = .call { callee := .value fo, args := as.toArray, argTypes := ats }) : (execOp a.eval o).run P w = (Instr.yield l args.toArray).run P w := by
  have ha' : as.toArray.map a.eval = args.toArray := by rw [← evs_spec s as args ha]; simp
  simp only [execOp, ho, resolve, ha', s.ev hf, Deferred.ofValue, Sem.run_bind, Sem.run_pure, Result.andThen_ok, invoke]
  congr 1
  congr 1
  simp
/-- yield, in the iterator: the caller's part of the memory is behind -/
theorem o_yield {α : Type} {l : Nat} {rd : IMap → List Value → α → Prop} {ok : List α → α → Prop} {J : Bool → List α → IMap → List Res → Prop} {Hc : List Res} {fo : Operand} {as : List Operand} {ats : Array TypeId} {vs : List Value} {pre : List α} {x : α}
    (hy : YieldsS P l rd ok J) (hJ : J true pre I Hc) (hr : rd I vs x) (hk : ok pre x) (hf : ev L fo = some (.func (.yield l) #[] #[])) (ha : evs L as = some vs) (hd : Nat.blt d n.sz = true)
    (k : ∀ b I' Hc', ILe I I' → J b (pre ++ [x]) I' Hc' → SX n E I' ((d, .bool b) :: L) (H ++ Hc') K) :
    SX n E I L (H ++ Hc) (one P ops Q ⟨some d, .call { callee := .value fo, args := as.toArray, argTypes := ats }, ty, pos, af, none⟩ K) := by
  refine sx_perm List.perm_append_comm ?_
  refine o_after (hy pre x vs I Hc hJ hr hk) (fun a w s => run_call_yield s hf ha _ rfl) hd fun v I' H' hI hp => ?_
  obtain ⟨b, rfl, hp⟩ := hp
  exact sx_perm List.perm_append_comm (k b I' H' hI hp)

/-! the rounds -/
def putAll : List (Nat × Value) → LL → LL
  | [], L => L
  | (i, v) :: r, L => putAll r ((i, v) :: L)
theorem St.putAll {k : Nat} : ∀ (ps : List (Nat × Value)) {a : Act} {L : LL}, St ⟨k, []⟩ a L → (∀ p ∈ ps, p.1 < k) → St ⟨k, []⟩ { a with tmps := ps.foldl (fun t p => t.setIfInBounds p.1 p.2) a.tmps } (putAll ps L)
  | [], _, _, s, _ => s
  | (i, v) :: r, a, L, s, h => by
    have hi : i < k := h (i, v) (by simp)
    have s1 : St ⟨k, []⟩ (a.put (some i) v) ((i, v) :: L) := s.put (by simpa [Nat.blt_eq] using hi)
    exact St.putAll r s1 (fun p hp => h p (by simp [hp]))
/-- what is known of the loop's record -/
structure Rec where
  l : Nat
  D : Nat
  ready : Loop
  hs : ready.state = .ready
  hp : ready.pending = none
def Rec.busy (r : Rec) : Loop := { r.ready with state := .busy }
def Rec.done (r : Rec) (c : Code) : Loop := { r.ready with state := .done, pending := some c }
def Rec.mark (r : Rec) : Res := .any r.D (.deferred (some []))
/-- what the rounds hand on -/
def JR {α σ : Type} (I0 : IMap) (r : Rec) (Hx : σ → List Res) (p : List α → IMap → σ → Prop) (px : List α → IMap → σ → Code → Prop) : Bool → List α → IMap → List Res → Prop
  | true, pre, I, H => ∃ s, H = .any r.l (.loop r.ready) :: r.mark :: Hx s ∧ ILe I0 I ∧ p pre I s
  | false, pre, I, H => ∃ s c, H = .any r.l (.loop (r.done c)) :: r.mark :: Hx s ∧ ILe I0 I ∧ px pre I s c
def RFin {α σ : Type} (P : Program) (E : Ent) (I0 : IMap) (r : Rec) (Hx : σ → List Res) (p : List α → IMap → σ → Prop) (px : List α → IMap → σ → Code → Prop) (pre : List α) : Exit → Act → World → Prop :=
  roundPost P r.l (Post E fun u I' H' => ∃ b, u = .bool b ∧ JR I0 r Hx p px b pre I' H')
/-- behind the assignments to the loop's variables -/
def RBegin (P : Program) (r : Rec) (body : Code) (R : Exit → Act → World → Prop) : Exit → Act → World → Prop :=
  Exit.then (fun a w => ∃ w', (Instr.beginRound r.l).run P w = .ok () w' ∧ body.wq (some r.l) P R a w') (fun _ _ _ => False)
variable {α σ : Type} {I0 : IMap} {r : Rec} {Hx : σ → List Res} {p : List α → IMap → σ → Prop} {px : List α → IMap → σ → Code → Prop} {pre : List α}
theorem step_loop {w : World} {o o' : Loop} {l : Nat} (m : Mem E I (.any l (.loop o) :: H) w) : Mem E I (.any l (.loop o') :: H) (w.putObj l (.loop o')) := by
  have hr : w.heap[l]? = some (.loop o) := m.holds _ (List.mem_cons_self ..)
  have hlt : l < w.heap.size := (Array.getElem?_eq_some_iff.1 hr).1
  exact m.step rfl rfl rfl (by simp) (fun k hk hne => World.putObj_heap_other (fun e => hne (by subst e; rfl))) (World.putObj_heap_same hlt) (fun g hg => .inl hg)
theorem r_begin {body : Code} {R : Exit → Act → World → Prop} (h : SX n E I L (.any r.l (.loop r.busy) :: H) (body.wq (some r.l) P R)) : SX n E I L (.any r.l (.loop r.ready) :: H) (RBegin P r body R .normal) := by
  intro a w s m
  have hl : w.heap[r.l]? = some (.loop r.ready) := m.holds _ (List.mem_cons_self ..)
  exact ⟨_, run_beginRound hl r.hs, h a _ s (step_loop m)⟩
theorem r_next (s' : σ) (hI : ILe I0 I) (hp : p pre I s') (hH : H = Hx s') : SX n E I L (.any r.l (.loop r.busy) :: r.mark :: H) (RFin P E I0 r Hx p px pre .normal) := by
  subst hH
  intro a w s m
  have hl : w.heap[r.l]? = some (.loop r.busy) := m.holds _ (List.mem_cons_self ..)
  refine ⟨_, _, run_endRound none hl, .bool true, I, _, rfl, step_loop m, true, rfl, s', ?_, hI, hp⟩
  have : (({ r.busy with state := if (none : Option Code).isNone = true then .ready else .done, pending := none } : Loop)) = r.ready := by
    have h1 := r.hs; have h2 := r.hp
    unfold Rec.busy
    cases hr : r.ready
    rw [hr] at h1 h2
    simp only at h1 h2
    subst h1 h2
    rfl
  rw [this]
theorem r_jump {c : Code} (s' : σ) (hI : ILe I0 I) (hp : px pre I s' c) (hH : H = Hx s') {a : Act} {w : World} (m : Mem E I (.any r.l (.loop r.busy) :: r.mark :: H) w) :
    ∃ v w', (Instr.endRound r.l (some c)).run P w = .ok v w' ∧ Post E (fun u I' H' => ∃ b, u = .bool b ∧ JR I0 r Hx p px b pre I' H') (.returned v) w' := by
  subst hH
  have hl : w.heap[r.l]? = some (.loop r.busy) := m.holds _ (List.mem_cons_self ..)
  exact ⟨_, _, run_endRound (some c) hl, .bool false, I, _, rfl, step_loop m, false, rfl, s', c, rfl, hI, hp⟩
theorem r_ret (s' : σ) (hI : ILe I0 I) (hp : px pre I s' .ret) (hH : H = Hx s') : SX n E I L (.any r.l (.loop r.busy) :: r.mark :: H) (RFin P E I0 r Hx p px pre .ret) := fun _ _ _ m => r_jump (a := ⟨#[], []⟩) s' hI hp hH m
theorem r_exit {id : Nat} (s' : σ) (hI : ILe I0 I) (hp : px pre I s' (.exit id)) (hH : H = Hx s') : SX n E I L (.any r.l (.loop r.busy) :: r.mark :: H) (RFin P E I0 r Hx p px pre (.exit id)) := fun _ _ _ m => r_jump (a := ⟨#[], []⟩) s' hI hp hH m
/-- THE STATEMENT, outermost -/
theorem c_range {k gf : Nat} {D : List Mk} {H0 : List Res} {g : Operand} {ps : List Nat} {assign body : Code} {cap : List Value} {rd : IMap → List Value → α → Prop} {ok : List α → α → Prop} {full part : List α → Prop}
    (s0 : σ) (Hx : σ → List Res) (p : List α → IMap → σ → Prop) (px : List α → IMap → σ → Code → Prop)
    (hg : ev L g = some (.func (.func gf) #[] cap.toArray)) (hcall : ∀ (args : Array Value) (w : World), (callFunc gf args).run P w = .ok (.enter gf args) w)
    (hit : FnIt P gf cap I rd ok full part) (hlen : ∀ I vs x, rd I vs x → vs.length = ps.length) (hps : ps.all (fun i => Nat.blt i k) = true)
    (hmp : ∀ pre I I' s, ILe I I' → p pre I s → p pre I' s) (hmx : ∀ pre I I' s c, ILe I I' → px pre I s c → px pre I' s c)
    (h0 : p [] I s0) (hH : Hx s0 ++ H0 = H)
    (round : ∀ (r : Rec) (E1 : Ent) pre x vs I1 s, ILe I I1 → p pre I1 s → rd I1 vs x → ok pre x →
      SX ⟨k, []⟩ E1 I1 (putAll (ps.zip vs) L) (.any r.l (.loop r.ready) :: r.mark :: Hx s) (assign.wq (some r.l) P (RBegin P r body (RFin P E1 I r Hx p px (pre ++ [x])))))
    (hdone : ∀ D' pre I1 s, ILe I I1 → full pre → p pre I1 s → SX ⟨k, .m D' :: D⟩ E I1 L (.any D' (.deferred (some [])) :: (Hx s ++ H0)) (Q .normal))
    (hstop : ∀ D' pre I1 s c, ILe I I1 → part pre → px pre I1 s c → SX ⟨k, .m D' :: D⟩ E I1 L (.any D' (.deferred (some [])) :: (Hx s ++ H0)) (c.wq none P Q)) :
    SX ⟨k, D⟩ E I L H ((Code.rangeFunc g ps.toArray assign body).wq none P Q) := by
  subst hH
  intro a w s m
  refine wpIn_rangeFunc ?_
  intro fn _
  obtain ⟨rec, hrec⟩ : ∃ rec : Loop, rec = { state := .ready, pending := none, fn, tmps := a.tmps, params := ps.toArray, assign, body, defers := w.heap.size } := ⟨_, rfl⟩
  obtain ⟨W1, hW1⟩ : ∃ W1, (w.alloc (.deferred (some []))).alloc (.loop rec) = W1 := ⟨_, rfl⟩
  obtain ⟨r, hr⟩ : ∃ r : Rec, r = ⟨w.heap.size + 1, w.heap.size, rec, by rw [hrec], by rw [hrec]⟩ := ⟨_, rfl⟩
  have hrl : r.l = w.heap.size + 1 := by rw [hr]
  have hrD : r.D = w.heap.size := by rw [hr]
  have hrr : r.ready = rec := by rw [hr]
  have hevg : a.eval g = .func (.func gf) #[] cap.toArray := s.ev hg
  refine ⟨w.heap.size + 1, [{ target := .collected w.heap.size, args := #[] }], W1, { target := .fn (.func gf) cap.toArray, args := #[.func (.yield (w.heap.size + 1)) #[] #[]] }, W1, gf,
    #[.func (.yield (w.heap.size + 1)) #[] #[]] ++ cap.toArray, W1, ?_, ?_, fun _ _ => trivial, ?_, fun h => by simp [fen, Fence.wide] at h, ?_⟩
  · rw [← hW1, hrec]; exact run_enterLoop_outer _ _ _ _ _
  · simp only [resolve, hevg]
    simp [go_sem]
  · simp [invoke, go_sem, hcall]
  have m1 : Mem E I (.any r.D (.deferred (some [])) :: (Hx s0 ++ H0)) (w.alloc (.deferred (some []))) := by
    rw [hrD]
    exact m.new rfl rfl rfl (by simp) (fun k hk => Below_old w _ k hk) (heap_alloc_new w _) fun g hg => by simp only [Res.foot, Option.some.injEq] at hg; omega
  have m2 : Mem E I ((.any r.l (.loop r.ready) :: r.mark :: Hx s0) ++ H0) W1 := by
    rw [hrl, hrr, ← hW1]
    have hsz : (w.alloc (.deferred (some []))).heap.size = w.heap.size + 1 := by simp
    refine m1.new rfl rfl rfl (by simp) (fun k hk => Below_old _ _ k hk) ?_ fun g hg => by simp only [Res.foot, Option.some.injEq] at hg; omega
    have := heap_alloc_new (w.alloc (.deferred (some []))) (.loop rec)
    rw [hsz] at this
    exact this
  -- the rounds
  have hJm : JMono (JR I r Hx p px) := by
    rintro (_ | _) pre I1 I2 H1 hle ⟨s1, h⟩
    · obtain ⟨c, h1, h2, h3⟩ := h
      exact ⟨s1, c, h1, h2.trans hle, hmx _ _ _ _ _ hle h3⟩
    · obtain ⟨h1, h2, h3⟩ := h
      exact ⟨s1, h1, h2.trans hle, hmp _ _ _ _ hle h3⟩
  have hy : YieldsS P r.l rd ok (JR I r Hx p px) := by
    rintro pre x vs I1 H1 ⟨s1, rfl, hle, hp1⟩ hx hok w1 mw
    have hl1 : w1.heap[r.l]? = some (.loop r.ready) := mw.holds _ (List.mem_cons_self ..)
    have hI1 := round r ⟨foots (.any r.l (.loop r.ready) :: r.mark :: Hx s1), I1, w1⟩ pre x vs I1 s1 hle hp1 hx hok
    have hvl : vs.toArray.size = r.ready.params.size := by rw [hrr, hrec]; simp [hlen _ _ _ hx]
    unfold After
    rw [run_yield (P := P) hl1 hvl]
    refine roundIn_of_wpIn trivial ?_
    have st1 : St ⟨k, []⟩ { tmps := ((r.ready.params.zip vs.toArray).foldl (fun tmps x => tmps.setIfInBounds x.1 x.2) r.ready.tmps), defers := [] } (putAll (ps.zip vs) L) := by
      have h0 : St ⟨k, []⟩ { a with defers := [] } L := ⟨s.size, rfl, s.get⟩
      have h1 := h0.putAll (ps.zip vs) (fun q hq => by
        have h2 := List.all_eq_true.1 hps q.1 (List.of_mem_zip hq).1
        simpa [Nat.blt_eq] using h2)
      have e : (r.ready.params.zip vs.toArray).foldl (fun tmps x => tmps.setIfInBounds x.1 x.2) r.ready.tmps = (ps.zip vs).foldl (fun t p => t.setIfInBounds p.1 p.2) a.tmps := by
        rw [hrr, hrec]
        simp
      rw [e]
      exact h1
    have m1 := Mem.call (E := ⟨foots (.any r.l (.loop r.ready) :: r.mark :: Hx s1), I1, w1⟩) (Hc := .any r.l (.loop r.ready) :: r.mark :: Hx s1) (H0 := []) (by simpa using mw)
    have h3 := hI1 _ _ st1 m1
    have e2 : r.ready.assign = assign := by rw [hrr, hrec]
    have e3 : r.ready.body = body := by rw [hrr, hrec]
    rw [e2, e3]
    exact h3
  have hf := (hit r.l (JR I r Hx p px) I _ (ILe.refl I) hJm hy ⟨s0, rfl, ILe.refl I, h0⟩).go W1 m2.call
  unfold After at hf
  rw [hcall] at hf
  have hargs : #[.func (.yield (w.heap.size + 1)) #[] #[]] ++ cap.toArray = (Value.func (.yield r.l) #[] #[] :: cap).toArray := by rw [hrl]; simp
  rw [hargs]
  refine callsIn_fen (Calls.mono hf ?_)
  rintro e w2 ⟨v, I', H', rfl, hm', b, pre, hJ, hfp⟩
  have hb := m2.back hm'
  have hsame : ∀ _ : Unit, St ⟨k, .m r.D :: D⟩ { a with defers := [{ target := .collected w.heap.size, args := #[] }] ++ a.defers } L := fun _ => ⟨s.size, by rw [hrD]; show _ :: a.defers = _; rw [s.defers]; rfl, s.get⟩
  cases b with
  | true =>
    obtain ⟨s2, rfl, hle, hp2⟩ := hJ
    have hl2 : w2.heap[w.heap.size + 1]? = some (.loop r.ready) := by rw [← hrl]; exact hb.holds _ (List.mem_cons_self ..)
    refine ⟨none, _, by have := run_endLoop (P := P) hl2 (by rw [r.hs]; simp); rw [r.hp] at this; exact this, ?_⟩
    rw [← hrl]
    have m3 := (step_loop (o' := { r.ready with state := .exhausted, pending := none }) hb).drop
    exact hdone r.D pre I' s2 hle hfp hp2 _ _ (hsame ()) m3
  | false =>
    obtain ⟨s2, c, rfl, hle, hp2⟩ := hJ
    have hl2 : w2.heap[w.heap.size + 1]? = some (.loop (r.done c)) := by rw [← hrl]; exact hb.holds _ (List.mem_cons_self ..)
    refine ⟨some c, _, by have := run_endLoop (P := P) hl2 (by simp [Rec.done]); exact this, ?_⟩
    rw [← hrl]
    have m3 := (step_loop (o' := { r.done c with state := .exhausted }) hb).drop
    exact hstop r.D pre I' s2 c hle hfp hp2 _ _ (hsame ()) m3
end
end Go.Sx

/- Loops and meetings of ways with four and five things that turn; yield with blocks of one's own in front. -/
set_option linter.all false
namespace Go.Sx
open Go
section
variable {P : Program} {ρ : Option Nat} {n : Sz} {E : Ent} {I I' : IMap} {L : LL} {H : List Res} {K : Act → World → Prop} {Q : Exit → Act → World → Prop} {ops : Array Oper} {N : Act → World → Prop}
variable {α β γ δ ε : Type}
def NextS4 (n : Sz) (E : Ent) (Ix : α → β → γ → δ → IMap) (Lx : α → β → γ → δ → LL) (Hx : α → β → γ → δ → List Res) (p : α → β → γ → δ → Prop) (μ : α → β → γ → δ → Nat) (x : α) (y : β) (z : γ) (t : δ) : Act → World → Prop :=
  fun a w => ∃ x' y' z' t', p x' y' z' t' ∧ μ x' y' z' t' < μ x y z t ∧ St n a (Lx x' y' z' t') ∧ Mem E (Ix x' y' z' t') (Hx x' y' z' t') w
theorem c_loop4 (x0 : α) (y0 : β) (z0 : γ) (t0 : δ) (Ix : α → β → γ → δ → IMap) (Lx : α → β → γ → δ → LL) (Hx : α → β → γ → δ → List Res) (p : α → β → γ → δ → Prop) (μ : α → β → γ → δ → Nat) {c : Code}
    (h0 : p x0 y0 z0 t0) (hI : Ix x0 y0 z0 t0 = I) (hL : Sub (Lx x0 y0 z0 t0) L) (hH : Hx x0 y0 z0 t0 = H)
    (round : ∀ x y z t, p x y z t → SX n E (Ix x y z t) (Lx x y z t) (Hx x y z t) (c.wq ρ P (Exit.then (NextS4 n E Ix Lx Hx p μ x y z t) Q))) : SX n E I L H ((Code.loop c).wq ρ P Q) :=
  c_loop (α := α × β × γ × δ) (x0, y0, z0, t0) (fun q => Ix q.1 q.2.1 q.2.2.1 q.2.2.2) (fun q => Lx q.1 q.2.1 q.2.2.1 q.2.2.2) (fun q => Hx q.1 q.2.1 q.2.2.1 q.2.2.2) (fun q => p q.1 q.2.1 q.2.2.1 q.2.2.2) (fun q => μ q.1 q.2.1 q.2.2.1 q.2.2.2) h0 hI hL hH
    fun ⟨x, y, z, t⟩ hp => sx_mono (round x y z t hp) fun a w h => cwq_mono (fun e a w q => by
      cases e with
      | normal => obtain ⟨x', y', z', t', h1, h2, h3, h4⟩ := q; exact ⟨(x', y', z', t'), h1, h2, h3, h4⟩
      | _ => exact q) h
theorem q_next4 {Ix : α → β → γ → δ → IMap} {Lx : α → β → γ → δ → LL} {Hx : α → β → γ → δ → List Res} {p : α → β → γ → δ → Prop} {μ : α → β → γ → δ → Nat} {x : α} {y : β} {z : γ} {t : δ} (x' : α) (y' : β) (z' : γ) (t' : δ) (hp : p x' y' z' t') (hμ : μ x' y' z' t' < μ x y z t)
    (hI : Ix x' y' z' t' = I) (hL : Sub (Lx x' y' z' t') L) (hH : Hx x' y' z' t' = H) : SX n E I L H (NextS4 n E Ix Lx Hx p μ x y z t) :=
  fun a w s m => ⟨x', y', z', t', hp, hμ, s.sub hL, by rw [hI, hH]; exact m⟩
def NextS5 (n : Sz) (E : Ent) (Ix : α → β → γ → δ → ε → IMap) (Lx : α → β → γ → δ → ε → LL) (Hx : α → β → γ → δ → ε → List Res) (p : α → β → γ → δ → ε → Prop) (μ : α → β → γ → δ → ε → Nat) (x : α) (y : β) (z : γ) (t : δ) (u : ε) : Act → World → Prop :=
  fun a w => ∃ x' y' z' t' u', p x' y' z' t' u' ∧ μ x' y' z' t' u' < μ x y z t u ∧ St n a (Lx x' y' z' t' u') ∧ Mem E (Ix x' y' z' t' u') (Hx x' y' z' t' u') w
theorem c_loop5 (x0 : α) (y0 : β) (z0 : γ) (t0 : δ) (u0 : ε) (Ix : α → β → γ → δ → ε → IMap) (Lx : α → β → γ → δ → ε → LL) (Hx : α → β → γ → δ → ε → List Res) (p : α → β → γ → δ → ε → Prop) (μ : α → β → γ → δ → ε → Nat) {c : Code}
    (h0 : p x0 y0 z0 t0 u0) (hI : Ix x0 y0 z0 t0 u0 = I) (hL : Sub (Lx x0 y0 z0 t0 u0) L) (hH : Hx x0 y0 z0 t0 u0 = H)
    (round : ∀ x y z t u, p x y z t u → SX n E (Ix x y z t u) (Lx x y z t u) (Hx x y z t u) (c.wq ρ P (Exit.then (NextS5 n E Ix Lx Hx p μ x y z t u) Q))) : SX n E I L H ((Code.loop c).wq ρ P Q) :=
  c_loop (α := α × β × γ × δ × ε) (x0, y0, z0, t0, u0) (fun q => Ix q.1 q.2.1 q.2.2.1 q.2.2.2.1 q.2.2.2.2) (fun q => Lx q.1 q.2.1 q.2.2.1 q.2.2.2.1 q.2.2.2.2) (fun q => Hx q.1 q.2.1 q.2.2.1 q.2.2.2.1 q.2.2.2.2) (fun q => p q.1 q.2.1 q.2.2.1 q.2.2.2.1 q.2.2.2.2) (fun q => μ q.1 q.2.1 q.2.2.1 q.2.2.2.1 q.2.2.2.2) h0 hI hL hH
    fun ⟨x, y, z, t, u⟩ hp => sx_mono (round x y z t u hp) fun a w h => cwq_mono (fun e a w q => by
      cases e with
      | normal => obtain ⟨x', y', z', t', u', h1, h2, h3, h4⟩ := q; exact ⟨(x', y', z', t', u'), h1, h2, h3, h4⟩
      | _ => exact q) h
theorem q_next5 {Ix : α → β → γ → δ → ε → IMap} {Lx : α → β → γ → δ → ε → LL} {Hx : α → β → γ → δ → ε → List Res} {p : α → β → γ → δ → ε → Prop} {μ : α → β → γ → δ → ε → Nat} {x : α} {y : β} {z : γ} {t : δ} {u : ε} (x' : α) (y' : β) (z' : γ) (t' : δ) (u' : ε) (hp : p x' y' z' t' u') (hμ : μ x' y' z' t' u' < μ x y z t u)
    (hI : Ix x' y' z' t' u' = I) (hL : Sub (Lx x' y' z' t' u') L) (hH : Hx x' y' z' t' u' = H) : SX n E I L H (NextS5 n E Ix Lx Hx p μ x y z t u) :=
  fun a w s m => ⟨x', y', z', t', u', hp, hμ, s.sub hL, by rw [hI, hH]; exact m⟩
end
section
variable {P : Program} {n : Sz} {E : Ent} {I : IMap} {L : LL} {Q : Exit → Act → World → Prop} {ops : Array Oper} {K : Act → World → Prop} {d ty : Nat} {pos : String} {af : Array Edge}
variable {α : Type} {l : Nat} {rd : IMap → List Value → α → Prop} {ok : List α → α → Prop} {J : Bool → List α → IMap → List Res → Prop} {Hc : List Res} {fo : Operand} {as : List Operand} {ats : Array TypeId} {vs : List Value} {pre : List α} {r1 r2 r3 r4 r5 : Res}
theorem o_yield0 (x : α) (hy : YieldsS P l rd ok J) (hJ : J true pre I Hc) (hr : rd I vs x) (hk : ok pre x) (hf : ev L fo = some (.func (.yield l) #[] #[])) (ha : evs L as = some vs) (hd : Nat.blt d n.sz = true)
    (k : ∀ b I' Hc', ILe I I' → J b (pre ++ [x]) I' Hc' → SX n E I' ((d, .bool b) :: L) Hc' K) : SX n E I L Hc (one P ops Q ⟨some d, .call { callee := .value fo, args := as.toArray, argTypes := ats }, ty, pos, af, none⟩ K) :=
  o_yield (H := []) hy hJ hr hk hf ha hd k
theorem o_yield1 (x : α) (hy : YieldsS P l rd ok J) (hJ : J true pre I Hc) (hr : rd I vs x) (hk : ok pre x) (hf : ev L fo = some (.func (.yield l) #[] #[])) (ha : evs L as = some vs) (hd : Nat.blt d n.sz = true)
    (k : ∀ b I' Hc', ILe I I' → J b (pre ++ [x]) I' Hc' → SX n E I' ((d, .bool b) :: L) (r1 :: Hc') K) : SX n E I L (r1 :: Hc) (one P ops Q ⟨some d, .call { callee := .value fo, args := as.toArray, argTypes := ats }, ty, pos, af, none⟩ K) :=
  o_yield (H := [r1]) hy hJ hr hk hf ha hd k
theorem o_yield2 (x : α) (hy : YieldsS P l rd ok J) (hJ : J true pre I Hc) (hr : rd I vs x) (hk : ok pre x) (hf : ev L fo = some (.func (.yield l) #[] #[])) (ha : evs L as = some vs) (hd : Nat.blt d n.sz = true)
    (k : ∀ b I' Hc', ILe I I' → J b (pre ++ [x]) I' Hc' → SX n E I' ((d, .bool b) :: L) (r1 :: r2 :: Hc') K) : SX n E I L (r1 :: r2 :: Hc) (one P ops Q ⟨some d, .call { callee := .value fo, args := as.toArray, argTypes := ats }, ty, pos, af, none⟩ K) :=
  o_yield (H := [r1, r2]) hy hJ hr hk hf ha hd k
theorem o_yield3 (x : α) (hy : YieldsS P l rd ok J) (hJ : J true pre I Hc) (hr : rd I vs x) (hk : ok pre x) (hf : ev L fo = some (.func (.yield l) #[] #[])) (ha : evs L as = some vs) (hd : Nat.blt d n.sz = true)
    (k : ∀ b I' Hc', ILe I I' → J b (pre ++ [x]) I' Hc' → SX n E I' ((d, .bool b) :: L) (r1 :: r2 :: r3 :: Hc') K) : SX n E I L (r1 :: r2 :: r3 :: Hc) (one P ops Q ⟨some d, .call { callee := .value fo, args := as.toArray, argTypes := ats }, ty, pos, af, none⟩ K) :=
  o_yield (H := [r1, r2, r3]) hy hJ hr hk hf ha hd k
theorem o_yield4 (x : α) (hy : YieldsS P l rd ok J) (hJ : J true pre I Hc) (hr : rd I vs x) (hk : ok pre x) (hf : ev L fo = some (.func (.yield l) #[] #[])) (ha : evs L as = some vs) (hd : Nat.blt d n.sz = true)
    (k : ∀ b I' Hc', ILe I I' → J b (pre ++ [x]) I' Hc' → SX n E I' ((d, .bool b) :: L) (r1 :: r2 :: r3 :: r4 :: Hc') K) : SX n E I L (r1 :: r2 :: r3 :: r4 :: Hc) (one P ops Q ⟨some d, .call { callee := .value fo, args := as.toArray, argTypes := ats }, ty, pos, af, none⟩ K) :=
  o_yield (H := [r1, r2, r3, r4]) hy hJ hr hk hf ha hd k
theorem o_yield5 (x : α) (hy : YieldsS P l rd ok J) (hJ : J true pre I Hc) (hr : rd I vs x) (hk : ok pre x) (hf : ev L fo = some (.func (.yield l) #[] #[])) (ha : evs L as = some vs) (hd : Nat.blt d n.sz = true)
    (k : ∀ b I' Hc', ILe I I' → J b (pre ++ [x]) I' Hc' → SX n E I' ((d, .bool b) :: L) (r1 :: r2 :: r3 :: r4 :: r5 :: Hc') K) : SX n E I L (r1 :: r2 :: r3 :: r4 :: r5 :: Hc) (one P ops Q ⟨some d, .call { callee := .value fo, args := as.toArray, argTypes := ats }, ty, pos, af, none⟩ K) :=
  o_yield (H := [r1, r2, r3, r4, r5]) hy hJ hr hk hf ha hd k
end
section
variable {P : Program} {n : Sz} {E : Ent} {I I' : IMap} {L : LL} {H : List Res} {Q : Exit → Act → World → Prop} {ops : Array Oper} {K : Act → World → Prop} {w0 : World}
variable {d ty : Nat} {pos : String} {af : Array Edge} {fo : Operand} {as : List Operand} {ats : Array TypeId} {f : FuncId} {args : List Value} {r : Res} {X : List Nat}
/-- a resource goes in, a value and grown memory come out -/
def FnD (P : Program) (f : FuncId) (args : Array Value) (I : IMap) (r : Res) (p : Value → IMap → Prop) : Prop := FnH P f args I [r] fun u I' H' => p u I' ∧ H' = []
theorem o_callD {p : Value → IMap → Prop} (hc : FnD P f args.toArray I r p) (h : callArgs L fo as = some (f, args)) (hd : Nat.blt d n.sz = true) (k : ∀ v I', ILe I I' → p v I' → SX n E I' ((d, v) :: L) H K) :
    SX n E I L (r :: H) (one P ops Q ⟨some d, .call { callee := .value fo, args := as.toArray, argTypes := ats }, ty, pos, af, none⟩ K) :=
  o_callH (Hc := [r]) hc h hd fun v I' H' hI hp => by obtain ⟨h1, rfl⟩ := hp; exact k v I' hI h1
theorem q_d {v : Value} {p : Value → IMap → Prop} (h : p v I) : SX n E I L H fun _ w => Post E (fun u' I' H' => p u' I' ∧ H' = []) (.returned v) w := q_i h
theorem q_it {α : Type} {J : Bool → List α → IMap → List Res → Prop} {full part : List α → Prop} {v : Value} (b : Bool) (pre : List α) (hJ : J b pre I H) (hf : if b then full pre else part pre) :
    SX n E I L H fun _ w => Post E (fun _ I' H' => ∃ b pre, J b pre I' H' ∧ (if b then full pre else part pre)) (.returned v) w := q_post (fun _ m => m) ⟨b, pre, hJ, hf⟩
end
section
variable {n : Sz} {E : Ent} {I : IMap} {L : LL} {H : List Res} {K : Act → World → Prop} {a b r1 r2 r3 r4 r5 r6 r7 r8 r9 : Res}
theorem sx_exp0 (h : SX n E I L [a, b] K) : SX n E I L (a :: b :: []) K := h
theorem sx_app0 (h : SX n E I L (a :: H) K) : SX n E I L (a :: ([] ++ H)) K := h
theorem sx_exp1 (h : SX n E I L [a, b, r1] K) : SX n E I L (a :: b :: [r1]) K := h
theorem sx_app1 (h : SX n E I L (a :: r1 :: H) K) : SX n E I L (a :: ([r1] ++ H)) K := h
theorem sx_exp2 (h : SX n E I L [a, b, r1, r2] K) : SX n E I L (a :: b :: [r1, r2]) K := h
theorem sx_app2 (h : SX n E I L (a :: r1 :: r2 :: H) K) : SX n E I L (a :: ([r1, r2] ++ H)) K := h
theorem sx_exp3 (h : SX n E I L [a, b, r1, r2, r3] K) : SX n E I L (a :: b :: [r1, r2, r3]) K := h
theorem sx_app3 (h : SX n E I L (a :: r1 :: r2 :: r3 :: H) K) : SX n E I L (a :: ([r1, r2, r3] ++ H)) K := h
theorem sx_exp4 (h : SX n E I L [a, b, r1, r2, r3, r4] K) : SX n E I L (a :: b :: [r1, r2, r3, r4]) K := h
theorem sx_app4 (h : SX n E I L (a :: r1 :: r2 :: r3 :: r4 :: H) K) : SX n E I L (a :: ([r1, r2, r3, r4] ++ H)) K := h
theorem sx_exp5 (h : SX n E I L [a, b, r1, r2, r3, r4, r5] K) : SX n E I L (a :: b :: [r1, r2, r3, r4, r5]) K := h
theorem sx_app5 (h : SX n E I L (a :: r1 :: r2 :: r3 :: r4 :: r5 :: H) K) : SX n E I L (a :: ([r1, r2, r3, r4, r5] ++ H)) K := h
theorem sx_exp6 (h : SX n E I L [a, b, r1, r2, r3, r4, r5, r6] K) : SX n E I L (a :: b :: [r1, r2, r3, r4, r5, r6]) K := h
theorem sx_app6 (h : SX n E I L (a :: r1 :: r2 :: r3 :: r4 :: r5 :: r6 :: H) K) : SX n E I L (a :: ([r1, r2, r3, r4, r5, r6] ++ H)) K := h
theorem sx_exp7 (h : SX n E I L [a, b, r1, r2, r3, r4, r5, r6, r7] K) : SX n E I L (a :: b :: [r1, r2, r3, r4, r5, r6, r7]) K := h
theorem sx_app7 (h : SX n E I L (a :: r1 :: r2 :: r3 :: r4 :: r5 :: r6 :: r7 :: H) K) : SX n E I L (a :: ([r1, r2, r3, r4, r5, r6, r7] ++ H)) K := h
theorem sx_exp8 (h : SX n E I L [a, b, r1, r2, r3, r4, r5, r6, r7, r8] K) : SX n E I L (a :: b :: [r1, r2, r3, r4, r5, r6, r7, r8]) K := h
theorem sx_app8 (h : SX n E I L (a :: r1 :: r2 :: r3 :: r4 :: r5 :: r6 :: r7 :: r8 :: H) K) : SX n E I L (a :: ([r1, r2, r3, r4, r5, r6, r7, r8] ++ H)) K := h
theorem sx_exp9 (h : SX n E I L [a, b, r1, r2, r3, r4, r5, r6, r7, r8, r9] K) : SX n E I L (a :: b :: [r1, r2, r3, r4, r5, r6, r7, r8, r9]) K := h
theorem sx_app9 (h : SX n E I L (a :: r1 :: r2 :: r3 :: r4 :: r5 :: r6 :: r7 :: r8 :: r9 :: H) K) : SX n E I L (a :: ([r1, r2, r3, r4, r5, r6, r7, r8, r9] ++ H)) K := h
end
theorem sx_roweq {n : Sz} {E : Ent} {I : IMap} {L : LL} {H : List Res} {K : Act → World → Prop} {v : Value} {t k m : Nat} {xs ys : List Value} (h : xs = ys) (hk : SX n E I L (.row v t k m ys :: H) K) : SX n E I L (.row v t k m xs :: H) K := h ▸ hk
section
variable {P : Program} {n : Sz} {E : Ent} {I : IMap} {L : LL} {H : List Res} {d ty tx tyy : Nat} {pos : String} {af : Array Edge} {x y : Operand}
theorem v_rem {i j : Nat} (hx : ev L x = some (.int .i64 ((i : Nat) : Int))) (hy : ev L y = some (.int .i64 ((j : Nat) : Int))) (hj : 0 < j) (hb : i ≤ 9223372036854775807) : OV P n E I L H ⟨some d, .binOp .rem tx x y tyy, ty, pos, af, none⟩ (.int .i64 ((i % j : Nat) : Int)) := fun a w s _ => by
  have h1 : (j : Int) ≠ 0 := by omega
  have h2 : Int.tmod (i : Int) (j : Int) = ((i % j : Nat) : Int) := by rw [Int.tmod_eq_emod_of_nonneg (by omega)]; simp
  have h3 : i % j ≤ i := Nat.mod_le _ _
  simp only [execOp, s.ev hx, s.ev hy, eqGuard_at_int, binOp_rem, Op.intDiv, Sem.run_bind]
  simp [h1, h2]
  intro h0
  omega
end
end Go.Sx

/- The course of events in plain Lean: states one after the other; deleting in place. -/
set_option linter.all false
namespace Go.Sx
open Go
theorem idxF_ge {α : Type} (p : α → Bool) (l : List α) : -1 ≤ idxF p l := by
  cases h : l.findIdx? p with
  | none => have : idxF p l = -1 := by simp [idxF, h]
            omega
  | some k => have : idxF p l = (k : Int) := by simp [idxF, h]
              omega
theorem idxF_pos {α : Type} {p : α → Bool} {l : List α} {i : Nat} (h : idxF p l = (i : Int)) (hi : i < l.length) : p l[i] = true ∧ ∀ j x, j < i → l[j]? = some x → p x = false := by
  cases hf : l.findIdx? p with
  | none => have : idxF p l = -1 := by simp [idxF, hf]
            omega
  | some k =>
    have : idxF p l = (k : Int) := by simp [idxF, hf]
    obtain rfl : k = i := by omega
    rw [List.findIdx?_eq_some_iff_getElem] at hf
    obtain ⟨h1, h2, h3⟩ := hf
    exact ⟨h2, fun j x hj hx => by obtain ⟨hlt, rfl⟩ := List.getElem?_eq_some_iff.1 hx; simpa using h3 j hj⟩
/-- what the iterator of states hands to the loop -/
def rdR2 (I : IMap) (vs : List Value) (x : Res2) : Prop := ∃ w, vs = [.agg #[w], .int .i64 x.2] ∧ RdS I w x.1
/-- what lies in front of a place that is written, what is read behind it -/
structure Del (p : Evt → Bool) (l m : List Evt) (i j : Nat) : Prop where
  len : m.length = l.length
  le : i ≤ j
  hj : j ≤ l.length
  fst : m.take i = (l.take j).filter fun x => !p x
  rest : m.drop j = l.drop j
theorem Del.start {p : Evt → Bool} {l : List Evt} {i : Nat} (hi : i < l.length) (hp : p l[i] = true) (hn : ∀ j x, j < i → l[j]? = some x → p x = false) : Del p l l i (i + 1) := by
  refine ⟨rfl, by omega, by omega, ?_, rfl⟩
  rw [← take_succ_of hi, List.filter_append]
  have h1 : (l.take i).filter (fun x => !p x) = l.take i := by
    rw [List.filter_eq_self]
    intro x hx
    obtain ⟨j, hj, rfl⟩ := List.getElem_of_mem hx
    simp only [List.length_take] at hj
    rw [List.getElem_take, hn j _ (by omega) (List.getElem?_eq_getElem (by omega))]
    rfl
  rw [h1]
  simp [hp]
theorem Del.at_ {p : Evt → Bool} {l m : List Evt} {i j : Nat} (h : Del p l m i j) (hj : j < l.length) : m[j]'(by rw [h.len]; exact hj) = l[j] := by
  have h1 : (m.drop j)[0]? = (l.drop j)[0]? := by rw [h.rest]
  rw [List.getElem?_drop, List.getElem?_drop, List.getElem?_eq_getElem (by rw [h.len]; simpa using hj), List.getElem?_eq_getElem (by simpa using hj)] at h1
  simpa using h1
theorem Del.skip {p : Evt → Bool} {l m : List Evt} {i j : Nat} (h : Del p l m i j) (hj : j < l.length) (hp : p l[j] = true) : Del p l m i (j + 1) := by
  refine ⟨h.len, by have := h.le; omega, by omega, ?_, ?_⟩
  · rw [h.fst, ← take_succ_of hj, List.filter_append]; simp [hp]
  · have := congrArg (List.drop 1) h.rest; simpa [List.drop_drop] using this
theorem Del.keep {p : Evt → Bool} {l m : List Evt} {i j : Nat} (h : Del p l m i j) (hj : j < l.length) (hp : p l[j] = false) : Del p l (m.set i l[j]) (i + 1) (j + 1) := by
  have hl := h.len
  have hle := h.le
  refine ⟨by simp [hl], by omega, by omega, ?_, ?_⟩
  · rw [List.take_succ_eq_append_getElem (by simp; omega), List.take_set_of_le (Nat.le_refl _), h.fst, ← take_succ_of hj, List.filter_append]
    simp [hp]
  · rw [List.drop_set_of_lt (by omega)]
    have := congrArg (List.drop 1) h.rest; simpa [List.drop_drop] using this
/-- the states after the events, until one is not possible -/
def statesF (c : List Kind) : List Part → List Evt → List Res2
  | _, [] => []
  | s, e :: r => applyF c s e :: (if (applyF c s e).2 = 0 then statesF c (applyF c s e).1 r else [])
theorem states_len (c : List Kind) : ∀ (l : List Evt) (s : List Part), (statesF c s l).length ≤ l.length
  | [], _ => Nat.le_refl _
  | e :: r, s => by
    simp only [statesF, List.length_cons]
    split
    · have := states_len c r (applyF c s e).1; omega
    · simp
abbrev Res3 := List Part × Int × Int
/-- the state after all, or where it stops -/
def runGo (c : List Kind) : List Part → Int → List Evt → Res3
  | s, _, [] => (s, -1, 0)
  | s, i, e :: r => if (applyF c s e).2 = 0 then runGo c (applyF c s e).1 (i + 1) r else ([], i, (applyF c s e).2)
def runF (c : List Kind) (l : List Evt) : Res3 := if validC c = false then ([], -1, 1) else runGo c [] 0 (sortF l)
def atF11 (c : List Kind) (l : List Evt) (day : Int) : Res3 := runF c (l.filter fun e => !decide (e.day > day))
def lastS (s : List Part) (pre : List Res2) : List Part := (pre.getLast?.map (·.1)).getD s
theorem run_full {c : List Kind} : ∀ (l : List Evt) (s : List Part) (i : Int), (∀ x ∈ statesF c s l, x.2 = 0) → runGo c s i l = (lastS s (statesF c s l), -1, 0)
  | [], s, i, _ => rfl
  | e :: r, s, i, h => by
    have h1 : (applyF c s e).2 = 0 := h _ (by simp [statesF])
    simp only [runGo, statesF, if_pos h1]
    rw [run_full r _ _ (fun x hx => h x (by simp only [statesF, if_pos h1]; exact List.mem_cons_of_mem _ hx))]
    congr 1
    cases hs : statesF c (applyF c s e).1 r with
    | nil => simp [lastS]
    | cons y t =>
      obtain ⟨z, hz⟩ : ∃ z, (y :: t).getLast? = some z := ⟨_, List.getLast?_eq_some_getLast (by simp)⟩
      simp [lastS, List.getLast?_cons_cons, hz]
theorem run_stop {c : List Kind} : ∀ (l : List Evt) (s : List Part) (i : Int) (pre rest : List Res2) (x : Res2), statesF c s l = pre ++ x :: rest → (∀ y ∈ pre, y.2 = 0) → x.2 ≠ 0 → runGo c s i l = ([], i + (pre.length : Nat), x.2)
  | [], s, i, pre, rest, x, h, _, _ => by simp [statesF] at h
  | e :: r, s, i, pre, rest, x, h, hp, hx => by
    simp only [statesF] at h
    cases pre with
    | nil =>
      simp only [List.nil_append, List.cons.injEq] at h
      simp only [runGo]
      rw [h.1, if_neg hx]
      simp
    | cons y t =>
      simp only [List.cons_append, List.cons.injEq] at h
      obtain ⟨h1, h2⟩ := h
      have h3 : y.2 = 0 := hp y (by simp)
      rw [h1] at h2
      rw [if_pos h3] at h2
      simp only [runGo, h1, if_pos h3]
      rw [run_stop r y.1 (i + 1) t rest x h2 (fun z hz => hp z (by simp [hz])) hx]
      simp only [List.length_cons, Prod.mk.injEq, true_and, and_true]
      omega
/-- a round of the iterator -/
structure StAt (c : List Kind) (l : List Evt) (i : Nat) (st : List Part) : Prop where
  le : i ≤ (statesF c [] l).length
  rest : (statesF c [] l).drop i = statesF c st (l.drop i)
theorem StAt.zero (c : List Kind) (l : List Evt) : StAt c l 0 [] := ⟨Nat.zero_le _, rfl⟩
theorem StAt.step {c : List Kind} {l : List Evt} {i : Nat} {st : List Part} (h : StAt c l i st) (hi : i < l.length) :
    (statesF c [] l).take i ++ [applyF c st l[i]] = (statesF c [] l).take (i + 1) ∧ i < (statesF c [] l).length ∧ ((applyF c st l[i]).2 = 0 → StAt c l (i + 1) (applyF c st l[i]).1) ∧ ((applyF c st l[i]).2 ≠ 0 → (statesF c [] l).take (i + 1) = statesF c [] l) := by
  have h1 := h.rest
  rw [List.drop_eq_getElem_cons hi] at h1
  simp only [statesF] at h1
  have hlt : i < (statesF c [] l).length := by
    rcases Nat.lt_or_ge i (statesF c [] l).length with h2 | h2
    · exact h2
    · rw [List.drop_eq_nil_of_le h2] at h1; cases h1
  rw [List.drop_eq_getElem_cons hlt] at h1
  simp only [List.cons.injEq] at h1
  refine ⟨?_, hlt, fun h0 => ⟨hlt, ?_⟩, fun h0 => ?_⟩
  · rw [← h1.1, take_succ_of hlt]
  · rw [h1.2, if_pos h0]
  · refine List.take_of_length_le ?_
    have h2 := h1.2
    rw [if_neg h0] at h2
    simpa using h2
theorem StAt.last {c : List Kind} {l : List Evt} {i : Nat} {st : List Part} (h : StAt c l i st) (hi : l.length ≤ i) : (statesF c [] l).take i = statesF c [] l := by
  have h1 := h.rest
  rw [List.drop_eq_nil_of_le hi] at h1
  exact List.take_of_length_le (by simpa [statesF] using h1)
/-! small names stay small -/
theorem SmF.nil : SmF [] := fun _ h => by cases h
theorem putL_mem {α : Type} {nm : α → ByteArray} {l : List α} {x y : α} (h : y ∈ putL nm l x) : y = x ∨ y ∈ l := by
  unfold putL at h
  split at h
  · rcases List.mem_or_eq_of_mem_set h with h | h
    · exact .inr h
    · exact .inl h
  · rcases List.mem_append.1 h with h | h
    · exact .inr (List.mem_of_mem_take h)
    · rcases List.mem_cons.1 h with h | h
      · exact .inl h
      · exact .inr (List.mem_of_mem_drop h)
theorem putR_sm {l : List Part} {p : Part} (h : SmF l) (hp : SmP p) : SmF (putR l p).1 := fun q hq => by
  rcases putL_mem (show q ∈ putL Part.name l p from hq) with rfl | hq
  · exact hp
  · exact h q hq
theorem applyF_sm {c : List Kind} {l : List Part} {e : Evt} (h : SmF l) (he : SmE e) : SmF (applyF c l e).1 := by
  have hz : SmP zPart := ⟨(by show (0 : Nat) ≤ _; omega), fun q hq => by simp [zPart] at hq⟩
  have hp : SmP (partP l e) := by
    unfold partP
    cases hf : findP l e.part with
    | none => exact hz
    | some p => exact h p (find_mem hf)
  have hn : SmP (noted e (partP l e)) := ⟨hp.1, fun q hq => by
    rcases putL_mem (show q ∈ putL Prp.key (partP l e).props ⟨e.key, e.value⟩ from hq) with rfl | hq
    · exact he.2.2.2.2.1
    · exact hp.2 q hq⟩
  have hnew : SmP (newP e) := ⟨he.1, fun q hq => by simp [newP] at hq⟩
  have hfail : ∀ k, SmF (failR k).1 := fun k => SmF.nil
  unfold applyF
  split
  · exact hfail 1
  · split
    · unfold applyMake
      repeat' split
      all_goals first
        | exact hfail _
        | exact putR_sm h hnew
    · unfold applyRest
      split
      · exact hfail _
      · split
        · exact hfail _
        · unfold applyOp applyFit applyRemove applyRun applyNote applyScrap
          repeat' split
          all_goals first
            | exact hfail _
            | exact putR_sm h hp
            | exact putR_sm h hn
            | exact putR_sm h ⟨hp.1, hp.2⟩
end Go.Sx

/- What the laws of the course rest on, in plain Lean. -/
set_option linter.all false
namespace Go.Sx
open Go
theorem fewE_sm {l : List Evt} {n : Int} (h : fewE l n = true) : (∀ e ∈ l, SmE e) ∧ ((l.length : Nat) : Int) ≤ n := by
  simp only [fewE, Bool.and_eq_true, decide_eq_true_eq] at h
  refine ⟨fun e he => ?_, h.2⟩
  obtain ⟨_, h1⟩ := allP_mem h.1 he
  simp only [shortE, Bool.and_eq_true, decide_eq_true_eq] at h1
  refine ⟨?_, ?_, ?_, ?_, ?_, ?_⟩ <;> unfold Sm <;> omega
theorem fewC_sm {c : List Kind} (h : fewC c = true) : SmC c := by
  simp only [fewC, Bool.and_eq_true, Bool.not_eq_true', decide_eq_false_iff_not] at h
  intro k hk
  obtain ⟨_, h1⟩ := allP_mem h.2 hk
  simp only [fewKind, Bool.and_eq_true, Bool.not_eq_true', Bool.or_eq_false_iff, decide_eq_false_iff_not] at h1
  refine ⟨by unfold Sm; omega, fun s hs => ?_⟩
  obtain ⟨_, h2⟩ := allP_mem h1.2 hs
  simp only [fewSlot, Bool.and_eq_true, Bool.not_eq_true', Bool.or_eq_false_iff, decide_eq_false_iff_not] at h2
  refine ⟨by unfold Sm; omega, fun q hq => ?_⟩
  obtain ⟨_, h3⟩ := allP_mem h2.2 hq
  simp only [Bool.not_eq_true', decide_eq_false_iff_not] at h3
  unfold Sm; omega
/-! the example -/
def nMotor : ByteArray := ⟨#[109, 111, 116, 111, 114]⟩
def nCoach : ByteArray := ⟨#[99, 111, 97, 99, 104]⟩
def nM : ByteArray := ⟨#[109]⟩
def nM1 : ByteArray := ⟨#[109, 49]⟩
def nV1 : ByteArray := ⟨#[118, 49]⟩
def smpC : List Kind := [⟨nMotor, false, []⟩, ⟨nCoach, true, [⟨nM, [nMotor], 1⟩]⟩]
def smpL (day : Int) : List Evt := [⟨2, day, nM1, nil8, nV1, nM, nil8, nil8, zUse⟩, ⟨1, 1, nM1, nMotor, nil8, nil8, nil8, nil8, zUse⟩, ⟨1, 1, nV1, nCoach, nil8, nil8, nil8, nil8, zUse⟩]
def smpA : List Part := [⟨nM1, nMotor, nV1, nM, 1, 1, false, [], zLife⟩, ⟨nV1, nCoach, nil8, nil8, 1, 1, false, [], zLife⟩]
def smpB : List Part := [⟨nM1, nMotor, nil8, nil8, 1, 1, false, [], zLife⟩, ⟨nV1, nCoach, nil8, nil8, 1, 1, false, [], zLife⟩]
theorem smp_run5 : runF smpC (smpL 5) = (smpA, -1, 0) := by decide +kernel
theorem smp_run1 : runF smpC (smpL 1) = ([], 0, 2) := by decide +kernel
theorem smp_at4 : atF11 smpC (smpL 5) 4 = (smpB, -1, 0) := by decide +kernel
theorem smp_smC : SmC smpC := fewC_sm (by decide +kernel)
theorem smp_smE (d : Int) : ∀ e ∈ smpL d, SmE e := (fewE_sm (n := 3) (by
  have h : ∀ e ∈ smpL d, shortE e = true := by
    intro e he
    simp only [smpL, List.mem_cons, List.not_mem_nil, or_false] at he
    rcases he with rfl | rfl | rfl
    · show (shortE ⟨2, 0, nM1, nil8, nV1, nM, nil8, nil8, zUse⟩) = true; decide +kernel
    · decide +kernel
    · decide +kernel
  simp only [fewE, Bool.and_eq_true]
  refine ⟨?_, by simp [smpL]⟩
  rw [allP, List.all_eq_true]
  intro i hi
  have hi := List.mem_range.1 hi
  simp only [List.getElem?_eq_getElem hi]
  exact h _ (List.getElem_mem hi))).1
end Go.Sx

/- The laws of the course in plain Lean. -/
set_option linter.all false
namespace Go.Sx
open Go
/-! the order -/
section
variable {α : Type} [Day α]
theorem srtd_take {l : List α} (h : Srtd l) (n : Nat) : Srtd (l.take n) := List.Pairwise.sublist (List.take_sublist n l) h
theorem srtd_drop {l : List α} (h : Srtd l) (n : Nat) : Srtd (l.drop n) := List.Pairwise.sublist (List.drop_sublist n l) h
theorem sortF_of {l m : List α} (hs : Srtd m) (h : ∀ d : Int, m.filter (fun e => decide (Day.day e = d)) = l.filter (fun e => decide (Day.day e = d))) : sortF l = m :=
  stb_one _ _ (sortF_srt l) hs fun d => by rw [sortF_filter, h]
theorem sortF_self {l : List α} (h : Srtd l) : sortF l = l := sortF_of h fun _ => rfl
theorem sortF_idem (l : List α) : sortF (sortF l) = sortF l := sortF_self (sortF_srt l)
theorem sortF_congr {l m : List α} (h : ∀ d : Int, m.filter (fun e => decide (Day.day e = d)) = l.filter (fun e => decide (Day.day e = d))) : sortF m = sortF l :=
  sortF_of (sortF_srt l) fun d => by rw [sortF_filter, h]
/-- the earlier ones, the later ones -/
theorem sortF_part (l : List α) (p : α → Bool) (h : ∀ x ∈ l, ∀ y ∈ l, p x = true → p y = false → Day.day x ≤ Day.day y) (hd : ∀ x ∈ l, ∀ y ∈ l, Day.day x = Day.day y → p x = p y) :
    sortF l = sortF (l.filter p) ++ sortF (l.filter fun x => !p x) := by
  refine sortF_of ?_ fun d => ?_
  · rw [Srtd, List.pairwise_append]
    refine ⟨sortF_srt _, sortF_srt _, fun x hx y hy => ?_⟩
    rw [sortF_mem, List.mem_filter] at hx hy
    exact h x hx.1 y hy.1 hx.2 (by simpa using hy.2)
  · rw [List.filter_append, sortF_filter, sortF_filter, List.filter_filter, List.filter_filter]
    by_cases hp : ∃ x ∈ l, Day.day x = d ∧ p x = true
    · obtain ⟨x, hx, hxd, hxp⟩ := hp
      have e1 : l.filter (fun a => decide (Day.day a = d) && p a) = l.filter fun a => decide (Day.day a = d) := by
        apply List.filter_congr
        intro y hy
        by_cases hyd : Day.day y = d
        · simp [hyd, ← hd x hx y hy (by omega), hxp]
        · simp [hyd]
      have e2 : l.filter (fun a => decide (Day.day a = d) && !p a) = [] := by
        rw [List.filter_eq_nil_iff]
        intro y hy
        by_cases hyd : Day.day y = d
        · simp [← hd x hx y hy (by omega), hxp]
        · simp [hyd]
      rw [e1, e2, List.append_nil]
    · have e1 : l.filter (fun a => decide (Day.day a = d) && p a) = [] := by
        rw [List.filter_eq_nil_iff]
        intro y hy hc
        simp only [Bool.and_eq_true, decide_eq_true_eq] at hc
        exact hp ⟨y, hy, hc.1, hc.2⟩
      have e2 : l.filter (fun a => decide (Day.day a = d) && !p a) = l.filter fun a => decide (Day.day a = d) := by
        apply List.filter_congr
        intro y hy
        by_cases hyd : Day.day y = d
        · have : p y = false := by
            cases h : p y
            · rfl
            · exact absurd ⟨y, hy, hyd, h⟩ hp
          simp [hyd, this]
        · simp [hyd]
      rw [e1, e2, List.nil_append]
/-- the elements of one day, in what is sorted -/
theorem day_block : ∀ (t : List α) (d : Int), Srtd t → (∀ y ∈ t, d ≤ Day.day y) → ∃ rest, t = t.filter (fun e => decide (Day.day e = d)) ++ rest ∧ ∀ y ∈ rest, d < Day.day y
  | [], d, _, _ => ⟨[], rfl, fun _ h => by cases h⟩
  | x :: r, d, hs, hd => by
    have hs' := List.pairwise_cons.1 hs
    by_cases hx : Day.day x = d
    · obtain ⟨rest, h1, h2⟩ := day_block r d hs'.2 (fun y hy => hd y (List.mem_cons_of_mem _ hy))
      refine ⟨rest, ?_, h2⟩
      simp only [List.filter_cons, hx, decide_true, if_true, List.cons_append]
      rw [← h1]
    · refine ⟨x :: r, ?_, fun y hy => ?_⟩
      · have : (x :: r).filter (fun e => decide (Day.day e = d)) = [] := by
          rw [List.filter_eq_nil_iff]
          intro y hy
          have h1 := hd x (by simp)
          rcases List.mem_cons.1 hy with rfl | hy
          · simp [hx]
          · have := hs'.1 y hy
            simp; omega
        rw [this]; rfl
      · have h1 := hd x (by simp)
        rcases List.mem_cons.1 hy with rfl | hy
        · omega
        · have := hs'.1 y hy; omega
/-- where the elements of a day begin -/
def Beg (s : List α) (a : Nat) : Prop := ∀ j x y, j < a → s[j]? = some x → s[a]? = some y → Day.day x < Day.day y
theorem Beg.zero (s : List α) : Beg s 0 := fun j x y h => absurd h (Nat.not_lt_zero j)
theorem beg_block {s : List α} {a : Nat} (hs : Srtd s) (hb : Beg s a) (ha : a < s.length) :
    ∃ rest, s = s.take a ++ (s.filter (fun e => decide (Day.day e = Day.day s[a])) ++ rest) ∧ (∀ y ∈ rest, Day.day s[a] < Day.day y) ∧ ∀ x ∈ s.take a, Day.day x < Day.day s[a] := by
  have h0 : ∀ x ∈ s.take a, Day.day x < Day.day s[a] := fun x hx => by
    obtain ⟨j, hj, rfl⟩ := List.getElem_of_mem hx
    rw [List.length_take] at hj
    rw [List.getElem_take]
    exact hb j _ _ (by omega) (List.getElem?_eq_getElem (by omega)) (List.getElem?_eq_getElem ha)
  have h1 : ∀ y ∈ s.drop a, Day.day s[a] ≤ Day.day y := fun y hy => by
    rw [List.drop_eq_getElem_cons ha] at hy
    rcases List.mem_cons.1 hy with rfl | hy
    · exact Int.le_refl _
    · have := srtd_drop hs a
      rw [List.drop_eq_getElem_cons ha] at this
      exact (List.pairwise_cons.1 this).1 y hy
  obtain ⟨rest, h2, h3⟩ := day_block (s.drop a) (Day.day s[a]) (srtd_drop hs a) h1
  refine ⟨rest, ?_, h3, h0⟩
  have h4 : s.filter (fun e => decide (Day.day e = Day.day s[a])) = (s.drop a).filter (fun e => decide (Day.day e = Day.day s[a])) := by
    have e : s.filter (fun e => decide (Day.day e = Day.day s[a])) = (s.take a).filter (fun e => decide (Day.day e = Day.day s[a])) ++ (s.drop a).filter (fun e => decide (Day.day e = Day.day s[a])) := by rw [← List.filter_append, List.take_append_drop]
    rw [e]
    have : (s.take a).filter (fun e => decide (Day.day e = Day.day s[a])) = [] := by
      rw [List.filter_eq_nil_iff]
      intro x hx
      have := h0 x hx
      simp; omega
    rw [this, List.nil_append]
  rw [h4, ← h2, List.take_append_drop]
/-- how many of a day stand in front -/
def cntD (l : List α) (d : Int) (i : Nat) : Nat := ((l.take i).filter fun e => decide (Day.day e = d)).length
theorem cnt_zero (l : List α) (d : Int) : cntD l d 0 = 0 := rfl
theorem cnt_skip {l : List α} {d : Int} {i : Nat} (hi : i < l.length) (h : ¬ Day.day l[i] = d) : cntD l d (i + 1) = cntD l d i := by
  rw [cntD, ← take_succ_of hi, List.filter_append]; simp [h, cntD]
theorem cnt_step {l : List α} {d : Int} {i : Nat} (hi : i < l.length) (h : Day.day l[i] = d) : cntD l d (i + 1) = cntD l d i + 1 := by
  rw [cntD, ← take_succ_of hi, List.filter_append]; simp [h, cntD]
theorem cnt_all (l : List α) (d : Int) : cntD l d l.length = (l.filter fun e => decide (Day.day e = d)).length := by rw [cntD, List.take_length]
theorem cnt_at {l : List α} {d : Int} {i : Nat} (hi : i < l.length) (h : Day.day l[i] = d) : (l.filter fun e => decide (Day.day e = d))[cntD l d i]? = some l[i] := by
  have e : l.filter (fun e => decide (Day.day e = d)) = (l.take i).filter (fun e => decide (Day.day e = d)) ++ (l.drop i).filter (fun e => decide (Day.day e = d)) := by rw [← List.filter_append, List.take_append_drop]
  rw [e, cntD, List.getElem?_append_right (Nat.le_refl _), Nat.sub_self, List.drop_eq_getElem_cons hi, List.filter_cons_of_pos (by simp [h])]
  rfl
theorem ord_at {l : List α} {a i : Nat} (hb : Beg (sortF l) a) (ha : a < (sortF l).length) (hi : i < l.length) (h : Day.day l[i] = Day.day (sortF l)[a]) : (sortF l)[a + cntD l (Day.day (sortF l)[a]) i]? = some l[i] := by
  obtain ⟨rest, h1, h2, h3⟩ := beg_block (sortF_srt l) hb ha
  have h4 := cnt_at hi h
  have hlt := (List.getElem?_eq_some_iff.1 h4).1
  rw [sortF_filter] at h1
  conv => lhs; arg 1; rw [h1]
  rw [List.getElem?_append_right (by rw [List.length_take]; omega), List.length_take, show a + cntD l (Day.day (sortF l)[a]) i - min a (sortF l).length = cntD l (Day.day (sortF l)[a]) i from by omega, List.getElem?_append_left hlt]
  exact h4
theorem ord_next {l : List α} {a : Nat} (hb : Beg (sortF l) a) (ha : a < (sortF l).length) : Beg (sortF l) (a + cntD l (Day.day (sortF l)[a]) l.length) ∧ a + cntD l (Day.day (sortF l)[a]) l.length ≤ (sortF l).length ∧ 0 < cntD l (Day.day (sortF l)[a]) l.length := by
  obtain ⟨rest, h1, h2, h3⟩ := beg_block (sortF_srt l) hb ha
  rw [sortF_filter] at h1
  rw [cnt_all]
  generalize hd : Day.day (sortF l)[a] = d at *
  generalize hf : l.filter (fun e => decide (Day.day e = d)) = f at *
  have hl : (sortF l).length = a + (f.length + rest.length) := by
    have := congrArg List.length h1
    simp only [List.length_append, List.length_take] at this
    omega
  have hfd : ∀ x ∈ f, Day.day x = d := fun x hx => by rw [← hf] at hx; simpa using (List.mem_filter.1 hx).2
  have hpos : 0 < f.length := by
    refine List.length_pos_of_mem (a := (sortF l)[a]) ?_
    rw [← hf, List.mem_filter]
    exact ⟨sortF_mem.1 (List.getElem_mem ha), by simp [hd]⟩
  refine ⟨fun j x y hj hx hy => ?_, by omega, hpos⟩
  have hy' : y ∈ rest := by
    rw [h1, ← List.append_assoc, List.getElem?_append_right (by simp only [List.length_append, List.length_take]; omega)] at hy
    exact List.mem_of_getElem? hy
  have hx' : x ∈ (sortF l).take a ++ f := by
    rw [h1, ← List.append_assoc, List.getElem?_append_left (by simp only [List.length_append, List.length_take]; omega)] at hx
    exact List.mem_of_getElem? hx
  have := h2 y hy'
  rcases List.mem_append.1 hx' with h | h
  · have := h3 x h; omega
  · have := hfd x h; omega
end
/-! running on -/
theorem go_none {c : List Kind} : ∀ (l : List Evt) (s : List Part) (i : Int), (runGo c s i l).2.2 = 0 → (runGo c s i l).2.1 = -1
  | [], _, _, _ => rfl
  | e :: r, s, i, h => by
    simp only [runGo] at h ⊢
    split at h
    · rename_i h0; rw [if_pos h0]; exact go_none r _ _ h
    · rename_i h0; exact absurd h h0
theorem go_fail {c : List Kind} : ∀ (l : List Evt) (s : List Part) (i : Int), (runGo c s i l).2.2 ≠ 0 → (runGo c s i l).1 = []
  | [], _, _, h => absurd rfl h
  | e :: r, s, i, h => by
    simp only [runGo] at h ⊢
    split at h
    · rename_i h0; rw [if_pos h0]; exact go_fail r _ _ h
    · rename_i h0; rw [if_neg h0]
theorem go_app_ok {c : List Kind} : ∀ (a b : List Evt) (s : List Part) (i : Int), (runGo c s i a).2.2 = 0 → runGo c s i (a ++ b) = runGo c (runGo c s i a).1 (i + (a.length : Nat)) b
  | [], b, s, i, _ => by simp [runGo]
  | e :: r, b, s, i, h => by
    simp only [runGo, List.cons_append] at h ⊢
    split at h
    · rename_i h0
      rw [if_pos h0, if_pos h0, go_app_ok r b _ _ h]
      congr 1
      simp only [List.length_cons]; omega
    · rename_i h0; exact absurd h h0
theorem go_app_err {c : List Kind} : ∀ (a b : List Evt) (s : List Part) (i : Int), (runGo c s i a).2.2 ≠ 0 → runGo c s i (a ++ b) = runGo c s i a
  | [], b, s, i, h => absurd rfl h
  | e :: r, b, s, i, h => by
    simp only [runGo, List.cons_append] at h ⊢
    split at h
    · rename_i h0; rw [if_pos h0, if_pos h0]; exact go_app_err r b _ _ h
    · rename_i h0; rw [if_neg h0, if_neg h0]
theorem run_none {c : List Kind} {l : List Evt} (h : (runF c l).2.2 = 0) : (runF c l).2.1 = -1 := by
  unfold runF at h ⊢
  split at h
  · cases h
  · rename_i hv; rw [if_neg hv]; exact go_none _ _ _ h
theorem run_fail {c : List Kind} {l : List Evt} (h : (runF c l).2.2 ≠ 0) : (runF c l).1 = [] := by
  unfold runF at h ⊢
  split at h
  · rename_i hv; rw [if_pos hv]
  · rename_i hv; rw [if_neg hv]; exact go_fail _ _ _ h
theorem run_valid {c : List Kind} {l : List Evt} (h : (runF c l).2.2 = 0) : validC c = true := by
  unfold runF at h
  split at h
  · cases h
  · rename_i hv; simpa using hv
theorem runF_eq {c : List Kind} (hc : validC c = true) (l : List Evt) : runF c l = runGo c [] 0 (sortF l) := by unfold runF; rw [if_neg (by simp [hc])]
/-- the course of the events up to a day, of those behind it -/
def upD (l : List Evt) (day : Int) : List Evt := l.filter fun e => !decide (e.day > day)
def laD (l : List Evt) (day : Int) : List Evt := l.filter fun e => decide (e.day > day)
theorem sort_day (l : List Evt) (day : Int) : sortF l = sortF (upD l day) ++ sortF (laD l day) := by
  have h := sortF_part l (fun e => !decide (e.day > day)) (fun x _ y _ hx hy => by
    simp only [Bool.not_eq_true', decide_eq_false_iff_not, Bool.not_eq_false', decide_eq_true_eq] at hx hy
    show x.day ≤ y.day; omega) (fun x _ y _ h => by
    have : x.day = y.day := h
    simp only [this])
  rw [h, upD, laD]
  congr 2
  apply List.filter_congr
  intro x _
  simp
theorem up_up (l : List Evt) {a b : Int} (h : a ≤ b) : upD (upD l b) a = upD l a := by
  rw [upD, upD, upD, List.filter_filter]
  apply List.filter_congr
  intro x _
  by_cases h1 : x.day > a
  · simp [h1]
  · have : ¬ x.day > b := by omega
    simp [h1, this]
theorem at_eq (c : List Kind) (l : List Evt) (day : Int) : atF11 c l day = runF c (upD l day) := rfl
theorem at_none {c : List Kind} {l : List Evt} {a : Int} (h : (atF11 c l a).2.2 = 0) : (atF11 c l a).2.1 = -1 := run_none h
theorem at_fail {c : List Kind} {l : List Evt} {a : Int} (h : (atF11 c l a).2.2 ≠ 0) : (atF11 c l a).1 = [] := run_fail h
theorem days_err {c : List Kind} {l : List Evt} {a b : Int} (hab : a ≤ b) (h : (atF11 c l a).2.2 ≠ 0) : atF11 c l b = atF11 c l a := by
  rw [at_eq, at_eq] at *
  cases hv : validC c with
  | false => simp [runF, hv]
  | true =>
    rw [runF_eq hv] at h ⊢
    rw [runF_eq hv, sort_day (upD l b) a, up_up l hab]
    exact go_app_err _ _ _ _ h
theorem run_err {c : List Kind} {l : List Evt} {a : Int} (h : (atF11 c l a).2.2 ≠ 0) : runF c l = atF11 c l a := by
  rw [at_eq] at *
  cases hv : validC c with
  | false => simp [runF, hv]
  | true =>
    rw [runF_eq hv] at h ⊢
    rw [runF_eq hv, sort_day l a]
    exact go_app_err _ _ _ _ h
theorem run_ok {c : List Kind} {l : List Evt} {a : Int} (h : (atF11 c l a).2.2 = 0) : runF c l = runGo c (atF11 c l a).1 ((upD l a).length : Nat) (sortF (laD l a)) := by
  rw [at_eq] at *
  have hv := run_valid h
  rw [runF_eq hv] at h ⊢
  rw [runF_eq hv, sort_day l a, go_app_ok _ _ _ _ h, sortF_len]
  simp
theorem at_all {c : List Kind} {l : List Evt} {b : Int} (h : ∀ e ∈ l, ¬ e.day > b) : atF11 c l b = runF c l := by
  rw [at_eq]
  congr 1
  rw [upD, List.filter_eq_self]
  intro e he
  simpa using h e he
theorem reord (l : List Evt) (day : Int) : sortF (l.filter (fun e => !decide (e.day = day)) ++ l.filter (fun e => decide (e.day = day))) = sortF l := by
  refine sortF_congr fun d => ?_
  rw [List.filter_append, List.filter_filter, List.filter_filter]
  by_cases hd : d = day
  · subst hd
    have e1 : l.filter (fun a => decide (Day.day a = d) && !decide (a.day = d)) = [] := by
      rw [List.filter_eq_nil_iff]
      intro y _
      show ¬ (decide (y.day = d) && !decide (y.day = d)) = true
      by_cases hy : y.day = d <;> simp [hy]
    have e2 : l.filter (fun a => decide (Day.day a = d) && decide (a.day = d)) = l.filter fun a => decide (Day.day a = d) := by
      apply List.filter_congr
      intro y _
      show (decide (y.day = d) && decide (y.day = d)) = decide (y.day = d)
      simp
    rw [e1, e2, List.nil_append]
  · have e1 : l.filter (fun a => decide (Day.day a = d) && !decide (a.day = day)) = l.filter fun a => decide (Day.day a = d) := by
      apply List.filter_congr
      intro y _
      show (decide (y.day = d) && !decide (y.day = day)) = decide (y.day = d)
      by_cases hy : y.day = d
      · have : ¬ y.day = day := by omega
        simp [hy, hd]
      · simp [hy]
    have e2 : l.filter (fun a => decide (Day.day a = d) && decide (a.day = day)) = [] := by
      rw [List.filter_eq_nil_iff]
      intro y _
      show ¬ (decide (y.day = d) && decide (y.day = day)) = true
      by_cases hy : y.day = d
      · simp [hy, hd]
      · simp [hy]
    rw [e1, e2, List.append_nil]
theorem run_reord (c : List Kind) (l : List Evt) (day : Int) : runF c (l.filter (fun e => !decide (e.day = day)) ++ l.filter (fun e => decide (e.day = day))) = runF c l := by
  unfold runF; rw [reord]
/-- where it stops -/
theorem go_stops {c : List Kind} : ∀ (l : List Evt) (s : List Part) (i : Int), (runGo c s i l).2.2 ≠ 0 → ∃ (k : Nat) (h : k < l.length), (runGo c s i l).2.1 = i + (k : Nat) ∧ (runGo c s i (l.take k)).2.2 = 0 ∧ (applyF c (runGo c s i (l.take k)).1 l[k]).2 = (runGo c s i l).2.2
  | [], s, i, h => absurd rfl h
  | e :: r, s, i, h => by
    simp only [runGo] at h ⊢
    split at h
    · rename_i h0
      obtain ⟨k, hk, h1, h2, h3⟩ := go_stops r _ _ h
      refine ⟨k + 1, by simp; omega, ?_, ?_, ?_⟩
      · rw [if_pos h0, h1]; push_cast; omega
      · simp only [List.take_succ_cons, runGo, if_pos h0]; exact h2
      · simp only [List.take_succ_cons, runGo, if_pos h0, List.getElem_cons_succ]; exact h3
    · rename_i h0
      refine ⟨0, by simp, ?_, rfl, ?_⟩
      · rw [if_neg h0]; simp
      · rw [if_neg h0]; rfl
theorem run_stops {c : List Kind} {l : List Evt} (hv : validC c = true) (h : (runF c l).2.2 ≠ 0) : ∃ (k : Nat) (hk : k < (sortF l).length), (runF c l).2.1 = (k : Nat) ∧ (runF c ((sortF l).take k)).2.2 = 0 ∧ (applyF c (runF c ((sortF l).take k)).1 (sortF l)[k]).2 = (runF c l).2.2 := by
  rw [runF_eq hv] at h
  obtain ⟨k, hk, h1, h2, h3⟩ := go_stops _ _ _ h
  have hs : sortF ((sortF l).take k) = (sortF l).take k := sortF_self (srtd_take (sortF_srt l) k)
  refine ⟨k, hk, ?_, ?_, ?_⟩
  · rw [runF_eq hv, h1]; simp
  · rw [runF_eq hv, hs]; exact h2
  · rw [runF_eq hv, runF_eq hv, hs]; exact h3
/-! what a loop gathers -/
theorem laD_nil (l : List Evt) (day : Int) : laD (l.take 0) day = [] := rfl
theorem laD_yes {l : List Evt} {i : Nat} {day : Int} (hi : i < l.length) (h : l[i].day > day) : laD (l.take (i + 1)) day = laD (l.take i) day ++ [l[i]] := by
  rw [← take_succ_of hi, laD, List.filter_append]; simp [h, laD]
theorem laD_no {l : List Evt} {i : Nat} {day : Int} (hi : i < l.length) (h : ¬ l[i].day > day) : laD (l.take (i + 1)) day = laD (l.take i) day := by
  rw [← take_succ_of hi, laD, List.filter_append]; simp [h, laD]
theorem upD_yes {l : List Evt} {i : Nat} {day : Int} (hi : i < l.length) (h : ¬ l[i].day > day) : (upD (l.take (i + 1)) day).length = (upD (l.take i) day).length + 1 := by
  rw [← take_succ_of hi, upD, List.filter_append]; simp [h, upD]
theorem upD_no {l : List Evt} {i : Nat} {day : Int} (hi : i < l.length) (h : l[i].day > day) : (upD (l.take (i + 1)) day).length = (upD (l.take i) day).length := by
  rw [← take_succ_of hi, upD, List.filter_append]; simp [h, upD]
theorem laD_len (l : List Evt) (day : Int) (i : Nat) : (laD (l.take i) day).length ≤ i := Nat.le_trans (List.length_filter_le _ _) (List.length_take_le _ _)
theorem upD_len (l : List Evt) (day : Int) (i : Nat) : (upD (l.take i) day).length ≤ i := Nat.le_trans (List.length_filter_le _ _) (List.length_take_le _ _)
def eqD (l : List Evt) (day : Int) : List Evt := l.filter fun e => decide (e.day = day)
def neD (l : List Evt) (day : Int) : List Evt := l.filter fun e => !decide (e.day = day)
theorem eqD_yes {l : List Evt} {i : Nat} {day : Int} (hi : i < l.length) (h : l[i].day = day) : eqD (l.take (i + 1)) day = eqD (l.take i) day ++ [l[i]] := by
  rw [← take_succ_of hi, eqD, List.filter_append]; simp [h, eqD]
theorem eqD_no {l : List Evt} {i : Nat} {day : Int} (hi : i < l.length) (h : ¬ l[i].day = day) : eqD (l.take (i + 1)) day = eqD (l.take i) day := by
  rw [← take_succ_of hi, eqD, List.filter_append]; simp [h, eqD]
theorem neD_yes {l : List Evt} {i : Nat} {day : Int} (hi : i < l.length) (h : ¬ l[i].day = day) : neD (l.take (i + 1)) day = neD (l.take i) day ++ [l[i]] := by
  rw [← take_succ_of hi, neD, List.filter_append]; simp [h, neD]
theorem neD_no {l : List Evt} {i : Nat} {day : Int} (hi : i < l.length) (h : l[i].day = day) : neD (l.take (i + 1)) day = neD (l.take i) day := by
  rw [← take_succ_of hi, neD, List.filter_append]; simp [h, neD]
theorem eqD_len (l : List Evt) (day : Int) (i : Nat) : (eqD (l.take i) day).length ≤ i := Nat.le_trans (List.length_filter_le _ _) (List.length_take_le _ _)
theorem neD_len (l : List Evt) (day : Int) (i : Nat) : (neD (l.take i) day).length ≤ i := Nat.le_trans (List.length_filter_le _ _) (List.length_take_le _ _)
theorem evCh_snoc (l : List Evt) (e : Evt) : (evCh (l ++ [e])).flatten = (evCh l).flatten ++ e.cells := by
  simp [evCh, List.map_append]; rfl
theorem evCh_app (l m : List Evt) : (evCh (l ++ m)).flatten = (evCh l).flatten ++ (evCh m).flatten := by simp [evCh]
theorem go_sm {c : List Kind} : ∀ (l : List Evt) (s : List Part) (i : Int), SmF s → (∀ e ∈ l, SmE e) → SmF (runGo c s i l).1
  | [], _, _, h, _ => h
  | e :: r, s, i, h, he => by
    simp only [runGo]
    split
    · exact go_sm r _ _ (applyF_sm h (he e (by simp))) (fun x hx => he x (by simp [hx]))
    · exact SmF.nil
theorem run_sm {c : List Kind} {l : List Evt} (he : ∀ e ∈ l, SmE e) : SmF (runF c l).1 := by
  unfold runF
  split
  · exact SmF.nil
  · exact go_sm _ _ _ SmF.nil fun e h => he e (sortF_mem.1 h)
/-! both catalogs -/
theorem name_same (s : ByteArray) : nameOk s = nameRef s := by
  rw [Bool.eq_iff_iff]
  simp only [nameOk, nameRef, Bool.and_eq_true, Bool.not_eq_true', decide_eq_false_iff_not, decide_eq_true_eq, charsTo, wordsTo, List.all_eq_true, List.mem_range, nameChar, isWord, Bool.or_eq_true]
  have he : s = ⟨#[]⟩ ↔ s.size = 0 := by
    constructor
    · rintro rfl; rfl
    · intro h
      cases s with | mk d => congr 1; exact Array.eq_empty_of_size_eq_zero h
  constructor
  · rintro ⟨h1, h2, h3⟩
    have hp : 0 < s.size := by rcases Nat.eq_zero_or_pos s.size with h | h; · exact absurd (he.2 h) h2
                               · exact h
    refine ⟨fun i hi => ?_, ⟨by omega, h3⟩, ?_⟩
    · rcases h1 i hi with h | ⟨_, h | h⟩
      · exact .inl (.inl h)
      · exact .inl (.inr h)
      · exact .inr h
    · rcases h1 0 hp with h | ⟨h, _⟩
      · exact h
      · exact absurd rfl h
  · rintro ⟨h1, ⟨h2, h3⟩, h4⟩
    refine ⟨fun i hi => ?_, fun h => by have := he.1 h; omega, h3⟩
    by_cases h0 : i = 0
    · subst h0; exact .inl h4
    · rcases h1 i hi with (h | h) | h
      · exact .inl h
      · exact .inr ⟨h0, .inl h⟩
      · exact .inr ⟨h0, .inr h⟩
theorem hit_id (ks : List ByteArray) (n : ByteArray) : hit id ks n = decide (n ∈ ks) := by
  rw [hit_eq, Bool.eq_iff_iff, List.any_eq_true, decide_eq_true_eq]
  constructor
  · rintro ⟨x, hx, he⟩; obtain rfl : x = n := by simpa using he
    exact hx
  · intro h; exact ⟨n, h, by simp⟩
theorem hit_map {α : Type} (nm : α → ByteArray) (l : List α) (s : ByteArray) : hit nm l s = decide (s ∈ l.map nm) := by
  rw [hit_eq, Bool.eq_iff_iff, List.any_eq_true, decide_eq_true_eq, List.mem_map]
  constructor
  · rintro ⟨x, hx, he⟩; exact ⟨x, hx, by simpa using he⟩
  · rintro ⟨x, hx, he⟩; exact ⟨x, hx, by simp [he]⟩
theorem kindIn_same (pre : List Kind) (ks : List ByteArray) (n : ByteArray) : kindIn pre ks n = kindInR pre ks n := by
  unfold kindIn kindInR
  rw [hit_id]
  have h : hitV Kind.name (fun k => !k.vehicle) pre n = ((findK pre n).isSome && !((findK pre n).getD zKind).vehicle) := by
    unfold hitV findK
    cases pre.find? fun k => decide (k.name = n) <;> rfl
  rw [h]
  cases decide (n ∈ ks) <;> cases (findK pre n).isSome <;> cases ((findK pre n).getD zKind).vehicle <;> rfl
theorem slotFine_same (pre : List Kind) (sl : List Slot) (s : Slot) : slotFine pre sl s = slotFineR pre sl s := by
  unfold slotFine slotFineR slotR
  rw [hit_map, name_same, show kindIn pre = kindInR pre from funext fun ks => funext fun n => kindIn_same pre ks n]
  cases decide (s.name ∈ sl.map Slot.name) <;> cases nameRef s.name <;> cases decide (s.normal < 1) <;> cases decide ((s.kinds.length : Int) < s.normal) <;> cases allP (kindInR pre) s.kinds s.kinds.length <;> rfl
theorem kindFine_same (pre : List Kind) (k : Kind) : kindFine pre k = kindFineR pre k := by
  unfold kindFine kindFineR
  rw [name_same, show slotFine pre = slotFineR pre from funext fun sl => funext fun s => slotFine_same pre sl s]
  rfl
theorem valid_same (c : List Kind) : validC c = validR c := by
  unfold validC validR
  rw [show kindFine = kindFineR from funext fun pre => funext fun k => kindFine_same pre k, Bool.and_comm]
  congr 1
  rw [Bool.eq_iff_iff]
  simp
end Go.Sx

/- What the references of catalog, event, fleet and course compute, in plain Lean: the same as the program. -/
set_option linter.all false
namespace Go.Sx
open Go
theorem allP_and {α : Type} {f g : List α → α → Bool} (l : List α) (n : Nat) : allP (fun p x => f p x && g p x) l n = (allP f l n && allP g l n) := by
  rw [Bool.eq_iff_iff, Bool.and_eq_true]
  simp only [allP, List.all_eq_true, List.mem_range]
  constructor
  · intro h
    refine ⟨fun i hi => ?_, fun i hi => ?_⟩ <;>
    · have := h i hi
      revert this
      cases l[i]? with
      | none => simp
      | some x => intro h; simp_all
  · rintro ⟨h1, h2⟩ i hi
    have h3 := h1 i hi
    have h4 := h2 i hi
    revert h3 h4
    cases l[i]? with
    | none => simp
    | some x => intro h3 h4; simp_all
theorem row_one {h : Option Nat → Option Obj} {v : Value} {t : TypeId} {k n : Nat} {xs : List Value} (hr : IsRow h v t k n xs) : v.oneCell' = true := by
  obtain ⟨_, ⟨rfl, _⟩ | ⟨g, cap, cur, rfl, _⟩⟩ := hr <;> rfl
theorem row_all {v : Value} (h : v.oneCell' = true) : ([v] : List Value).all (·.oneCell') = true := by simp [h]
theorem sx_row1 {n : Sz} {E : Ent} {I : IMap} {L : LL} {H : List Res} {K : Act → World → Prop} {v : Value} {t k m : Nat} {xs : List Value} (h : v.oneCell' = true → SX n E I L (.row v t k m xs :: H) K) : SX n E I L (.row v t k m xs :: H) K :=
  sx_know (p := v.oneCell' = true) (fun w mm => row_one (mm.holds (.row v t k m xs) (List.mem_cons_self ..))) h
/-! events -/
def ivlR (i : Ivl) : Bool := (decide (0 ≤ i.low) && decide (i.low ≤ i.high)) && decide (i.high ≤ 1000000)
theorem ivlR_eq (i : Ivl) : ivlR i = ivlOk i := by
  unfold ivlR ivlOk; rw [Bool.eq_iff_iff]; simp
def useR (u : Use) : Bool := (ivlR u.km && ivlR u.cycles) && ivlR u.load
theorem useR_eq (u : Use) : useR u = useTo u 3 := by
  simp only [useR, useTo, ivlR_eq]
  simp [List.range_succ, useAt, Bool.and_assoc]
def baseR (e : Evt) : Evt := ⟨e.op, e.day, e.part, nil8, nil8, nil8, nil8, nil8, zUse⟩
def keepR (e : Evt) : Evt :=
  if e.op = 1 then { baseR e with kind := e.kind } else if e.op = 2 then { baseR e with into := e.into, slot := e.slot } else if e.op = 4 then { baseR e with use := e.use } else if e.op = 6 then { baseR e with key := e.key, value := e.value } else baseR e
def goodR (e : Evt) : Bool :=
  if e.op = 1 then nameRef e.kind else if e.op = 2 then (nameRef e.into && nameRef e.slot) && !decide (e.into = e.part) else if e.op = 4 then useR e.use else if e.op = 6 then (nameRef e.key && decide ((1 : Int) ≤ (e.value.size : Nat))) && decide (((e.value.size : Nat) : Int) ≤ 200) else true
def evBadR (e : Evt) : Bool := (((decide (e.op < 1) || decide (7 < e.op)) || decide (e.day < 0)) || decide (40000 < e.day)) || !nameRef e.part
def validER (e : Evt) : Bool := !evBadR e && (goodR e && decide (keepR e = e))
theorem size_nil {s : ByteArray} : s = nil8 ↔ s.size = 0 := by
  constructor
  · rintro rfl; rfl
  · intro h
    cases s with | mk d => congr 1; exact Array.eq_empty_of_size_eq_zero h
theorem lt_one (s : ByteArray) : decide (((s.size : Nat) : Int) < 1) = decide (s = nil8) := by
  rw [decide_eq_decide, size_nil]; omega
theorem one_le (s : ByteArray) : decide ((1 : Int) ≤ (s.size : Nat)) = !decide (s = nil8) := by
  rw [← decide_not, decide_eq_decide, size_nil]; omega
theorem le_not (a b : Int) : decide (a ≤ b) = !decide (b < a) := by
  rw [← decide_not, decide_eq_decide]; omega
theorem evBadR_eq (e : Evt) : evBadR e = evBad e := by
  unfold evBadR evBad
  rw [name_same]
  congr 3
  rw [Bool.eq_iff_iff, Bool.or_eq_true, decide_eq_true_eq, decide_eq_true_eq, decide_eq_true_eq, wordOf_empty]
  omega
theorem keep_rest (e : Evt) : decide (keepR e = e) = decide (restOf e = zEvt) := by
  rw [decide_eq_decide]
  unfold keepR restOf baseR zEvt
  obtain ⟨op, day, part, kind, into, slot, key, value, use⟩ := e
  by_cases h1 : op = 1
  · subst h1; simp [eq_comm]
  by_cases h2 : op = 2
  · subst h2; simp [eq_comm]
  by_cases h4 : op = 4
  · subst h4; simp [eq_comm]
  by_cases h6 : op = 6
  · subst h6; simp [eq_comm]
  · simp [h1, h2, h4, h6, eq_comm]
theorem good_op (e : Evt) : goodR e = (!opBad e && !((namesOf e).any fun s => !nameOk s)) := by
  unfold goodR opBad namesOf
  by_cases h1 : e.op = 1
  · simp [h1, name_same]
  by_cases h2 : e.op = 2
  · simp [h2, name_same, Bool.and_comm]
  by_cases h4 : e.op = 4
  · simp [h4, useR_eq]
  by_cases h6 : e.op = 6
  · rw [if_neg h1, if_neg h2, if_neg h4, if_pos h6, if_neg h2, if_pos h6, if_neg h1, if_neg h2, if_pos h6, one_le, le_not]
    simp only [List.any_cons, List.any_nil, name_same]
    cases nameRef e.key <;> cases decide (e.value = nil8) <;> cases decide ((200 : Int) < (e.value.size : Nat)) <;> rfl
  · simp [h1, h2, h4, h6]
theorem validER_eq (e : Evt) : validER e = validE e := by
  unfold validER validE
  rw [evBadR_eq, good_op, keep_rest]
  cases evBad e <;> cases opBad e <;> cases decide (restOf e = zEvt) <;> cases (namesOf e).any fun s => !nameOk s <;> rfl
/-! fleets -/
def notAfter {α : Type} (nm : α → ByteArray) (pre : List α) (x : α) : Bool := match pre.getLast? with | some y => !sLt (nm y) (nm x) | none => false
theorem notAfter_eq {α : Type} (nm : α → ByteArray) (pre : List α) (x : α) : notAfter nm pre x = !ordAt nm pre x := by
  unfold notAfter ordAt; cases pre.getLast? <;> simp
theorem notAfter_at {α : Type} {nm : α → ByteArray} {l : List α} {i : Nat} (h0 : 0 < i) (hi : i < l.length) : notAfter nm (l.take i) l[i] = !sLt (nm (l[i - 1]'(by omega))) (nm l[i]) := by
  have : (l.take i).getLast? = some (l[i - 1]'(by omega)) := by
    rw [List.getLast?_eq_getElem?, List.length_take, Nat.min_eq_left (by omega), List.getElem?_take, if_pos (by omega), List.getElem?_eq_getElem]
  simp only [notAfter, this]
theorem notAfter_zero {α : Type} {nm : α → ByteArray} {l : List α} {i : Nat} (h0 : ¬ 0 < i) (x : α) : notAfter nm (l.take i) x = false := by
  obtain rfl : i = 0 := by omega
  simp [notAfter]
def propR (pre : List Prp) (q : Prp) : Bool := !(((!nameRef q.key || decide (((q.value.size : Nat) : Int) < 1)) || decide ((200 : Int) < (q.value.size : Nat))) || notAfter Prp.key pre q)
theorem propR_eq (pre : List Prp) (q : Prp) : propR pre q = (propOk q && ordAt Prp.key pre q) := by
  unfold propR propOk
  rw [notAfter_eq, name_same]
  rw [lt_one, le_not]
  cases nameRef q.key <;> cases decide (q.value = nil8) <;> cases decide ((200 : Int) < (q.value.size : Nat)) <;> cases ordAt Prp.key pre q <;> rfl
def ownBadR (c : List Kind) (p : Part) : Bool := ((((!(findK c p.kind).isSome || !nameRef p.name) || decide (p.made < 0)) || decide (p.since < p.made)) || decide (40000 < p.since)) || decide ((60 : Int) < (p.props.length : Nat))
def ownR (c : List Kind) (p : Part) : Bool := !ownBadR c p && (allP propR p.props p.props.length && ((lifeOk p.life.km && lifeOk p.life.cycles) && lifeOk p.life.damage))
theorem ownR_eq (c : List Kind) (p : Part) : ownR c p = rightP c p := by
  unfold ownR rightP
  rw [show ownBadR c p = partBad c p by unfold ownBadR partBad; rw [name_same], show propR = (fun pre q => propOk q && ordAt Prp.key pre q) from funext fun pre => funext fun q => propR_eq pre q, allP_and]
  simp only [ordF]
  cases partBad c p <;> cases allP (fun _ q => propOk q) p.props p.props.length <;> cases allP (ordAt Prp.key) p.props p.props.length <;> simp
def clash (p x : Part) : Bool := decide (x.into = p.into) && decide (x.slot = p.slot)
def bad1R (c : List Kind) (pre : List Part) (p : Part) : Bool := (!ownR c p || notAfter Part.name pre p) || !(decide (p.into = nil8) == decide (p.slot = nil8))
def bad2R (c : List Kind) (st : List Part) (p : Part) : Bool := ((!(findP st p.into).isSome || p.scrapped) || ((findP st p.into).getD zPart).scrapped) || !takesF c ((findP st p.into).getD zPart).kind p.slot p.kind
def partR (c : List Kind) (st pre : List Part) (p : Part) : Bool := !bad1R c pre p && (decide (p.into = nil8) || (!bad2R c st p && !pre.any (clash p)))
def validSR (c : List Kind) (st : List Part) : Bool := !(!validR c || decide ((20000 : Int) < (st.length : Nat))) && allP (partR c st) st st.length
theorem hit_clash (p : Part) (h : ¬ p.into = nil8) (pre : List Part) : hit seatOf (seated pre) (seatOf p) = pre.any (clash p) := by
  rw [hit_eq, Bool.eq_iff_iff, List.any_eq_true, List.any_eq_true]
  constructor
  · rintro ⟨x, hx, he⟩
    rw [seated, List.mem_filter] at hx
    refine ⟨x, hx.1, ?_⟩
    simp only [seatOf, Prod.mk.injEq, decide_eq_true_eq] at he
    simp [clash, he.1, he.2]
  · rintro ⟨x, hx, he⟩
    simp only [clash, Bool.and_eq_true, decide_eq_true_eq] at he
    refine ⟨x, ?_, by simp [seatOf, he.1, he.2]⟩
    rw [seated, List.mem_filter]
    exact ⟨hx, by simp [he.1, h]⟩
theorem partR_eq (c : List Kind) (st pre : List Part) (p : Part) : partR c st pre p = (ordAt Part.name pre p && partFine c st pre p) := by
  unfold partR partFine bad1R bad1P
  rw [notAfter_eq, ownR_eq]
  by_cases h : p.into = nil8
  · simp only [h, decide_true]
    cases rightP c p <;> cases ordAt Part.name pre p <;> cases decide (p.slot = nil8) <;> rfl
  · simp only [bad2R, bad2P, hit_clash p h, decide_eq_false h]
    cases rightP c p <;> cases ordAt Part.name pre p <;> cases decide (p.slot = nil8) <;> cases (findP st p.into).isSome <;> cases p.scrapped <;> cases ((findP st p.into).getD zPart).scrapped <;> cases pre.any (clash p) <;> cases takesF c ((findP st p.into).getD zPart).kind p.slot p.kind <;> rfl
theorem validSR_eq (c : List Kind) (st : List Part) : validSR c st = validS c st := by
  unfold validSR validS bad0S
  rw [valid_same, show partR c st = (fun pre p => ordAt Part.name pre p && partFine c st pre p) from funext fun pre => funext fun p => partR_eq c st pre p, allP_and]
  simp only [ordF]
  cases validR c <;> cases decide ((20000 : Int) < (st.length : Nat)) <;> cases allP (ordAt Part.name) st st.length <;> rfl
/-! putting in -/
section
variable {α : Type} (nm : α → ByteArray) (x : α)
def wStep1 (s : List α × Bool) (y : α) : List α × Bool := if (!s.2 && !sLt (nm y) (nm x)) = true then (s.1 ++ [x], true) else s
def wStep (s : List α × Bool) (y : α) : List α × Bool := if nm y = nm x then wStep1 nm x s y else ((wStep1 nm x s y).1 ++ [y], (wStep1 nm x s y).2)
def wF (l : List α) : List α × Bool := l.foldl (wStep nm x) ([], false)
def withF (l : List α) : List α := if (wF nm x l).2 = true then (wF nm x l).1 else (wF nm x l).1 ++ [x]
variable {nm x}
theorem wF_succ {l : List α} {i : Nat} (hi : i < l.length) : wF nm x (l.take (i + 1)) = wStep nm x (wF nm x (l.take i)) l[i] := by
  rw [← take_succ_of hi, wF, List.foldl_append]; rfl
theorem wF_len (l : List α) : (wF nm x l).1.length ≤ l.length + if (wF nm x l).2 = true then 1 else 0 := by
  suffices ∀ (l : List α) (s : List α × Bool), (l.foldl (wStep nm x) s).1.length + (if s.2 = true then 1 else 0) ≤ s.1.length + l.length + if (l.foldl (wStep nm x) s).2 = true then 1 else 0 by
    have := this l ([], false)
    unfold wF
    simp only [Bool.false_eq_true, if_false, List.length_nil, Nat.zero_add, Nat.add_zero] at this
    exact this
  intro l
  induction l with
  | nil => intro s; rw [List.foldl_nil, List.length_nil]; omega
  | cons y r ih =>
    intro s
    have h := ih (wStep nm x s y)
    rw [List.foldl_cons]
    obtain ⟨s1, s2⟩ := s
    have h2 : (wStep nm x (s1, s2) y).1.length + (if s2 = true then 1 else 0) ≤ s1.length + 1 + (if (wStep nm x (s1, s2) y).2 = true then 1 else 0) := by
      unfold wStep wStep1
      by_cases he : nm y = nm x
      · cases s2 <;> cases sLt (nm y) (nm x) <;> simp [he]
      · cases s2 <;> cases sLt (nm y) (nm x) <;> simp [he]
    simp only [List.length_cons]
    show _ + (if s2 = true then 1 else 0) ≤ s1.length + _ + _
    omega
theorem w_done {b : List α} (p : List α) (h : ∀ y ∈ b, nm y ≠ nm x) : b.foldl (wStep nm x) (p, true) = (p ++ b, true) := by
  induction b generalizing p with
  | nil => simp
  | cons y r ih =>
    rw [List.foldl_cons]
    have : wStep nm x (p, true) y = (p ++ [y], true) := by simp [wStep, wStep1, h y (by simp)]
    rw [this, ih _ (fun z hz => h z (by simp [hz]))]
    simp
theorem w_lo {p a : List α} (h : ∀ y ∈ a, sLt (nm y) (nm x) = true) : a.foldl (wStep nm x) (p, false) = (p ++ a, false) := by
  induction a generalizing p with
  | nil => simp
  | cons y r ih =>
    rw [List.foldl_cons]
    have h1 := h y (by simp)
    have hn : nm y ≠ nm x := by intro e; rw [e, sLt_irrefl] at h1; cases h1
    have : wStep nm x (p, false) y = (p ++ [y], false) := by simp [wStep, wStep1, h1, hn]
    rw [this, ih (fun z hz => h z (by simp [hz]))]
    simp
theorem with_put {l : List α} (h : Inc nm l) : withF nm x l = putL nm l x := by
  rcases cut_of l (nm x) h with ⟨a, b, rfl, hc⟩ | ⟨a, y, b, rfl, hy, hc⟩
  · rw [put_cut hc]
    have h1 : wF nm x (a ++ b) = if b = [] then (a, false) else (a ++ x :: b, true) := by
      rw [wF, List.foldl_append, w_lo hc.lo]
      cases b with
      | nil => simp
      | cons y r =>
        have h2 := hc.hi y (by simp)
        have hn : nm y ≠ nm x := cut_ne hc (.inr (by simp))
        rw [List.foldl_cons]
        have : wStep nm x ([] ++ a, false) y = (a ++ [x] ++ [y], true) := by simp [wStep, wStep1, sLt_asymm h2, hn]
        rw [this, w_done (nm := nm) (x := x) (b := r) _ (fun z hz => cut_ne hc (.inr (by simp [hz])))]
        simp
    unfold withF
    rw [h1]
    by_cases hb : b = []
    · subst hb; simp
    · simp [hb]
  · rw [put_cut1 hc hy]
    have h1 : wF nm x (a ++ y :: b) = (a ++ x :: b, true) := by
      rw [wF, List.foldl_append, w_lo hc.lo, List.foldl_cons]
      have : wStep nm x ([] ++ a, false) y = (a ++ [x], true) := by simp [wStep, wStep1, hy, sLt_irrefl]
      rw [this, w_done (nm := nm) (x := x) (b := b) _ (fun z hz => cut_ne hc (.inr hz))]
      simp
    unfold withF
    rw [h1]; simp
end
theorem seat_end {l : List Part} {p : Part} {m i : Nat} (hq : ∀ j x, j < m → l[j]? = some x → clash p x = false) (hi : i ≤ m) : (l.take i).any (clash p) = false := by
  rw [List.any_eq_false]
  intro x hx
  obtain ⟨j, hj, rfl⟩ := List.getElem_of_mem hx
  rw [List.length_take] at hj
  rw [List.getElem_take]
  simpa using hq j _ (by omega) (List.getElem?_eq_getElem (by omega))
theorem seat_hit {l : List Part} {p : Part} {m i : Nat} (hm : m < i) (hl : m < l.length) (h : clash p l[m] = true) : (l.take i).any (clash p) = true := by
  rw [List.any_eq_true]
  exact ⟨l[m], List.mem_iff_getElem.2 ⟨m, by rw [List.length_take]; omega, List.getElem_take⟩, h⟩
section
variable {α : Type} {nm : α → ByteArray} {x : α} {l : List α} {i : Nat} {out : List α} {b : Bool}
theorem wF_tt (hi : i < l.length) (hw : wF nm x (l.take i) = (out, b)) (h1 : (!b) = true) (h2 : (!sLt (nm l[i]) (nm x)) = true) (h3 : (!decide (nm l[i] = nm x)) = true) : wF nm x (l.take (i + 1)) = (out ++ [x] ++ [l[i]], true) := by
  have h4 : ¬ nm l[i] = nm x := by simpa using h3
  rw [wF_succ hi, hw, wStep, if_neg h4]; simp only [wStep1, h1, h2, Bool.and_self, if_true]
theorem wF_tf (hi : i < l.length) (hw : wF nm x (l.take i) = (out, b)) (h1 : (!b) = true) (h2 : (!sLt (nm l[i]) (nm x)) = true) (h3 : (!decide (nm l[i] = nm x)) = false) : wF nm x (l.take (i + 1)) = (out ++ [x], true) := by
  have h4 : nm l[i] = nm x := by simpa using h3
  rw [wF_succ hi, hw, wStep, if_pos h4]; simp only [wStep1, h1, h2, Bool.and_self, if_true]
theorem wF_ft (hi : i < l.length) (hw : wF nm x (l.take i) = (out, b)) (h1 : (!b && !sLt (nm l[i]) (nm x)) = false) (h3 : (!decide (nm l[i] = nm x)) = true) : wF nm x (l.take (i + 1)) = (out ++ [l[i]], b) := by
  have h4 : ¬ nm l[i] = nm x := by simpa using h3
  rw [wF_succ hi, hw, wStep, if_neg h4]; simp only [wStep1, h1, Bool.false_eq_true, if_false]
theorem wF_ff (hi : i < l.length) (hw : wF nm x (l.take i) = (out, b)) (h1 : (!b && !sLt (nm l[i]) (nm x)) = false) (h3 : (!decide (nm l[i] = nm x)) = false) : wF nm x (l.take (i + 1)) = (out, b) := by
  have h4 : nm l[i] = nm x := by simpa using h3
  rw [wF_succ hi, hw, wStep, if_pos h4]; simp only [wStep1, h1, Bool.false_eq_true, if_false]
theorem w_le (hw : wF nm x (l.take i) = (out, b)) : out.length ≤ i + 1 := by
  have h := wF_len (nm := nm) (x := x) (l.take i)
  rw [hw, List.length_take] at h
  dsimp only at h; split at h <;> omega
theorem with_t (hw : wF nm x l = (out, b)) (h : (!b) = true) : withF nm x l = out ++ [x] := by
  have : b = false := by simpa using h
  simp [withF, hw, this]
theorem with_f (hw : wF nm x l = (out, b)) (h : (!b) = false) : withF nm x l = out := by
  have : b = true := by simpa using h
  simp [withF, hw, this]
theorem any_none {p : α → Bool} (h : ∀ j x, j < l.length → l[j]? = some x → p x = false) : l.any p = false := by
  rw [List.any_eq_false]
  intro y hy
  obtain ⟨j, hj, rfl⟩ := List.getElem_of_mem hy
  simpa using h j _ hj (List.getElem?_eq_getElem hj)
theorem filter_yes {f : α → Bool} (hi : i < l.length) (h : f l[i] = true) : (l.take (i + 1)).filter f = (l.take i).filter f ++ [l[i]] := by
  rw [← take_succ_of hi, List.filter_append]; simp [h]
theorem filter_no {f : α → Bool} (hi : i < l.length) (h : f l[i] = false) : (l.take (i + 1)).filter f = (l.take i).filter f := by
  rw [← take_succ_of hi, List.filter_append]; simp [h]
end
def otherN (e : Evt) : ByteArray := if e.op = 2 then e.into else e.part
theorem otherO_eq (st : List Part) (e : Evt) : otherO st e = findP st (otherN e) := by unfold otherO otherN; split <;> rfl
def heldF (st : List Part) (into slot : ByteArray) : Bool := st.any fun x => decide (x.into = into) && (decide (slot = nil8) || decide (x.slot = slot))
theorem held_any (st : List Part) (s : ByteArray) : heldF st s nil8 = holdsAny st s := by simp [heldF, holdsAny]
theorem held_seat (st : List Part) (e : Evt) (h : e.slot ≠ nil8) : heldF st e.into e.slot = seatTaken st e := by simp [heldF, seatTaken, h]
theorem fit_slot {e : Evt} (h : validE e = true) (h2 : e.op = 2) : e.slot ≠ nil8 := by
  intro he
  simp [validE, namesOf, h2, he] at h
  have : nameOk nil8 = false := by decide
  rw [this] at h; simp at h
theorem find_idx {st : List Part} {s : ByteArray} : decide (0 ≤ idxF (fun p : Part => decide (p.name = s)) st) = (findP st s).isSome := by
  rw [idxF_any, findP, Bool.eq_iff_iff, List.any_eq_true, List.find?_isSome]
/-! the course -/
theorem run_step {c : List Kind} {st : List Part} {l : List Evt} {i : Nat} (hi : i < l.length) {z : Int} : runGo c st z (l.drop i) = if (applyF c st l[i]).2 = 0 then runGo c (applyF c st l[i]).1 (z + 1) (l.drop (i + 1)) else ([], z, (applyF c st l[i]).2) := by
  rw [List.drop_eq_getElem_cons hi]; rfl
theorem ins_right {α : Type} [Day α] {l : List α} {e : α} {k : Nat} (hk : k ≤ (sortF l).length) (h1 : ∀ j y, k ≤ j → (sortF l)[j]? = some y → Day.day y > Day.day e)
    (h2 : k = 0 ∨ ∃ y, (sortF l)[k - 1]? = some y ∧ Day.day y ≤ Day.day e) : (sortF l).take k ++ e :: (sortF l).drop k = sortF (l ++ [e]) := by
  have hs := sortF_srt l
  have hd : ∀ y ∈ (sortF l).drop k, Day.day e < Day.day y := by
    intro y hy
    obtain ⟨j, hj, rfl⟩ := List.getElem_of_mem hy
    rw [List.getElem_drop]
    exact h1 (k + j) _ (by omega) (List.getElem?_eq_getElem _)
  have ht : ∀ y ∈ (sortF l).take k, Day.day y ≤ Day.day e := by
    intro y hy
    rcases h2 with rfl | ⟨z, hz, hze⟩
    · simp at hy
    · obtain ⟨j, hj, rfl⟩ := List.getElem_of_mem hy
      rw [List.length_take] at hj
      rw [List.getElem_take]
      obtain ⟨hk1, rfl⟩ := List.getElem?_eq_some_iff.1 hz
      rw [Srtd, List.pairwise_iff_getElem] at hs
      rcases Nat.lt_or_ge j (k - 1) with hlt | hge
      · exact Int.le_trans (hs j (k - 1) (by omega) hk1 hlt) hze
      · obtain rfl : j = k - 1 := by omega
        exact hze
  refine stb_one _ _ ?_ (sortF_srt _) fun d => ?_
  · unfold Srtd at hs ⊢
    rw [← List.take_append_drop k (sortF l), List.pairwise_append] at hs
    rw [List.pairwise_append, List.pairwise_cons]
    refine ⟨hs.1, ⟨fun y hy => Int.le_of_lt (hd y hy), hs.2.1⟩, fun y hy z hz => ?_⟩
    rcases List.mem_cons.1 hz with rfl | hz
    · exact ht y hy
    · exact Int.le_trans (ht y hy) (Int.le_of_lt (hd z hz))
  · rw [sortF_filter, List.filter_append, List.filter_append, ← sortF_filter d l, List.filter_cons]
    conv => rhs; rw [← List.take_append_drop k (sortF l), List.filter_append]
    by_cases he : Day.day e = d
    · have : ((sortF l).drop k).filter (fun e => decide (Day.day e = d)) = [] := by
        rw [List.filter_eq_nil_iff]
        intro y hy
        have := hd y hy
        simp; omega
      rw [this]; simp [he]
    · simp [he]
end Go.Sx

/- Reports and choices: what they are in Lean, how they lie in memory. -/
set_option linter.all false
namespace Go.Sx
open Go
structure Rep where
  options : List Evt
  doubtful : Bool
  deriving DecidableEq
def Rep.cells (r : Rep) (s : Value) : List Value := [s, .bool r.doubtful]
instance : Enc Rep where
  k := 2
  rd I vs x := ∃ s, vs = x.cells s ∧ RdS I s x.options
  len h := by obtain ⟨ks, rfl, _⟩ := h; rfl
  mono hI h := by obtain ⟨ks, rfl, h⟩ := h; exact ⟨ks, rfl, h.le hI⟩
  one h := by obtain ⟨ks, rfl, h⟩ := h; obtain ⟨A, c, rfl, _⟩ := h; rfl
instance : Enc UInt8 where
  k := 1
  rd _ vs x := vs = [.int .u8 x.toNat]
  len h := by rw [h]; rfl
  mono _ h := h
  one h := by rw [h]; rfl
/-- an event that is picked, and the report that picks it -/
structure Pkd where
  e : Evt
  rep : Int
  lo : 0 ≤ e.day
  hi : e.day ≤ 40000
def Pkd.cells (p : Pkd) : List Value := p.e.cells ++ [ci p.rep]
instance : Enc Pkd where
  k := 15
  rd _ vs x := vs = x.cells
  len h := by rw [h]; rfl
  mono _ h := h
  one h := by rw [h]; rfl
instance : Day Pkd := ⟨fun p => p.e.day, Pkd.cells, 15, fun _ => rfl⟩
/-! reports -/
def optFine (pre : List Evt) (e : Evt) : Bool := !(hit id pre e || !validE e)
def validRep (r : Rep) : Bool := !(decide (((r.options.length : Nat) : Int) = 0) || decide ((4 : Int) < (r.options.length : Nat))) && allP optFine r.options r.options.length
def chs (r : Rep) : Int := if validRep r = false then 0 else if r.doubtful = true then ((r.options.length : Nat) : Int) + 1 else ((r.options.length : Nat) : Int)
theorem validRep_e {r : Rep} (h : validRep r = true) : ∀ e ∈ r.options, validE e = true := by
  intro e he
  simp only [validRep, Bool.and_eq_true] at h
  obtain ⟨pre, h1⟩ := allP_mem h.2 he
  simp only [optFine, Bool.not_eq_true', Bool.or_eq_false_iff, Bool.not_eq_false'] at h1
  exact h1.2
theorem validE_day {e : Evt} (h : validE e = true) : 0 ≤ e.day ∧ e.day ≤ 40000 := by
  simp only [validE, Bool.and_eq_true, Bool.not_eq_true'] at h
  have h1 := h.1.1.1
  simp only [evBad, Bool.or_eq_false_iff, decide_eq_false_iff_not] at h1
  omega
/-! numbers for reports -/
/-- of what is at an index of both lists -/
def at2 {β : Type} (f : Rep → Int → β) (l : List Rep) (ch : List Int) (i : Nat) : Option β := match l[i]?, ch[i]? with | some r, some k => some (f r k) | _, _ => none
theorem at2_eq {β : Type} {f : Rep → Int → β} {l : List Rep} {ch : List Int} {i : Nat} (h1 : i < l.length) (h2 : i < ch.length) : at2 f l ch i = some (f l[i] ch[i]) := by
  simp [at2, h1, h2]
def allTo (f : Rep → Int → Bool) (l : List Rep) (ch : List Int) (n : Nat) : Bool := (List.range n).all fun i => (at2 f l ch i).getD true
theorem allTo_succ {f : Rep → Int → Bool} {l : List Rep} {ch : List Int} {i : Nat} (h : allTo f l ch i = true) (h1 : i < l.length) (h2 : i < ch.length) (hf : f l[i] ch[i] = true) : allTo f l ch (i + 1) = true :=
  all_succ h (by simp [at2_eq h1 h2, hf])
theorem allTo_not {f : Rep → Int → Bool} {l : List Rep} {ch : List Int} {i n : Nat} (hn : i < n) (h1 : i < l.length) (h2 : i < ch.length) (hf : f l[i] ch[i] = false) : allTo f l ch n = false :=
  all_not (p := fun i => (at2 f l ch i).getD true) hn (by simp [at2_eq h1 h2, hf])
theorem allTo_at {f : Rep → Int → Bool} {l : List Rep} {ch : List Int} {n i : Nat} (h : allTo f l ch n = true) (hi : i < n) (h1 : i < l.length) (h2 : i < ch.length) : f l[i] ch[i] = true := by
  rw [allTo, List.all_eq_true] at h
  have := h i (List.mem_range.2 hi)
  simpa [at2_eq h1 h2] using this
def chFine (least : Int) (r : Rep) (k : Int) : Bool := !((decide (chs r = 0) || decide (k < least)) || decide (chs r ≤ k))
def givenF (c : List Kind) (l : List Rep) (ch : List Int) (least : Int) : Bool := !(!validC c || !decide (((ch.length : Nat) : Int) = (l.length : Nat))) && allTo (chFine least) l ch l.length
/-- the option that a number picks, if it is before a day -/
def optAt (day : Int) (r : Rep) (k : Int) : Option Evt := if 0 ≤ k then (match r.options[k.toNat]? with | some e => if e.day < day then some e else none | none => none) else none
def pkd (day : Int) (l : List Rep) (ch : List Int) (i : Nat) : Option Pkd := match (at2 (optAt day) l ch i).join with
  | some e => if h : 0 ≤ e.day ∧ e.day ≤ 40000 then some ⟨e, i, h.1, h.2⟩ else none
  | none => none
def pickF (day : Int) (l : List Rep) (ch : List Int) (n : Nat) : List Pkd := (List.range n).filterMap (pkd day l ch)
theorem pick_succ (day : Int) (l : List Rep) (ch : List Int) (i : Nat) : pickF day l ch (i + 1) = pickF day l ch i ++ (pkd day l ch i).toList := by
  rw [pickF, List.range_succ, List.filterMap_append, pickF]
  congr 1
/-- the course of what is picked -/
def followGo (c : List Kind) : List Part → List Pkd → Int × Int
  | _, [] => (-1, 0)
  | st, p :: r => if (applyF c st p.e).2 = 0 then followGo c (applyF c st p.e).1 r else (p.rep, (applyF c st p.e).2)
def followF (c : List Kind) (l : List Rep) (ch : List Int) (day : Int) : Int × Int := followGo c [] (sortF (pickF day l ch l.length))
def failsF (c : List Kind) (l : List Rep) (ch : List Int) : Int × Int := if givenF c l ch 0 = false then (-1, 1) else followF c l ch 40001
def isF (c : List Kind) (l : List Rep) (ch : List Int) : Bool := decide ((failsF c l ch).2 = 0)
/-- the days of what is open -/
def openDays (l : List Rep) (ch : List Int) (n : Nat) : List Int := (List.range n).flatMap fun i => (at2 (fun r k => if k < 0 then r.options.map Evt.day else []) l ch i).getD []
def leastF (l : List Int) : Int := l.foldl (fun a d => if d < a then d else a) 40001
def falseF (c : List Kind) (l : List Rep) (ch : List Int) : Bool := if givenF c l ch (-1) = false then false else !decide ((followF c l ch (leastF (openDays l ch l.length))).2 = 0)
end Go.Sx

/- Histories: what the course of picked events does. -/
set_option linter.all false
namespace Go.Sx
open Go
section
variable {α β : Type} [Day α] [Day β]
theorem insD_map (f : α → β) (hf : ∀ x, Day.day (f x) = Day.day x) (e : α) : ∀ l : List α, (insD e l).map f = insD (f e) (l.map f)
  | [] => rfl
  | x :: r => by
    simp only [insD, List.map_cons, hf]
    split
    · rfl
    · rw [List.map_cons, insD_map f hf e r]
theorem sortF_map (f : α → β) (hf : ∀ x, Day.day (f x) = Day.day x) : ∀ l : List α, (sortF l).map f = sortF (l.map f)
  | [] => rfl
  | x :: r => by
    show (insD x (sortF r)).map f = insD (f x) (sortF (r.map f))
    rw [insD_map f hf, sortF_map f hf r]
theorem insD_first {e : α} {l : List α} (h : ∀ x ∈ l, Day.day e ≤ Day.day x) : insD e l = e :: l := by
  cases l with
  | nil => rfl
  | cons x r => simp only [insD]; rw [if_pos (h x (by simp))]
theorem insD_filt (p : α → Bool) (e : α) : ∀ {l : List α}, Srtd l → (insD e l).filter p = if p e = true then insD e (l.filter p) else l.filter p
  | [], _ => by by_cases h : p e = true <;> simp [insD, h]
  | x :: r, hs => by
    have hs' := List.pairwise_cons.1 hs
    simp only [insD]
    by_cases hd : Day.day e ≤ Day.day x
    · rw [if_pos hd, List.filter_cons]
      by_cases h : p e = true
      · rw [if_pos h, if_pos h, insD_first]
        intro y hy
        rcases List.mem_cons.1 (List.mem_filter.1 hy).1 with rfl | hy
        · exact hd
        · exact Int.le_trans hd (hs'.1 y hy)
      · rw [if_neg h, if_neg h]
    · rw [if_neg hd, List.filter_cons, insD_filt p e hs'.2, List.filter_cons]
      by_cases h : p e = true
      · rw [if_pos h, if_pos h]
        by_cases hx : p x = true
        · rw [if_pos hx, if_pos hx]; simp only [insD]; rw [if_neg hd]
        · rw [if_neg hx, if_neg hx]
      · rw [if_neg h, if_neg h]
theorem sortF_filt (p : α → Bool) : ∀ l : List α, (sortF l).filter p = sortF (l.filter p)
  | [] => rfl
  | x :: r => by
    show (insD x (sortF r)).filter p = _
    rw [insD_filt p x (sortF_srt r), sortF_filt p r, List.filter_cons]
    split <;> rfl
end
/-- the state that events lead to, if they are possible -/
def runsTo (c : List Kind) : List Part → List Evt → Option (List Part)
  | st, [] => some st
  | st, e :: r => if (applyF c st e).2 = 0 then runsTo c (applyF c st e).1 r else none
theorem runs_app (c : List Kind) : ∀ (a b : List Evt) (st : List Part), runsTo c st (a ++ b) = (runsTo c st a).bind fun s => runsTo c s b
  | [], _, _ => rfl
  | e :: r, b, st => by
    simp only [List.cons_append, runsTo]
    split
    · exact runs_app c r b _
    · rfl
theorem runs_go (c : List Kind) : ∀ (l : List Evt) (st : List Part) (z : Int), (runsTo c st l).isSome = decide ((runGo c st z l).2.2 = 0)
  | [], _, _ => rfl
  | e :: r, st, z => by
    simp only [runsTo, runGo]
    split
    · exact runs_go c r _ _
    · rename_i h; simp [h]
theorem follow_ok (c : List Kind) : ∀ (l : List Pkd) (st : List Part), decide ((followGo c st l).2 = 0) = (runsTo c st (l.map Pkd.e)).isSome
  | [], _ => rfl
  | p :: r, st => by
    simp only [List.map_cons, runsTo, followGo]
    split
    · exact follow_ok c r _
    · rename_i h; simp [h]
theorem follow_app (c : List Kind) : ∀ (a b : List Pkd) (st : List Part), followGo c st (a ++ b) = match runsTo c st (a.map Pkd.e) with | some s => followGo c s b | none => followGo c st a
  | [], _, _ => rfl
  | p :: r, b, st => by
    simp only [List.cons_append, List.map_cons, runsTo, followGo]
    split
    · rw [follow_app c r b]
    · rfl
/-- where it fails -/
theorem follow_at (c : List Kind) : ∀ (l : List Pkd) (st : List Part), (followGo c st l).2 ≠ 0 → ∃ a p b s, l = a ++ p :: b ∧ runsTo c st (a.map Pkd.e) = some s ∧ (applyF c s p.e).2 ≠ 0 ∧ followGo c st l = (p.rep, (applyF c s p.e).2)
  | [], _, h => absurd rfl h
  | p :: r, st, h => by
    simp only [followGo] at h ⊢
    split at h
    · rename_i h0
      obtain ⟨a, q, b, s, rfl, h1, h2, h3⟩ := follow_at c r _ h
      exact ⟨p :: a, q, b, s, rfl, by simp only [List.map_cons, runsTo, if_pos h0]; exact h1, h2, by rw [if_pos h0]; exact h3⟩
    · rename_i h0
      exact ⟨[], p, r, st, rfl, rfl, h0, by rw [if_neg h0]⟩
end Go.Sx

/- Sorting what is picked; a callee that changes one thing and leaves memory behind. -/
set_option linter.all false
namespace Go.Sx
open Go
/-- what lies behind the elements in a block -/
structure Rst (k : Nat) where
  l : List (List Value)
  uk : Uk k l
theorem evCh_ukP (l : List Pkd) : Uk 15 (evCh l) := evCh_uk l
theorem evCh_flatP {I : IMap} (l : List Pkd) : FlatC I (evCh l) l := by
  induction l with
  | nil => exact .nil
  | cons e l ih => exact .cons rfl ih
theorem evCh_restP {l : List Pkd} {rest : List (List Value)} {i : Nat} (h : i < l.length) : (evCh l ++ rest)[i]? = some (Day.ch l[i]) := by
  rw [List.getElem?_append_left (by rw [evCh_len]; exact h)]; exact evCh_at h
section
variable {α : Type} [Day α]
theorem evCh_setR (l : List α) (rest : List (List Value)) (i : Nat) (h : i < l.length) (e : α) : (evCh l ++ rest).set i (Day.ch e) = evCh (l.set i e) ++ rest := by
  rw [List.set_append_left _ _ (by rw [evCh_len]; exact h), evCh_set]
theorem evCh_swpR {l : List α} {rest : List (List Value)} {i j : Nat} (hi : i < l.length) (hj : j < l.length) : ((evCh l ++ rest).set i (Day.ch l[j])).set j (Day.ch l[i]) = evCh (swp l i j) ++ rest := by
  rw [evCh_setR _ _ _ hi, evCh_setR _ _ _ (by rw [List.length_set]; exact hj), swp_eq hi hj]
theorem evCh_swpR' {l : List α} {rest : List (List Value)} {i j : Nat} (hi : i < l.length) (hj : j < l.length) (hij : i ≠ j) : ((evCh l ++ rest).set j (Day.ch l[i])).set i (Day.ch l[j]) = evCh (swp l i j) ++ rest := by
  rw [evCh_setR _ _ _ hj, evCh_setR _ _ _ (by rw [List.length_set]; exact hi), swp_eq hi hj, List.set_comm _ _ hij.symm]
end
theorem evCh_ofP {I : IMap} {xss : List (List Value)} {l : List Pkd} (h : FlatC I xss l) : xss = evCh l := by
  induction h with
  | nil => rfl
  | cons h1 _ ih => rw [ih]; simp only [evCh, List.map_cons]; rw [show _ = _ from h1]; rfl
theorem subI_neg {a b : Int} : a - b < 0 ↔ a < b := by omega
theorem day_ltP {l : List Pkd} {i j : Nat} {hi : i < l.length} {hj : j < l.length} (h : Day.day l[i] - Day.day l[j] < 0) : dayAt l i < dayAt l j := by
  rw [subI_neg] at h; rw [dayAt_eq hi, dayAt_eq hj]; exact h
theorem day_geP {l : List Pkd} {i j : Nat} {hi : i < l.length} {hj : j < l.length} (h : ¬ Day.day l[i] - Day.day l[j] < 0) : dayAt l j ≤ dayAt l i := by
  rw [subI_neg] at h; rw [dayAt_eq hi, dayAt_eq hj]; omega
section
variable {P : Program} {ρ : Option Nat} {n : Sz} {E : Ent} {I I' : IMap} {L : LL} {H : List Res} {Q : Exit → Act → World → Prop} {ops : Array Oper} {K : Act → World → Prop} {w0 : World}
variable {d ty : Nat} {pos : String} {af : Array Edge} {fo : Operand} {as : List Operand} {ats : Array TypeId} {f : FuncId} {args : List Value} {r r' : Res} {X : List Nat}
/-- a contract: one thing of the caller's own is changed, and there is new memory -/
def FnG (P : Program) (f : FuncId) (args : Array Value) (I : IMap) (r : Res) (p : Value → IMap → Res → Prop) : Prop := FnH P f args I [r] fun u I' H' => ∃ r', H' = [r'] ∧ p u I' r'
theorem o_callG {p : Value → IMap → Res → Prop} (hc : FnG P f args.toArray I r p) (h : callArgs L fo as = some (f, args)) (hd : Nat.blt d n.sz = true) (k : ∀ v I' r', ILe I I' → p v I' r' → SX n E I' ((d, v) :: L) (r' :: H) K) :
    SX n E I L (r :: H) (one P ops Q ⟨some d, .call { callee := .value fo, args := as.toArray, argTypes := ats }, ty, pos, af, none⟩ K) :=
  o_callH (Hc := [r]) (H0 := H) hc h hd fun u I' H' hI hp => by obtain ⟨r', rfl, h1⟩ := hp; exact k u I' r' hI h1
theorem q_g {v : Value} {p : Value → IMap → Res → Prop} (h : p v I r) : SX n E I L [r] fun _ w => Post E (fun u' I' H' => ∃ r', H' = [r'] ∧ p u' I' r') (.returned v) w := q_post (fun _ m => m) ⟨r, rfl, h⟩
theorem FnX.of_V {args : Array Value} {v : Value} {t k : Nat} (h : FnV P f args I v) : FnX P f args I [] (fun u r => u = v ∧ r = .row (.slice none 0 0) t k 0 []) :=
  ⟨fun w m => (h.go w m).mono fun _ _ ⟨u, I', H', he, hm, hq⟩ => by
    obtain ⟨rfl, rfl, rfl⟩ := hq
    exact ⟨_, _, _, he, hm.nilrow t k, rfl, _, rfl, rfl, rfl⟩⟩
theorem FnX.back {args : Array Value} {g e k m cap : Nat} {xss yss rest : List (List Value)} {p : Value → Res → Prop} (hU : Uk k yss) (hR : Uk k rest) (hm : yss.length = m) (hc : m + rest.length = cap) (hl : cap ≤ maxLen)
    (h : FnX P f args I [.blk g e (xss ++ rest).flatten] (fun u r => p u (.row (.slice (some ⟨g, 0, none⟩) m cap) e k m yss.flatten) ∧ r = .blk g e (yss ++ rest).flatten)) : FnX P f args I [.blk g e (xss ++ rest).flatten] p :=
  ⟨fun w m' => (h.go w m').mono fun _ w' ⟨u, I', H', he, hm', hq⟩ => by
    obtain ⟨rfl, r', rfl, hp, rfl⟩ := hq
    refine ⟨_, _, _, he, ?_, rfl, _, rfl, hp⟩
    have hb : w'.heap[g]? = some (.cells (yss ++ rest).flatten.toArray e (0, 0)) := hm'.blk
    exact hm'.step rfl rfl rfl (Nat.le_refl _) (fun _ _ _ => rfl) (IsRow.shut hb hU hR hm hc hl) (fun g' hg' => .inl hg')⟩
theorem FnX.of_rowV {args : Value → List Value} {p : Value → Res → Prop} {v : Value} {e k m : Nat} {xss : List (List Value)} (hU : Uk k xss) (hm : xss.length = m)
    (h0 : m = 0 → v = .slice none 0 0 → FnX P f (args (.slice none 0 0)).toArray I [] p)
    (h1 : ∀ g cap rest, v = .slice (some ⟨g, 0, none⟩) m cap → Uk k rest → m + rest.length = cap → cap ≤ maxLen → FnX P f (args (.slice (some ⟨g, 0, none⟩) m cap)).toArray I [.blk g e (xss ++ rest).flatten] p) : FnX P f (args v).toArray I [.row v e k m xss.flatten] p := by
  refine ⟨fun w mm => ?_⟩
  have hr : IsRow (look' w) v e k m xss.flatten := mm.holds (.row v e k m xss.flatten) (List.mem_cons_self ..)
  rcases hr.open_ hU hm with ⟨h2, h3⟩ | ⟨g, cap, rest, h2, h3, h4, h5, h6⟩
  · subst h3
    exact (h0 h2 rfl).go w mm.drop
  · subst h2
    exact (h1 g cap rest rfl h3 h4 h5).go w (mm.step rfl rfl rfl (Nat.le_refl _) (fun _ _ _ => rfl) h6 (fun g' hg' => .inl hg'))
end
/-! picking -/
theorem pick_len (day : Int) (l : List Rep) (ch : List Int) (i : Nat) : (pickF day l ch i).length ≤ i := by
  unfold pickF
  exact Nat.le_trans (List.length_filterMap_le _ _) (by simp)
section
variable {day : Int} {l : List Rep} {ch : List Int} {i : Nat} {out : List Pkd}
theorem pk_no (h1 : i < l.length) (h2 : i < ch.length) (hw : pickF day l ch i = out) (h : optAt day l[i] ch[i] = none) : pickF day l ch (i + 1) = out := by
  rw [pick_succ, hw, pkd, at2_eq h1 h2, h]; simp
theorem pk_neg (h1 : i < l.length) (h2 : i < ch.length) (hw : pickF day l ch i = out) (h : ¬ 0 ≤ ch[i]) : pickF day l ch (i + 1) = out := pk_no h1 h2 hw (if_neg h)
theorem pk_big (h1 : i < l.length) (h2 : i < ch.length) (hw : pickF day l ch i = out) (h : ¬ ch[i] < (l[i].options.length : Nat)) : pickF day l ch (i + 1) = out := pk_no h1 h2 hw (by
  unfold optAt
  split
  · rw [List.getElem?_eq_none (by omega)]
  · rfl)
theorem pk_late (h1 : i < l.length) (h2 : i < ch.length) (hw : pickF day l ch i = out) (hk : ch[i].toNat < l[i].options.length) (h : ¬ l[i].options[ch[i].toNat].day < day) : pickF day l ch (i + 1) = out := pk_no h1 h2 hw (by
  unfold optAt
  split
  · simp only [List.getElem?_eq_getElem hk]; rw [if_neg h]
  · rfl)
theorem pk_yes (h1 : i < l.length) (h2 : i < ch.length) (hw : pickF day l ch i = out) (h0 : 0 ≤ ch[i]) (hk : ch[i].toNat < l[i].options.length) (h : l[i].options[ch[i].toNat].day < day) (hv : 0 ≤ l[i].options[ch[i].toNat].day ∧ l[i].options[ch[i].toNat].day ≤ 40000) :
    pickF day l ch (i + 1) = out ++ [⟨l[i].options[ch[i].toNat], i, hv.1, hv.2⟩] := by
  have ho : optAt day l[i] ch[i] = some l[i].options[ch[i].toNat] := by
    unfold optAt
    rw [if_pos h0]
    simp only [List.getElem?_eq_getElem hk]; rw [if_pos h]
  rw [pick_succ, hw, pkd, at2_eq h1 h2, ho]
  simp [hv]
end
theorem follow_step {c : List Kind} {st : List Part} {l : List Pkd} {i : Nat} (hi : i < l.length) : followGo c st (l.drop i) = if (applyF c st l[i].e).2 = 0 then followGo c (applyF c st l[i].e).1 (l.drop (i + 1)) else (l[i].rep, (applyF c st l[i].e).2) := by
  rw [List.drop_eq_getElem_cons hi]; rfl
theorem open_succ (l : List Rep) (ch : List Int) (i : Nat) : openDays l ch (i + 1) = openDays l ch i ++ ((at2 (fun r k => if k < 0 then r.options.map Evt.day else []) l ch i).getD []) := by
  rw [openDays, List.range_succ, List.flatMap_append, openDays]; simp
/-- what is open up to an option -/
def openTo (l : List Rep) (ch : List Int) (i j : Nat) : List Int := openDays l ch i ++ ((at2 (fun r k => if k < 0 then (r.options.take j).map Evt.day else []) l ch i).getD [])
theorem openTo_zero {l : List Rep} {ch : List Int} {i : Nat} : openTo l ch i 0 = openDays l ch i := by
  unfold openTo at2
  split
  · simp
  · simp
theorem openTo_skip {l : List Rep} {ch : List Int} {i j : Nat} (h1 : i < l.length) (h2 : i < ch.length) (h : ¬ ch[i] < 0) (j' : Nat) : openTo l ch i j = openTo l ch i j' := by
  unfold openTo; rw [at2_eq h1 h2, at2_eq h1 h2]; simp [h]
theorem openTo_step {l : List Rep} {ch : List Int} {i j : Nat} (h1 : i < l.length) (h2 : i < ch.length) (h : ch[i] < 0) (hj : j < l[i].options.length) : openTo l ch i (j + 1) = openTo l ch i j ++ [l[i].options[j].day] := by
  unfold openTo; rw [at2_eq h1 h2, at2_eq h1 h2]; simp only [if_pos h, Option.getD_some]
  rw [← take_succ_of hj, List.map_append, List.append_assoc]; rfl
theorem openTo_all {l : List Rep} {ch : List Int} {i : Nat} (h1 : i < l.length) (h2 : i < ch.length) : openTo l ch i l[i].options.length = openDays l ch (i + 1) := by
  rw [open_succ, openTo, at2_eq h1 h2, at2_eq h1 h2]; simp [List.take_length]
theorem open_pre {l : List Rep} {ch : List Int} {n i : Nat} (h : i ≤ n) : openDays l ch i <+: openDays l ch n := by
  induction n with
  | zero => obtain rfl : i = 0 := by omega
            exact List.prefix_rfl
  | succ n ih =>
    rcases Nat.lt_or_ge n i with hi | hi
    · obtain rfl : i = n + 1 := by omega
      exact List.prefix_rfl
    · exact (ih hi).trans (by rw [open_succ]; exact List.prefix_append _ _)
theorem openTo_pre {l : List Rep} {ch : List Int} {i j : Nat} (h1 : i < l.length) (h2 : i < ch.length) (h : ch[i] < 0) (hj : j < l[i].options.length) : openTo l ch i j ++ [l[i].options[j].day] <+: openDays l ch l.length := by
  rw [← openTo_step h1 h2 h hj]
  refine List.IsPrefix.trans ?_ (open_pre (i := i + 1) (by omega))
  rw [← openTo_all h1 h2]
  unfold openTo
  rw [at2_eq h1 h2, at2_eq h1 h2]
  simp only [if_pos h, Option.getD_some]
  refine (List.prefix_append_right_inj _).2 ?_
  rw [List.take_length, List.map_take]
  exact List.take_prefix _ _
theorem validRep_len {r : Rep} (h : validRep r = true) : 1 ≤ r.options.length ∧ r.options.length ≤ 4 := by
  simp only [validRep, Bool.and_eq_true, Bool.not_eq_true', Bool.or_eq_false_iff, decide_eq_false_iff_not] at h
  omega
theorem pick_mem {day : Int} {l : List Rep} {ch : List Int} {n : Nat} {p : Pkd} (h : p ∈ pickF day l ch n) : ∃ r ∈ l, p.e ∈ r.options := by
  rw [pickF, List.mem_filterMap] at h
  obtain ⟨i, _, hi⟩ := h
  unfold pkd at2 at hi
  split at hi
  · rename_i e he
    split at hi
    · cases hi
      split at he
      · rename_i r k h1 h2
        refine ⟨r, List.mem_of_getElem? h1, ?_⟩
        simp only [Option.join_some, optAt] at he
        split at he
        · split at he
          · rename_i e' h3
            split at he
            · cases he; exact List.mem_of_getElem? h3
            · cases he
          · cases he
        · cases he
      · simp at he
    · cases hi
  · cases hi
theorem given_all {c : List Kind} {l : List Rep} {ch : List Int} {n : Int} (h : givenF c l ch n = true) : ch.length = l.length ∧ ∀ r ∈ l, validRep r = true := by
  simp only [givenF, Bool.and_eq_true, Bool.not_eq_true', Bool.or_eq_false_iff, Bool.not_eq_false', decide_eq_true_eq] at h
  have hlc : ch.length = l.length := by omega
  refine ⟨hlc, fun r hr => ?_⟩
  obtain ⟨i, hi, rfl⟩ := List.getElem_of_mem hr
  have := allTo_at h.2 hi hi (by omega)
  simp only [chFine, Bool.not_eq_true', Bool.or_eq_false_iff, decide_eq_false_iff_not] at this
  cases hv : validRep l[i] with
  | true => rfl
  | false => exact absurd (by simp [chs, hv]) this.1.1
theorem least_snoc (l : List Int) (d : Int) : leastF (l ++ [d]) = if d < leastF l then d else leastF l := by
  rw [leastF, List.foldl_append]; rfl
/-- events as keys -/
def encE (e : Evt) : Value := .agg e.cells.toArray
end Go.Sx

/- Maps whose keys are structs of numbers, strings and truth values. -/
set_option linter.all false
namespace Go.Sx
open Go
/-- a key that can be hashed -/
def chkV (P : Program) : Nat → TypeId → Value → Bool
  | 0, _, _ => false
  | d + 1, t, x => match P.underlying t with
    | some .bool | some (.int _) | some .string => true
    | some (.struct fs) => match x with
      | .agg xs => fs.toList.all fun f => match partV P f.type xs.toList f.offset with | some v => chkV P d f.type v | none => false
      | _ => false
    | _ => false
theorem chkV_run {P : Program} {b : Bool} : ∀ (d : Nat) (t : TypeId) (v : Value), chkV P d t v = true → ∀ (n : Nat), d ≤ n → ∀ w : World, (Instr.checkKey b n t v).run P w = .ok () w
  | 0, _, _, h, _, _, _ => by simp [chkV] at h
  | d + 1, t, v, h, n, hn, w => by
    obtain ⟨n, rfl⟩ : ∃ q, n = q + 1 := ⟨n - 1, by omega⟩
    rw [chkV] at h
    rw [Instr.checkKey]
    split at h
    · rename_i hu; simp [run_underlying hu]
    · rename_i hu; simp [run_underlying hu]
    · rename_i hu; simp [run_underlying hu]
    · rename_i fs hu
      split at h
      · rename_i xs
        simp only [Sem.run_bind, run_underlying hu, Result.andThen_ok]
        rw [← Array.forIn_toList]
        have key : ∀ l : List Field, (∀ f ∈ l, (match partV P f.type xs.toList f.offset with | some v => chkV P d f.type v | none => false) = true) → ∀ w : World,
            (forIn l PUnit.unit fun f (_ : PUnit) => do
              if f.name ≠ "_" then do
                let __do_lift ← part f.type xs f.offset
                Instr.checkKey b n f.type __do_lift
                pure PUnit.unit
                pure (ForInStep.yield PUnit.unit)
              else do
                pure PUnit.unit
                pure (ForInStep.yield PUnit.unit) : Sem PUnit).run P w = .ok () w := by
          intro l
          induction l with
          | nil => intro _ w; simp
          | cons f l ih =>
            intro hl w
            have h1 := hl f (by simp)
            split at h1
            · rename_i v hv
              have e1 := partV_run hv w
              have e2 := chkV_run (b := b) d f.type v h1 n (by omega) w
              have e3 := ih (fun g hg => hl g (by simp [hg])) w
              rw [List.forIn_cons]
              by_cases hf : f.name ≠ "_"
              · simp only [if_pos hf, Sem.run_bind, e1, Result.andThen_ok, e2, Sem.run_pure]
                exact e3
              · simp only [if_neg hf, Sem.run_bind, Result.andThen_ok, Sem.run_pure]
                exact e3
            · cases h1
        have := key fs.toList (by rw [List.all_eq_true] at h; exact h) w
        rw [this]
        simp
      · cases h
    · cases h
def structK (P : Program) (kt : TypeId) : Bool := match P.underlying kt with
  | some (.struct _) => true
  | _ => false
theorem key_struct {κ : Type} [DecidableEq κ] {P : Program} {kt : TypeId} {cells : κ → List Value} (h : structK P kt = true) (he : ∀ p q, eqV P 9 kt (.agg (cells p).toArray) (.agg (cells q).toArray) = some (decide (p = q)))
    (hc : ∀ p, chkV P 9 kt (.agg (cells p).toArray) = true) (hb : ∀ p, (cells p).all (fun v => Instr.sameBits 9999 v v) = true) : KeyOK P kt (fun p => .agg (cells p).toArray) where
  find := by
    obtain ⟨fs, h1⟩ : ∃ fs, P.underlying kt = some (.struct fs) := by
      unfold structK at h
      split at h
      · rename_i fs hfs; exact ⟨fs, hfs⟩
      · cases h
    intro w k es kvs hes
    have key : ∀ (es : List MapEntry) (kvs : List (κ × Value)) (i : Nat), es.map (fun e => (e.key, e.val)) = emap (fun p => .agg (cells p).toArray) kvs → (Instr.findAsking kt (.agg (cells k).toArray) es i).run P w = .ok (mfind kvs k i) w := by
      intro es
      induction es with
      | nil => intro kvs i he; cases kvs <;> simp_all [emap, Instr.findAsking, mfind]
      | cons e es ih =>
        intro kvs i hes
        cases kvs with
        | nil => simp [emap] at hes
        | cons p kvs =>
          obtain ⟨k', v⟩ := p
          simp only [List.map_cons, emap, List.cons.injEq, Prod.mk.injEq] at hes
          obtain ⟨⟨h1, h2⟩, h3⟩ := hes
          have hr := eqV_run (P := P) 9 kt _ _ _ (he k k') 10000 (by omega) w
          simp only [Instr.findAsking, h1, Sem.run_bind, Op.equal, Op.maxDepth, hr, Result.andThen_ok]
          by_cases hk : k' = k
          · subst hk; simp [mfind, h2]
          · have : ¬ k = k' := fun e => hk e.symm
            simp only [this, decide_false, Bool.false_eq_true, if_false, mfind, if_neg hk]
            exact ih kvs (i + 1) h3
    simp only [Instr.findKey, Sem.run_bind, run_underlying h1, Result.andThen_ok]
    cases es with
    | nil => cases kvs <;> simp_all [emap, Instr.findNow, mfind]
    | cons e es =>
      have : Instr.findNow (.struct fs) (.agg (cells k).toArray) (e :: es) 0 = none := by simp [Instr.findNow, Instr.sameNow]
      simp only [this]
      exact key _ kvs 0 hes
  check := fun w b k => chkV_run 9 kt _ (hc k) 10000 (by omega) w
  same := by
    intro k
    show Instr.sameBits (9999 + 1) (.agg (cells k).toArray) (.agg (cells k).toArray) = true
    have := hb k
    rw [List.all_eq_true] at this
    simp only [Instr.sameBits, beq_self_eq_true, Bool.true_and, List.all_eq_true]
    intro p hp
    obtain ⟨i, hi, rfl⟩ := List.getElem_of_mem hp
    simp only [List.getElem_zip]
    exact this _ (List.getElem_mem _)
theorem bits_str (n : Nat) (s : ByteArray) : Instr.sameBits n (.string s) (.string s) = true := by
  have hs : (s == s) = true := by rw [ba_beq]; simp
  cases n <;> simp [Instr.sameBits, hs]
theorem bits_int (n : Nat) (k : IntKind) (i : Int) : Instr.sameBits n (.int k i) (.int k i) = true := by cases n <;> simp [Instr.sameBits]
end Go.Sx

/- Bits of numbers; numbers of a list opened. -/
set_option linter.all false
namespace Go.Sx
open Go
section
variable {P : Program} {n : Sz} {E : Ent} {I : IMap} {L : LL} {H : List Res}
variable {d ty : Nat} {pos : String} {af : Array Edge} {tx tyy : Nat} {x y : Operand}
theorem v_shrU {a i : Nat} {k kk : IntKind} (hx : ev L x = some (.int k ((a : Nat) : Int))) (hy : ev L y = some (.int kk ((i : Nat) : Int))) :
    OV P n E I L H ⟨some d, .binOp .shr tx x y tyy, ty, pos, af, none⟩ (.int k ((a / 2 ^ min i k.bits : Nat) : Int)) := fun w s st _ => by
  have h := shift_shr_any k kk (a : Int) (i : Int) (by omega)
  have hb : binOp .shr tx (.int k (a : Int)) (.int kk (i : Int)) = pure (.int k ((a / 2 ^ min i k.bits : Nat) : Int)) := by
    show Op.shift .shr k (a : Int) kk (i : Int) = _
    rw [h]
    simp
  simp [execOp, st.ev hx, st.ev hy, eqGuard_shr, hb]
theorem and16 (a : Nat) : Op.intBits .and .u16 (a : Int) 1 = pure (.int .u16 ((a % 2 : Nat) : Int)) := by
  have h : (BitVec.ofInt 16 (a : Int) &&& BitVec.ofInt 16 1).toNat = a % 2 := by
    rw [BitVec.toNat_and, show BitVec.ofInt 16 (a : Int) = BitVec.ofNat 16 a from by simp, BitVec.toNat_ofNat]
    show a % 2 ^ 16 &&& 1 = a % 2
    rw [Nat.and_one_is_mod]
    omega
  show pure (Value.int .u16 (IntKind.u16.wrap ((BitVec.ofInt 16 (a : Int) &&& BitVec.ofInt 16 1).toNat : Int))) = _
  rw [h]
  congr 2
  simp [IntKind.wrap, IntKind.signed, IntKind.bits]
  omega
theorem or16 {a b : Nat} (ha : a < 65536) (hb : b < 65536) : Op.intBits .or .u16 (a : Int) (b : Int) = pure (.int .u16 ((a ||| b : Nat) : Int)) := by
  have h : (BitVec.ofInt 16 (a : Int) ||| BitVec.ofInt 16 (b : Int)).toNat = a ||| b := by
    rw [BitVec.toNat_or, show BitVec.ofInt 16 (a : Int) = BitVec.ofNat 16 a from by simp, show BitVec.ofInt 16 (b : Int) = BitVec.ofNat 16 b from by simp, BitVec.toNat_ofNat, BitVec.toNat_ofNat, Nat.mod_eq_of_lt ha, Nat.mod_eq_of_lt hb]
  have h2 : a ||| b < 2 ^ 16 := Nat.or_lt_two_pow ha hb
  show pure (Value.int .u16 (IntKind.u16.wrap ((BitVec.ofInt 16 (a : Int) ||| BitVec.ofInt 16 (b : Int)).toNat : Int))) = _
  rw [h]
  congr 2
  simp [IntKind.wrap, IntKind.signed, IntKind.bits]
  omega
theorem v_and1 {a : Nat} (hx : ev L x = some (.int .u16 ((a : Nat) : Int))) : OV P n E I L H ⟨some d, .binOp .and tx x (.const (.int .u16 1)) tyy, ty, pos, af, none⟩ (.int .u16 ((a % 2 : Nat) : Int)) := fun w s st _ => by
  have hb : binOp .and tx (.int .u16 (a : Int)) (.int .u16 1) = pure (.int .u16 ((a % 2 : Nat) : Int)) := (and16 a)
  have hy : w.eval (.const (.int .u16 1)) = .int .u16 1 := rfl
  simp [execOp, st.ev hx, hy, eqGuard_at_int, hb]
theorem v_or16 {a b : Nat} (ha : a < 65536) (hbb : b < 65536) (hx : ev L x = some (.int .u16 ((a : Nat) : Int))) (hy : ev L y = some (.int .u16 ((b : Nat) : Int))) : OV P n E I L H ⟨some d, .binOp .or tx x y tyy, ty, pos, af, none⟩ (.int .u16 ((a ||| b : Nat) : Int)) := fun w s st _ => by
  have hb : binOp .or tx (.int .u16 (a : Int)) (.int .u16 (b : Int)) = pure (.int .u16 ((a ||| b : Nat) : Int)) := or16 ha hbb
  simp [execOp, st.ev hx, st.ev hy, eqGuard_at_int, hb]
theorem v_remI {i j : Int} (hx : ev L x = some (.int .i64 i)) (hy : ev L y = some (.int .i64 j)) (h0 : 0 ≤ i) (h1 : i ≤ 9223372036854775807) (hj : 0 < j) : OV P n E I L H ⟨some d, .binOp .rem tx x y tyy, ty, pos, af, none⟩ (.int .i64 (i % j)) := by
  obtain ⟨a, rfl⟩ := Int.eq_ofNat_of_zero_le h0
  obtain ⟨b, rfl⟩ := Int.eq_ofNat_of_zero_le (Int.le_of_lt hj)
  exact OV.cast (v_rem hx hy (by omega) (by omega)) (by simp)
end
theorem bit_at {a i : Nat} (ha : a < 65536) : decide ((((a / 2 ^ min i 16) % 2 : Nat) : Int) = 1) = a.testBit i := by
  rw [Nat.testBit_eq_decide_div_mod_eq, decide_eq_decide]
  rcases Nat.lt_or_ge i 16 with h | h
  · rw [Nat.min_eq_left (by omega)]; omega
  · rw [Nat.min_eq_right h]
    have h1 : a / 2 ^ 16 = 0 := Nat.div_eq_of_lt (by omega)
    have h2 : a / 2 ^ i = 0 := Nat.div_eq_of_lt (Nat.lt_of_lt_of_le (by omega : a < 2 ^ 16) (Nat.pow_le_pow_right (by omega) h))
    rw [h1, h2]; simp
/-- numbers of which those whose bits are set are open -/
def openF (ch : List Int) (a : Nat) : List Int := ch.mapIdx fun i k => if a.testBit i = true then -1 else k
theorem openF_len (ch : List Int) (a : Nat) : (openF ch a).length = ch.length := by simp [openF]
theorem idx_succ {α β : Type} {f : Nat → α → β} {l : List α} {i : Nat} {out : List β} (hi : i < l.length) (hw : (l.take i).mapIdx f = out) : (l.take (i + 1)).mapIdx f = out ++ [f i l[i]] := by
  rw [← take_succ_of hi, List.mapIdx_concat, hw, List.length_take, Nat.min_eq_left (by omega)]
theorem hit_take_no {l : List Evt} {e : Evt} {m i : Nat} (hq : ∀ j x, j < m → l[j]? = some x → decide (x = e) = false) (hi : i ≤ m) : hit id (l.take i) e = false := by
  rw [hit_eq, List.any_eq_false]
  intro x hx
  obtain ⟨j, hj, rfl⟩ := List.getElem_of_mem hx
  rw [List.length_take] at hj
  rw [List.getElem_take]
  simpa using hq j _ (by omega) (List.getElem?_eq_getElem (by omega))
theorem hit_take_yes {l : List Evt} {e : Evt} {m i : Nat} (hm : m < i) (hl : m < l.length) (h : decide (l[m] = e) = true) : hit id (l.take i) e = true := by
  rw [hit_eq, List.any_eq_true]
  exact ⟨l[m], List.mem_iff_getElem.2 ⟨m, by rw [List.length_take]; omega, List.getElem_take⟩, h⟩
def fewR (l : List Rep) (n : Int) : Bool := allP (fun _ r => fewE r.options 6) l l.length && decide (((l.length : Nat) : Int) ≤ n)
def givF (c : List Kind) (l : List Rep) : Bool := validC c && allP (fun _ r => validRep r) l l.length
/-- a number that fits a report -/
def fitAt (n : Int) (o : Option UInt8) : Int := match o with | some b => if 0 < n then (b.toNat : Int) % n else 0 | none => 0
def fitF (l : List Rep) (raw : List UInt8) : List Int := l.mapIdx fun i r => fitAt (chs r) raw[i]?
theorem fit_some {n : Int} {raw : List UInt8} {i : Nat} (hi : i < raw.length) (hn : 0 < n) : fitAt n raw[i]? = (raw[i].toNat : Int) % n := by simp [fitAt, hi, hn]
theorem fit_zero {n : Int} {raw : List UInt8} {i : Nat} (hn : ¬ 0 < n) : fitAt n raw[i]? = 0 := by
  unfold fitAt; split
  · rw [if_neg hn]
  · rfl
theorem fit_none {n : Int} {raw : List UInt8} {i : Nat} (hi : ¬ i < raw.length) : fitAt n raw[i]? = 0 := by
  rw [List.getElem?_eq_none (by omega)]; rfl
theorem fewR_sm {l : List Rep} {n : Int} (h : fewR l n = true) : (∀ r ∈ l, ∀ e ∈ r.options, SmE e) ∧ ((l.length : Nat) : Int) ≤ n := by
  simp only [fewR, Bool.and_eq_true, decide_eq_true_eq] at h
  refine ⟨fun r hr => ?_, h.2⟩
  obtain ⟨_, h1⟩ := allP_mem h.1 hr
  exact (fewE_sm h1).1
end Go.Sx

/- A row of a list: one element is written. -/
set_option linter.all false
namespace Go.Sx
open Go
section
variable {P : Program} {n : Sz} {E : Ent} {I : IMap} {L : LL} {H : List Res} {K : Act → World → Prop}
variable {α : Type} [Enc α]
theorem sx_rowF {v : Value} {e k m : Nat} {xs : List Value} {l : List α} (hF : Flat I xs l) (hk : k = Enc.k α) (hm : m = l.length) (h0 : 0 < l.length)
    (h : ∀ g cap rest xss, v = .slice (some ⟨g, 0, none⟩) m cap → FlatC I xss l → Uk k rest → m + rest.length = cap → cap ≤ maxLen → SX n E I L (.blk g e (xss ++ rest).flatten :: H) K) : SX n E I L (.row v e k m xs :: H) K := by
  obtain ⟨xss, rfl, hC⟩ := FlatC.of hF
  refine sx_row (xss := xss) (m := m) (by rw [hk]; exact hC.uk) (by rw [hC.len, hm]) (fun h1 _ => absurd h1 (by omega)) (fun g cap rest hv hR hc hl => h g cap rest xss hv hC hR hc hl)
theorem sx_unrowF {g e k m cap i : Nat} {xss rest : List (List Value)} {c : List Value} {l : List α} (x : α) (hC : FlatC I xss l) (hR : Uk k rest) (hk : k = Enc.k α) (hm : m = l.length) (hi : i < l.length) (hc : m + rest.length = cap) (hl : cap ≤ maxLen) (hx : Enc.rd I c x)
    (h : ∀ ws, Flat I ws (l.set i x) → SX n E I L (.row (.slice (some ⟨g, 0, none⟩) m cap) e k m ws :: H) K) : SX n E I L (.blk g e ((xss ++ rest).set i c).flatten :: H) K := by
  have hlen : i < xss.length := by rw [hC.len]; exact hi
  rw [List.set_append_left _ _ hlen]
  have hC' := hC.set hx i
  refine sx_unrow (by rw [hk]; exact hC'.uk) hR (by rw [hC'.len, List.length_set, hm]) hc hl (h _ hC'.flat)
theorem sx_unrowF2 {g e k m cap i j : Nat} {xss rest : List (List Value)} {c d : List Value} {l : List α} (x y : α) (l' : List α) (hC : FlatC I xss l) (hR : Uk k rest) (hk : k = Enc.k α) (hm : m = l.length) (hi : i < l.length) (hj : j < l.length) (hc : m + rest.length = cap) (hl : cap ≤ maxLen) (hx : Enc.rd I c x) (hy : Enc.rd I d y) (hl' : (l.set i x).set j y = l')
    (h : ∀ ws, Flat I ws l' → SX n E I L (.row (.slice (some ⟨g, 0, none⟩) m cap) e k m ws :: H) K) : SX n E I L (.blk g e (((xss ++ rest).set i c).set j d).flatten :: H) K := by
  have hlen : i < xss.length := by rw [hC.len]; exact hi
  rw [List.set_append_left _ _ hlen]
  subst hl'
  exact sx_unrowF y (hC.set hx i) hR hk (by rw [List.length_set]; exact hm) (by rw [List.length_set]; exact hj) hc hl hy h
theorem sx_rowslice {v : Value} {e k m : Nat} {xs : List Value} (h : ∀ A c, v = .slice A m c → SX n E I L (.row v e k m xs :: H) K) : SX n E I L (.row v e k m xs :: H) K := by
  refine sx_know (p := ∃ h, IsRow h v e k m xs) (fun w mm => ⟨_, mm.holds _ (List.mem_cons_self ..)⟩) fun ⟨_, _, hr⟩ => ?_
  rcases hr with ⟨rfl, rfl⟩ | ⟨g, cap, cur, rfl, _⟩
  · exact h _ _ rfl
  · exact h _ _ rfl
end
section
variable {α : Type} [Enc α] {I : IMap} {A : Option Addr} {m c : Nat} {l : List α}
theorem set_mem {α : Type} {l : List α} {i j : Nat} {x y z : α} (hx : x ∈ l) (hy : y ∈ l) (h : z ∈ (l.set i x).set j y) : z ∈ l := by
  rcases List.mem_or_eq_of_mem_set h with h | rfl
  · rcases List.mem_or_eq_of_mem_set h with h | rfl
    · exact h
    · exact hx
  · exact hy
theorem RdS.toA (h : RdS I (.slice A m c) l) : RdA I A l := by
  obtain ⟨_, _, e, h, _⟩ := h
  injection e with e1 e2 e3
  subst e1; exact h
theorem RdS.eqL (h : RdS I (.slice A m c) l) : m = l.length ∧ m ≤ c ∧ c ≤ 9223372036854775807 := by
  obtain ⟨_, _, e, _, h1, h2⟩ := h
  injection e with e1 e2 e3
  subst e3; exact ⟨e2, by omega, h2⟩
theorem RdS.takeM (h : RdS I (.slice A m c) l) (q : Nat) (hq : q ≤ l.length) : RdS I (.slice A q c) (l.take q) := by
  obtain rfl := h.eqL.1; exact h.take q hq
theorem RdS.dropM (h : RdS I (.slice A m c) l) (q : Nat) (hq : q ≤ l.length) : RdS I (.slice (cutA A c q (Enc.k α)) (m - q) (c - q)) (l.drop q) := by
  obtain rfl := h.eqL.1; exact h.drop q hq
theorem RdS.midM (h : RdS I (.slice A m c) l) (q r : Nat) (hq : q ≤ r) (hr : r ≤ l.length) : RdS I (.slice (cutA A c q (Enc.k α)) (r - q) (c - q)) ((l.take r).drop q) := by
  obtain rfl := h.eqL.1; exact h.mid q r hq hr
end
/-! a scope through which the run goes without a jump -/
section
variable {P : Program} {b : Frame} {a : Act} {k : List Item} {cs : List Frame} {w : World} {Q : Exit → Act → World → Prop} {F : Fence}
theorem stepR_scope {c : Code} : step P (lone (b.atR a (.code (.scope c) :: k)) cs w) = .next (lone (b.atR a (.code c :: .inScope c :: k)) cs w) :=
  step_lone_go (by simp [stepG, stepG.exec, Frame.atR])
theorem stepR_inScope {c : Code} : step P (lone (b.atR a (.inScope c :: k)) cs w) = .next (lone (b.atR a k) cs w) :=
  step_lone_go (by simp [stepG, stepG.exec, Frame.atR])
theorem wpIn_scope {n : Nat} {c : Code} (h : c.wpIn F n P (Exit.noGoto Q) a w) : (Code.scope c).wpIn F n P Q a w := by
  intro b k cs hro hb hr
  have h0 : (lone (b.atR a (.code (.scope c) :: k)) cs w).fenced P F := fenced_calm hb hr rfl
  obtain ⟨e, a₁, w₁, hq, harr⟩ := h b (.inScope c :: k) cs hro hb hr
  cases e with
  | normal => exact ⟨.normal, a₁, w₁, hq, .head h0 stepR_scope (StepsIn.trans harr (.one (fenced_calm hb hr rfl) stepR_inScope))⟩
  | exit id =>
    have hx : exitTo id (.inScope c :: k) = exitTo id k := by simp [exitTo]
    exact ⟨.exit id, a₁, w₁, hq, fun k' hk => .head h0 stepR_scope (harr.1 k' (by rw [hx]; exact hk)),
      fun hr' hk => let ⟨k₁, h1, h2⟩ := harr.2 hr' (by rw [hx]; exact hk); ⟨k₁, h1, .head h0 stepR_scope h2⟩⟩
  | goto l => exact hq.elim
  | ret => exact ⟨_, a₁, w₁, hq, .of_steps (.one h0 stepR_scope) harr⟩
  | panic ch => exact ⟨_, a₁, w₁, hq, .of_steps (.one h0 stepR_scope) harr⟩
  | outgrown => exact ⟨_, a₁, w₁, hq, .of_steps (.one h0 stepR_scope) harr⟩
end
section
variable {P : Program} {ρ : Option Nat} {n : Sz} {E : Ent} {I : IMap} {L : LL} {H : List Res} {Q : Exit → Act → World → Prop}
theorem c_scope {c : Code} (h : SX n E I L H (c.wq ρ P (Exit.noGoto Q))) : SX n E I L H ((Code.scope c).wq ρ P Q) := fun a w s m => wpIn_scope (h a w s m)
theorem c_label {l : Nat} (h : SX n E I L H (Q .normal)) : SX n E I L H ((Code.label l).wq ρ P Q) := fun a w s m => wpIn_label (h a w s m)
theorem q_ng (h : SX n E I L H (Q .normal)) : SX n E I L H (Exit.noGoto Q .normal) := h
theorem q_ng_ret (h : SX n E I L H (Q .ret)) : SX n E I L H (Exit.noGoto Q .ret) := h
theorem q_ng_exit {id : Nat} (h : SX n E I L H (Q (.exit id))) : SX n E I L H (Exit.noGoto Q (.exit id)) := h
end
end Go.Sx

/- Lists of texts in a block: their order does not matter, their elements do. -/
set_option linter.all false
namespace Go.Sx
open Go
def strCh (l : List ByteArray) : List (List Value) := l.map fun s => [.string s]
theorem str_uk (l : List ByteArray) : Uk 1 (strCh l) := fun c hc => by obtain ⟨e, _, rfl⟩ := List.mem_map.1 hc; rfl
theorem str_len (l : List ByteArray) : (strCh l).length = l.length := by simp [strCh]
theorem str_flat (I : IMap) : ∀ l : List ByteArray, FlatC I (strCh l) l
  | [] => .nil
  | s :: r => .cons rfl (str_flat I r)
theorem str_of {I : IMap} {xss : List (List Value)} {l : List ByteArray} (h : FlatC I xss l) : xss = strCh l := by
  induction h with
  | nil => rfl
  | cons h1 _ ih => rw [ih]; simp only [strCh, List.map_cons]; rw [show _ = _ from h1]
theorem str_at {l : List ByteArray} {rest : List (List Value)} {i : Nat} (h : i < l.length) : (strCh l ++ rest)[i]? = some [.string l[i]] := by
  rw [List.getElem?_append_left (by rw [str_len]; exact h)]; simp [strCh, h]
theorem str_set {l : List ByteArray} {rest : List (List Value)} {i : Nat} (h : i < l.length) (s : ByteArray) : (strCh l ++ rest).set i [.string s] = strCh (l.set i s) ++ rest := by
  rw [List.set_append_left _ _ (by rw [str_len]; exact h)]
  congr 1
  simp [strCh, List.map_set]
/-- of the same elements -/
def Pm (l m : List ByteArray) : Prop := m.length = l.length ∧ ∀ x, x ∈ m ↔ x ∈ l
theorem Pm.refl (l : List ByteArray) : Pm l l := ⟨rfl, fun _ => Iff.rfl⟩
theorem Pm.swap {l m : List ByteArray} {i j : Nat} (h : Pm l m) (hi : i < m.length) (hj : j < m.length) : Pm l ((m.set i m[j]).set j m[i]) := by
  have hp : ((m.set i m[j]).set j m[i]).Perm m := List.set_set_perm hi hj
  exact ⟨by rw [List.length_set, List.length_set]; exact h.1, fun x => by rw [hp.mem_iff]; exact h.2 x⟩
theorem str_swp {l : List ByteArray} {rest : List (List Value)} {i j : Nat} (hi : i < l.length) (hj : j < l.length) : ((strCh l ++ rest).set i [.string l[j]]).set j [.string l[i]] = strCh ((l.set i l[j]).set j l[i]) ++ rest := by
  rw [str_set hi, str_set (by rw [List.length_set]; exact hj)]
theorem str_swp' {l : List ByteArray} {rest : List (List Value)} {i j : Nat} (hi : i < l.length) (hj : j < l.length) (hij : i ≠ j) : ((strCh l ++ rest).set j [.string l[i]]).set i [.string l[j]] = strCh ((l.set i l[j]).set j l[i]) ++ rest := by
  rw [str_set hj, str_set (by rw [List.length_set]; exact hi), List.set_comm _ _ hij.symm]
theorem flat_take1 {α : Type} {ls : List (List α)} {i : Nat} (h : i < ls.length) : (ls.take (i + 1)).flatten = (ls.take i).flatten ++ ls[i] := by
  rw [← take_succ_of h, List.flatten_append]; simp
theorem flat_lenLe {α : Type} (ls : List (List α)) (i : Nat) : ((ls.take i).flatten).length ≤ ls.flatten.length := by
  conv => rhs; rw [← List.take_append_drop i ls, List.flatten_append, List.length_append]
  omega
theorem conv_u8 (b : UInt8) : IntKind.i64.wrap ((b.toNat : Nat) : Int) = ((b.toNat : Nat) : Int) := by
  have := b.toNat_lt; rw [IntKind.wrap_i64]; omega
theorem conv_add (b : UInt8) : I64 (0 + ((b.toNat : Nat) : Int)) := by
  have := b.toNat_lt; exact ⟨by omega, by omega⟩
/-- the names that a report mentions, in whatever order -/
def NamesOf (r : Rep) (ns : List ByteArray) : Prop := (∀ x, x ∈ ns ↔ validRep r = true ∧ ∃ e ∈ r.options, x ∈ namesE e) ∧ ns.length ≤ 8
theorem namesE_len {e : Evt} (h : validE e = true) : 1 ≤ (namesE e).length ∧ (namesE e).length ≤ 2 := by
  unfold namesE
  rw [if_neg (by rw [h]; decide)]
  split <;> simp
theorem names_flat : ∀ (l : List Evt), (∀ e ∈ l, validE e = true) → l.length ≤ (l.map namesE).flatten.length ∧ (l.map namesE).flatten.length ≤ 2 * l.length
  | [], _ => by simp
  | e :: r, h => by
    have h1 := namesE_len (h e (by simp))
    have h2 := names_flat r fun x hx => h x (by simp [hx])
    simp only [List.map_cons, List.flatten_cons, List.length_append, List.length_cons]
    omega
theorem names_of_rep {r : Rep} (hv : validRep r = true) {m : List ByteArray} (hm : ∀ x, x ∈ m ↔ x ∈ (r.options.map namesE).flatten) (hl : m.length ≤ (r.options.map namesE).flatten.length) : NamesOf r m := by
  have h1 := names_flat r.options (validRep_e hv)
  have h2 := validRep_len hv
  refine ⟨fun x => ?_, by omega⟩
  rw [hm x, List.mem_flatten]
  constructor
  · rintro ⟨ns, hns, hx⟩
    obtain ⟨e, he, rfl⟩ := List.mem_map.1 hns
    exact ⟨hv, e, he, hx⟩
  · rintro ⟨_, e, he, hx⟩
    exact ⟨_, List.mem_map.2 ⟨e, he, rfl⟩, hx⟩
theorem names_none {r : Rep} (hv : validRep r = false) : NamesOf r [] := ⟨fun x => by simp [hv], by simp⟩
/-! what is left of a list of texts without repetitions -/
structure Cpt (l B : List ByteArray) (k p : Nat) : Prop where
  len : B.length = l.length
  kp : k + 1 ≤ p
  pl : p ≤ l.length
  tail : ∀ j, p - 1 ≤ j → B[j]? = l[j]?
  mem : ∀ x, x ∈ B.take k ↔ x ∈ l.take p
theorem Cpt.start {l : List ByteArray} {k : Nat} (hk : 1 ≤ k) (hl : k < l.length) (h : l[k] = l[k - 1]) : Cpt l l k (k + 1) := by
  refine ⟨rfl, Nat.le_refl _, hl, fun _ _ => rfl, fun x => ?_⟩
  rw [← take_succ_of hl]
  constructor
  · intro hx; exact List.mem_append_left _ hx
  · intro hx
    rcases List.mem_append.1 hx with hx | hx
    · exact hx
    · obtain rfl := List.mem_singleton.1 hx
      rw [h]
      exact List.mem_take_iff_getElem.2 ⟨k - 1, by omega, rfl⟩
theorem Cpt.skip {l B : List ByteArray} {k p : Nat} (h : Cpt l B k p) (hp : p < l.length) (he : l[p] = l[p - 1]) (h1 : 1 ≤ p) : Cpt l B k (p + 1) := by
  refine ⟨h.len, by have := h.kp; omega, hp, fun j hj => h.tail j (by omega), fun x => ?_⟩
  rw [h.mem x, ← take_succ_of hp]
  constructor
  · intro hx; exact List.mem_append_left _ hx
  · intro hx
    rcases List.mem_append.1 hx with hx | hx
    · exact hx
    · obtain rfl := List.mem_singleton.1 hx
      rw [he]
      exact List.mem_take_iff_getElem.2 ⟨p - 1, by omega, rfl⟩
theorem Cpt.keep {l B : List ByteArray} {k p : Nat} (h : Cpt l B k p) (hp : p < l.length) : Cpt l (B.set k l[p]) (k + 1) (p + 1) := by
  have hkp := h.kp
  have hkB : k < B.length := by rw [h.len]; omega
  refine ⟨by rw [List.length_set]; exact h.len, by omega, hp, fun j hj => ?_, fun x => ?_⟩
  · rw [List.getElem?_set_ne (by omega)]; exact h.tail j (by omega)
  · rw [← take_succ_of (l := B.set k l[p]) (i := k) (by rw [List.length_set]; exact hkB), ← take_succ_of hp, List.mem_append, List.mem_append, List.getElem_set_self, List.take_set_of_le (Nat.le_refl _), h.mem x]
theorem Cpt.get {l B : List ByteArray} {k p j : Nat} (h : Cpt l B k p) (hj : p - 1 ≤ j) (hl : j < l.length) (hb : j < B.length) : B[j] = l[j] := by
  have := h.tail j hj
  rw [List.getElem?_eq_getElem hl, List.getElem?_eq_getElem hb] at this
  exact Option.some.inj this
theorem Cpt.done {l B : List ByteArray} {k : Nat} (h : Cpt l B k l.length) (x : ByteArray) : x ∈ B.take k ↔ x ∈ l := by
  rw [h.mem x, List.take_length]
theorem str_clear {B : List ByteArray} {rest : List (List Value)} {zs : List Value} {k m : Nat} (hk : k + m = B.length) : (strCh B ++ rest).take k ++ (List.replicate m zs ++ (strCh B ++ rest).drop (k + m)) = strCh (B.take k) ++ (List.replicate m zs ++ rest) := by
  rw [List.take_append_of_le_length (by rw [str_len]; omega), hk, ← str_len B, List.drop_left, strCh, strCh, List.map_take]
section
variable {P : Program} {ρ : Option Nat} {n : Sz} {E : Ent} {I : IMap} {L : LL} {H : List Res} {Q : Exit → Act → World → Prop} {ops : Array Oper} {K : Act → World → Prop}
variable {d ty : Nat} {pos : String} {af : Array Edge} {x y z : Operand}
/-- a cell of a block of chunks of one -/
theorem v_lds {g off tt t' : Nat} {xss : List (List Value)} {v : Value} (hm : Res.blk g t' xss.flatten ∈ H) (hU : Uk 1 xss) (ht : tyK P tt = some (false, 1)) (hx : ev L x = some (.pointer (some ⟨g, off, none⟩))) (i : Nat) (ho : off = i) (hi : xss[i]? = some [v]) :
    OV P n E I L H ⟨some d, .load tt x, ty, pos, af, none⟩ v := v_ld hm ht hx (by
  subst ho
  have h := flat_at hU hi
  rw [Nat.mul_one] at h
  have := congrArg (fun l : List Value => l[0]?) h
  simpa using this)
theorem v_sidxK {ts : Nat} {s : ByteArray} {i : Int} {kd : IntKind} (ht : P.underlying ts = some .string) (hx : ev L x = some (.string s)) (hy : ev L y = some (.int kd i)) (q : Nat) (hq : i = (q : Int)) (hlt : q < s.size) : OV P n E I L H ⟨some d, .index ts x y, ty, pos, af, none⟩ (.int .u8 ((s[q]!.toNat : Nat) : Int)) :=
  (fun a w st _ => by
    subst hq
    have hs : s[q]? = some (s[q]!) := by rw [getElem?_pos s q hlt, getElem!_pos s q hlt]
    simp [execOp, st.ev hx, st.ev hy, Instr.index, asIntOf, run_underlying ht, hs])
/-- append(nil, make([]T, q)...) -/
theorem o_appendMake0 {tt tn e k bytes q : Nat} {kn kq : IntKind} {zs : List Value} (he : P.underlying tt = some (.slice e)) (hn : P.underlying tn = some (.int kn)) (hb : bytesK P e = some (zs, k, bytes)) (hzs : zs.length = k) (hk0 : Nat.blt 0 k = true)
    (hx : ev L x = some (.slice none 0 0)) (hy : ev L y = some (.int kq (q : Nat))) (hq : 0 < q) (hroom : q * bytes ≤ 140737488355328) (hlen : q ≤ maxLen) (hd : Nat.blt d n.sz = true)
    (kk : ∀ g' r, q + r ≤ maxLen → SX n E I ((d, .slice (some ⟨g', 0, none⟩) q (q + r)) :: L) (.blk g' e (List.replicate (q + r) zs).flatten :: H) K) :
    SX n E I L H (one P ops Q ⟨some d, .call { callee := .builtin .append, args := #[x, y], argTypes := #[tt, tn] }, ty, pos, af, none⟩ K) :=
  o_gen (fun q' : Nat × Nat => .slice (some ⟨q'.1, 0, none⟩) q (q + q'.2)) (fun _ => I) (fun q' => .blk q'.1 e (List.replicate (q + q'.2) zs).flatten :: H) (fun q' => q + q'.2 ≤ maxLen) hd
    (fun a w st mm => by
      unfold bytesK at hb
      split at hb
      · rename_i inf hi
        cases hz : inf.zero with
        | none => simp [hz] at hb
        | some z0 =>
          simp only [hz, Option.map_some, Option.some.injEq, Prod.mk.injEq] at hb
          obtain ⟨hz1, hz2, hz3⟩ := hb
          have hk' : 0 < k := by simpa [Nat.blt_eq] using hk0
          have hz0 : z0.cells = zs.toArray := by rw [← hz1]
          have hold : (Builtin.firstCells inf.size 0 (.slice none 0 0)).run P w.drew = .ok ([] : List Value).toArray w.drew := by
            have hl0 : ∀ (b : Addr), (loadCells b 0).run P w.drew = .ok #[] w.drew := fun b => run_loadCells_list (P := P) w.drew b [] (fun j v hv => by simp at hv)
            simp [Builtin.firstCells, hl0]
          have hg : 0 < 0 + q := by omega
          have hcapq : grownCap w (0 + q) 0 e = q + (grownCap w (0 + q) 0 e - q) := by have := grownCap_ge w (0 + q) 0 e; omega
          have h48 : Builtin.nextslicecap (0 + q) 0 * inf.bytes ≤ 281474976710656 := by
            have h1 : Builtin.nextslicecap (0 + q) 0 * inf.bytes ≤ 2 * (0 + q) * inf.bytes := Nat.mul_le_mul_right _ (Room.nextslicecap_le' hg)
            rw [Nat.mul_assoc, hz3] at h1
            rw [hz3]
            simp only [Nat.zero_add] at h1 ⊢
            omega
          have h48q : q * inf.bytes ≤ 281474976710656 := by rw [hz3]; omega
          have hr := Lib.run_append_grow_zeros (P := P) w tt tn ty e inf z0 kq kn he hn hi hz none 0 0 [] hold q hq (by omega) hg (by unfold maxLen at hlen; omega) h48q h48
          have hzc : ∀ q, Builtin.zeroCells z0.cells q = (List.replicate q zs).flatten.toArray := fun q => by
            have h2 : Builtin.zeroCells zs.toArray q = madeCells zs.toArray (q * zs.length) := by simp [Builtin.zeroCells, madeCells]
            rw [hz0, h2, zrep_made zs (by omega), zrep_flat]
          rw [hzc, hzc] at hr
          simp only [Nat.zero_add] at hr hcapq
          refine ⟨(w.heap.size, grownCap w q 0 e - q), w.drew.alloc (.cells (List.replicate (q + (grownCap w q 0 e - q)) zs).flatten.toArray e), ?_, ?_, mm.drew.alloc e _⟩
          · show q + (grownCap w q 0 e - q) ≤ maxLen
            rw [← hcapq]
            exact grownCap_le_maxLen w q 0 e hlen
          · have e1 : ([] : List Value).toArray ++ (List.replicate q zs).flatten.toArray ++ (List.replicate (grownCap w q 0 e - q) zs).flatten.toArray = (List.replicate (q + (grownCap w q 0 e - q)) zs).flatten.toArray := by
              rw [List.append_toArray []  , List.nil_append, List.append_toArray, ← List.flatten_append, List.replicate_append_replicate]
            rw [e1] at hr
            simp only [execOp, resolve, invoke, builtin, Sem.run_bind, Sem.run_pure, Result.andThen_ok, List.map_toArray, List.map_cons, List.map_nil, st.ev hx, st.ev hy, hr]
            rw [← hcapq]
      · cases hb) fun q' hq' => kk q'.1 q'.2 hq'
theorem FnX.backE {f : FuncId} {args : Array Value} {g e k : Nat} {xs : List Value} {p : Value → Res → Prop}
    (h : FnX P f args I [.blk g e xs] (fun u r => ∃ yss rest m cap, Uk k yss ∧ Uk k rest ∧ yss.length = m ∧ m + rest.length = cap ∧ cap ≤ maxLen ∧ r = .blk g e (yss ++ rest).flatten ∧ p u (.row (.slice (some ⟨g, 0, none⟩) m cap) e k m yss.flatten))) : FnX P f args I [.blk g e xs] p :=
  ⟨fun w m' => (h.go w m').mono fun _ w' ⟨u, I', H', he, hm', hq⟩ => by
    obtain ⟨rfl, r', rfl, yss, rest, m, cap, hU, hR, hm, hc, hl, rfl, hp⟩ := hq
    refine ⟨_, _, _, he, ?_, rfl, _, rfl, hp⟩
    have hb : w'.heap[g]? = some (.cells (yss ++ rest).flatten.toArray e (0, 0)) := hm'.blk
    exact hm'.step rfl rfl rfl (Nat.le_refl _) (fun _ _ _ => rfl) (IsRow.shut hb hU hR hm hc hl) (fun g' hg' => .inl hg')⟩
theorem FnX.weak {f : FuncId} {args : Array Value} {H : List Res} {p q : Value → Res → Prop} (h : FnX P f args I H p) (hpq : ∀ u r, p u r → q u r) : FnX P f args I H q :=
  ⟨fun w m' => (h.go w m').mono fun _ w' ⟨u, I', H', he, hm', hq⟩ => by
    obtain ⟨rfl, r', rfl, hp⟩ := hq
    exact ⟨_, _, _, he, hm', rfl, _, rfl, hpq _ _ hp⟩⟩
theorem FnX.of_rowF {α : Type} [Enc α] {f : FuncId} {args : Value → List Value} {p : Value → Res → Prop} {v : Value} {e k m : Nat} {xs : List Value} {l : List α} (hF : Flat I xs l) (hk : k = Enc.k α) (hm : m = l.length) (h0 : 0 < l.length)
    (h1 : ∀ g cap rest xss, v = .slice (some ⟨g, 0, none⟩) m cap → FlatC I xss l → Uk k rest → m + rest.length = cap → cap ≤ maxLen → FnX P f (args (.slice (some ⟨g, 0, none⟩) m cap)).toArray I [.blk g e (xss ++ rest).flatten] p) : FnX P f (args v).toArray I [.row v e k m xs] p := by
  obtain ⟨xss, rfl, hC⟩ := FlatC.of hF
  exact FnX.of_rowV (by rw [hk]; exact hC.uk) (by rw [hC.len, hm]) (fun h _ => absurd h (by omega)) fun g cap rest hv hR hc hl => h1 g cap rest xss hv hC hR hc hl
end
end Go.Sx

/- The plain law of HistoryFalse: fewer open choices are false, too. -/
set_option linter.all false
namespace Go.Sx
open Go
theorem giv_not {c : List Kind} {l : List Rep} {ch : List Int} {n : Int} (h : givF c l = false) : givenF c l ch n = false := by
  cases hg : givenF c l ch n with
  | false => rfl
  | true =>
    obtain ⟨_, h2⟩ := given_all hg
    have h1 : validC c = true := by
      simp only [givenF, Bool.and_eq_true, Bool.not_eq_true', Bool.or_eq_false_iff, Bool.not_eq_false'] at hg
      exact hg.1.1
    have h3 : allP (fun _ r => validRep r) l l.length = true := by
      rw [allP, List.all_eq_true]
      intro i hi
      have hi := List.mem_range.1 hi
      simp only [List.getElem?_eq_getElem hi]
      exact h2 _ (List.getElem_mem hi)
    simp [givF, h1, h3] at h
theorem chs_pos {r : Rep} (h : validRep r = true) : 1 ≤ chs r := by
  have := validRep_len h
  simp only [chs, h, Bool.true_eq_false, if_false]
  split <;> omega
theorem allTo_of {f : Rep → Int → Bool} {l : List Rep} {ch : List Int} (h : ∀ i (h1 : i < l.length) (h2 : i < ch.length), f l[i] ch[i] = true) (hl : ch.length = l.length) : allTo f l ch l.length = true := by
  rw [allTo, List.all_eq_true]
  intro i hi
  have hi := List.mem_range.1 hi
  rw [at2_eq hi (by omega)]
  exact h i hi (by omega)
theorem given_mk {c : List Kind} {l : List Rep} {ch : List Int} {n : Int} (hc : validC c = true) (hl : ch.length = l.length) (h : ∀ i (h1 : i < l.length) (h2 : i < ch.length), chs l[i] ≠ 0 ∧ n ≤ ch[i] ∧ ch[i] < chs l[i]) : givenF c l ch n = true := by
  simp only [givenF, hc, Bool.and_eq_true]
  refine ⟨by simp [hl], allTo_of (fun i h1 h2 => ?_) hl⟩
  obtain ⟨a, b, d⟩ := h i h1 h2
  simp only [chFine, Bool.not_eq_true', Bool.or_eq_false_iff, decide_eq_false_iff_not]
  omega
theorem given_at {c : List Kind} {l : List Rep} {ch : List Int} {n : Int} (h : givenF c l ch n = true) {i : Nat} (h1 : i < l.length) (h2 : i < ch.length) : chs l[i] ≠ 0 ∧ n ≤ ch[i] ∧ ch[i] < chs l[i] := by
  simp only [givenF, Bool.and_eq_true] at h
  have := allTo_at h.2 h1 h1 h2
  simp only [chFine, Bool.not_eq_true', Bool.or_eq_false_iff, decide_eq_false_iff_not] at this
  omega
theorem given_cat {c : List Kind} {l : List Rep} {ch : List Int} {n : Int} (h : givenF c l ch n = true) : validC c = true := by
  simp only [givenF, Bool.and_eq_true, Bool.not_eq_true', Bool.or_eq_false_iff, Bool.not_eq_false'] at h
  exact h.1.1
theorem fit_len (l : List Rep) (raw : List UInt8) : (fitF l raw).length = l.length := by simp [fitF]
theorem giv_fit {c : List Kind} {l : List Rep} {raw : List UInt8} (h : givF c l = true) : givenF c l (fitF l raw) 0 = true := by
  simp only [givF, Bool.and_eq_true] at h
  refine given_mk h.1 (fit_len l raw) fun i h1 h2 => ?_
  obtain ⟨_, hv⟩ := allP_mem h.2 (List.getElem_mem h1)
  have hp := chs_pos hv
  have e : (fitF l raw)[i] = fitAt (chs l[i]) raw[i]? := by simp [fitF]
  rw [e]
  unfold fitAt
  split
  · rw [if_pos (by omega)]
    rename_i b _
    have := Int.emod_nonneg (b.toNat : Int) (show chs l[i] ≠ 0 by omega)
    have := Int.emod_lt_of_pos (b.toNat : Int) (show 0 < chs l[i] by omega)
    omega
  · omega
theorem open_at {ch : List Int} {a i : Nat} (h : i < (openF ch a).length) : (openF ch a)[i] = if a.testBit i = true then -1 else ch[i]'(by simpa [openF] using h) := by simp [openF]
theorem given_open {c : List Kind} {l : List Rep} {ch : List Int} (h : givenF c l ch 0 = true) (a : Nat) : givenF c l (openF ch a) (-1) = true := by
  have hl := (given_all h).1
  refine given_mk (given_cat h) (by rw [openF_len, hl]) fun i h1 h2 => ?_
  have := given_at h h1 (by rw [openF_len] at h2; exact h2)
  rw [open_at]
  split <;> omega
theorem given_less {c : List Kind} {l : List Rep} {ch : List Int} (h : givenF c l ch 0 = true) : givenF c l ch (-1) = true := by
  refine given_mk (given_cat h) (given_all h).1 fun i h1 h2 => ?_
  have := given_at h h1 h2
  omega
/-! the least day -/
theorem least_le : ∀ (l : List Int) (a : Int), l.foldl (fun a d => if d < a then d else a) a ≤ a ∧ ∀ d ∈ l, l.foldl (fun a d => if d < a then d else a) a ≤ d
  | [], a => ⟨Int.le_refl _, fun d h => by cases h⟩
  | x :: r, a => by
    obtain ⟨h1, h2⟩ := least_le r (if x < a then x else a)
    rw [List.foldl_cons]
    refine ⟨Int.le_trans h1 (by split <;> omega), fun d hd => ?_⟩
    rcases List.mem_cons.1 hd with rfl | hd
    · exact Int.le_trans h1 (by split <;> omega)
    · exact h2 d hd
theorem least_ge : ∀ (l : List Int) (a m : Int), m ≤ a → (∀ d ∈ l, m ≤ d) → m ≤ l.foldl (fun a d => if d < a then d else a) a
  | [], a, m, h, _ => h
  | x :: r, a, m, h, hl => by
    rw [List.foldl_cons]
    exact least_ge r _ m (by have := hl x (by simp); split <;> omega) fun d hd => hl d (by simp [hd])
theorem mem_open {l : List Rep} {ch : List Int} (hl : ch.length = l.length) {d : Int} : d ∈ openDays l ch l.length ↔ ∃ i, ∃ (h1 : i < l.length), ∃ (h2 : i < ch.length), ch[i] < 0 ∧ ∃ e ∈ l[i].options, e.day = d := by
  rw [openDays, List.mem_flatMap]
  constructor
  · rintro ⟨i, hi, hd⟩
    have hi := List.mem_range.1 hi
    rw [at2_eq hi (by omega)] at hd
    simp only [Option.getD_some] at hd
    split at hd
    · rename_i hc
      obtain ⟨e, he, rfl⟩ := List.mem_map.1 hd
      exact ⟨i, hi, by omega, hc, e, he, rfl⟩
    · cases hd
  · rintro ⟨i, h1, h2, hc, e, he, rfl⟩
    refine ⟨i, List.mem_range.2 h1, ?_⟩
    rw [at2_eq h1 h2]
    simp only [Option.getD_some, if_pos hc]
    exact List.mem_map.2 ⟨e, he, rfl⟩
    
/-! picks before a day -/
theorem pkd_filt {L1 L2 : Int} {l : List Rep} {ch1 ch2 : List Int} {i : Nat} (h1 : i < l.length) (h2 : i < ch1.length) (h3 : i < ch2.length) (h : optAt L1 l[i] ch1[i] = (optAt L2 l[i] ch2[i]).filter fun e => decide (e.day < L1)) :
    pkd L1 l ch1 i = (pkd L2 l ch2 i).filter fun p => decide (p.e.day < L1) := by
  unfold pkd
  rw [at2_eq h1 h2, at2_eq h1 h3, h]
  cases hq : optAt L2 l[i] ch2[i] with
  | none => rfl
  | some e =>
    simp only [Option.join_some, Option.filter_some]
    by_cases hd : e.day < L1
    · simp only [hd, decide_true, if_true]
      split
      · simp [Option.filter, hd]
      · rfl
    · simp only [hd, decide_false, Bool.false_eq_true, if_false]
      split
      · simp [Option.filter, hd]
      · rfl
theorem pick_filt {L1 L2 : Int} {l : List Rep} {ch1 ch2 : List Int} (hl1 : ch1.length = l.length) (hl2 : ch2.length = l.length) (h : ∀ i (h1 : i < l.length) (h2 : i < ch1.length) (h3 : i < ch2.length), optAt L1 l[i] ch1[i] = (optAt L2 l[i] ch2[i]).filter fun e => decide (e.day < L1)) :
    ∀ n, n ≤ l.length → pickF L1 l ch1 n = (pickF L2 l ch2 n).filter fun p => decide (p.e.day < L1) := by
  intro n
  induction n with
  | zero => intro _; rfl
  | succ n ih =>
    intro hn
    rw [pick_succ, pick_succ, List.filter_append, ← ih (by omega), pkd_filt (by omega) (by omega) (by omega) (h n (by omega) (by omega) (by omega))]
    congr 1
    cases pkd L2 l ch2 n with
    | none => rfl
    | some p => by_cases hp : p.e.day < L1 <;> simp [Option.filter, hp]
theorem srt_split {α : Type} [Day α] (L : Int) : ∀ {l : List α}, Srtd l → l = l.filter (fun x => decide (Day.day x < L)) ++ l.filter (fun x => !decide (Day.day x < L))
  | [], _ => rfl
  | x :: r, h => by
    have h' := List.pairwise_cons.1 h
    by_cases hx : Day.day x < L
    · simp only [List.filter_cons, hx, decide_true, if_true, Bool.not_true, Bool.false_eq_true, if_false, List.cons_append]
      rw [← srt_split L h'.2]
    · have h0 : r.filter (fun x => decide (Day.day x < L)) = [] := by
        rw [List.filter_eq_nil_iff]
        intro y hy
        have := h'.1 y hy
        simp; omega
      have h1 : r.filter (fun x => !decide (Day.day x < L)) = r := by
        rw [List.filter_eq_self]
        intro y hy
        have := h'.1 y hy
        simp; omega
      simp [List.filter_cons, hx, h0, h1]
theorem follow_less {c : List Kind} {l : List Rep} {ch1 ch2 : List Int} {L1 L2 : Int} (h : pickF L1 l ch1 l.length = (pickF L2 l ch2 l.length).filter fun p => decide (p.e.day < L1)) (hf : (followF c l ch1 L1).2 ≠ 0) : (followF c l ch2 L2).2 ≠ 0 := by
  unfold followF at hf ⊢
  have e1 : sortF (pickF L1 l ch1 l.length) = (sortF (pickF L2 l ch2 l.length)).filter (fun p => decide (Day.day p < L1)) := by
    rw [h, sortF_filt]; rfl
  have e2 := srt_split L1 (sortF_srt (pickF L2 l ch2 l.length))
  rw [e2, ← e1, follow_app]
  have e3 : runsTo c [] ((sortF (pickF L1 l ch1 l.length)).map Pkd.e) = none := by
    have := follow_ok c (sortF (pickF L1 l ch1 l.length)) []
    rw [decide_eq_false hf] at this
    cases hr : runsTo c [] ((sortF (pickF L1 l ch1 l.length)).map Pkd.e) with
    | none => rfl
    | some s => rw [hr] at this; cases this
  rw [e3]
  exact hf
theorem opt_some {L : Int} {r : Rep} {k : Int} {e : Evt} (h : optAt L r k = some e) : e ∈ r.options := by
  unfold optAt at h
  split at h
  · split at h
    · rename_i x hx
      split at h
      · cases h; exact List.mem_of_getElem? hx
      · cases h
    · cases h
  · cases h
theorem opt_less {L1 L2 : Int} (hL : L1 ≤ L2) (r : Rep) (k : Int) : optAt L1 r k = (optAt L2 r k).filter fun e => decide (e.day < L1) := by
  unfold optAt
  split
  · cases r.options[k.toNat]? with
    | none => rfl
    | some e =>
      simp only
      by_cases h : e.day < L1
      · rw [if_pos h, if_pos (by omega)]; simp [Option.filter, h]
      · rw [if_neg h]
        split
        · simp [Option.filter, h]
        · rfl
  · rfl
theorem false_mono {c : List Kind} {l : List Rep} {ch : List Int} {a b : Nat} (hg : givenF c l ch 0 = true) (hs : ∀ i, b.testBit i = true → a.testBit i = true) (h : falseF c l (openF ch a) = true) : falseF c l (openF ch b) = true := by
  have hl := (given_all hg).1
  have ga := given_open hg a
  have gb := given_open hg b
  have la : (openF ch a).length = l.length := by rw [openF_len, hl]
  have lb : (openF ch b).length = l.length := by rw [openF_len, hl]
  unfold falseF at h ⊢
  rw [if_neg (by rw [ga]; decide)] at h
  rw [if_neg (by rw [gb]; decide)]
  simp only [Bool.not_eq_true', decide_eq_false_iff_not] at h ⊢
  have hL : leastF (openDays l (openF ch a) l.length) ≤ leastF (openDays l (openF ch b) l.length) := by
    refine least_ge _ _ _ (least_le _ _).1 fun d hd => ?_
    refine (least_le _ _).2 d ?_
    rw [mem_open lb] at hd
    obtain ⟨i, h1, h2, hc, e, he, rfl⟩ := hd
    refine (mem_open la).2 ⟨i, h1, by omega, ?_, e, he, rfl⟩
    rw [open_at] at hc ⊢
    have h0 := given_at hg h1 (by omega)
    split at hc
    · rename_i hb
      rw [if_pos (hs i hb)]; omega
    · omega
  refine follow_less (ch1 := openF ch a) (pick_filt la lb (fun i h1 h2 h3 => ?_) _ (Nat.le_refl _)) h
  rw [open_at, open_at]
  by_cases ha : a.testBit i = true
  · rw [if_pos ha]
    by_cases hb : b.testBit i = true
    · rw [if_pos hb]; rfl
    · rw [if_neg hb]
      cases hq : optAt (leastF (openDays l (openF ch b) l.length)) l[i] (ch[i]'(by omega)) with
      | none => rfl
      | some e =>
        have h4 : leastF (openDays l (openF ch a) l.length) ≤ e.day := by
          refine (least_le _ _).2 _ ((mem_open la).2 ⟨i, h1, h2, ?_, e, opt_some hq, rfl⟩)
          rw [open_at, if_pos ha]; omega
        have h5 : ¬ e.day < leastF (openDays l (openF ch a) l.length) := by omega
        simp [optAt, Option.filter, h5]
  · have hb : ¬ b.testBit i = true := fun hb => ha (hs i hb)
    rw [if_neg ha, if_neg hb]
    exact opt_less hL _ _
theorem open_none (ch : List Int) : openF ch 0 = ch := by
  refine List.ext_getElem (openF_len ch 0) fun i h1 h2 => ?_
  rw [open_at]; simp
theorem false_is {c : List Kind} {l : List Rep} {ch : List Int} (hg : givenF c l ch 0 = true) : falseF c l ch = !isF c l ch := by
  have hl := (given_all hg).1
  have h0 : openDays l ch l.length = [] := by
    rw [List.eq_nil_iff_forall_not_mem]
    intro d hd
    obtain ⟨i, h1, h2, hc, _⟩ := (mem_open hl).1 hd
    have := given_at hg h1 h2
    omega
  rw [falseF, if_neg (by rw [given_less hg]; decide), isF, failsF, if_neg (by rw [hg]; decide), h0]
  rfl
theorem false_not {c : List Kind} {l : List Rep} {ch : List Int} (hg : givF c l = false) : falseF c l ch = false := by
  rw [falseF, if_pos (giv_not hg)]
/-- the law -/
theorem law_f1 (c : List Kind) (l : List Rep) (raw : List UInt8) (a b : Nat) : (!falseF c l (openF (fitF l raw) (a ||| b)) || falseF c l (openF (fitF l raw) a)) = true := by
  cases hg : givF c l with
  | false => rw [false_not hg]; rfl
  | true =>
    cases h : falseF c l (openF (fitF l raw) (a ||| b)) with
    | false => rfl
    | true => rw [false_mono (giv_fit hg) (fun i hi => by rw [Nat.testBit_or, hi]; rfl) h]; rfl
theorem law_f2 (c : List Kind) (l : List Rep) (raw : List UInt8) (a : Nat) : (!falseF c l (openF (fitF l raw) a) || falseF c l (fitF l raw)) = true := by
  cases hg : givF c l with
  | false => rw [false_not hg]; rfl
  | true =>
    cases h : falseF c l (openF (fitF l raw) a) with
    | false => rfl
    | true =>
      have := false_mono (b := 0) (giv_fit hg) (fun i hi => by simp at hi) h
      rw [open_none] at this
      rw [this]; rfl
theorem law_f3 (c : List Kind) (l : List Rep) (raw : List UInt8) : falseF c l (fitF l raw) = (givF c l && !isF c l (fitF l raw)) := by
  cases hg : givF c l with
  | false => rw [false_not hg]; rfl
  | true => rw [false_is (giv_fit hg)]; rfl
end Go.Sx

/- The events that are picked, without the reports' places. -/
set_option linter.all false
namespace Go.Sx
open Go
/-- the events that are picked before a day -/
def pickE (day : Int) (l : List Rep) (ch : List Int) : List Evt := (l.zip ch).filterMap fun p => optAt day p.1 p.2
theorem pickE_take (day : Int) (l : List Rep) (ch : List Int) (hl : ch.length = l.length) (hv : ∀ r ∈ l, validRep r = true) : ∀ n, n ≤ l.length → (pickF day l ch n).map Pkd.e = ((l.zip ch).take n).filterMap fun p => optAt day p.1 p.2 := by
  intro n
  induction n with
  | zero => intro _; rfl
  | succ n ih =>
    intro hn
    have h1 : n < l.length := by omega
    have h2 : n < ch.length := by omega
    have h3 : n < (l.zip ch).length := by simp; omega
    rw [pick_succ, List.map_append, ih (by omega), ← take_succ_of h3, List.filterMap_append]
    congr 1
    have e : (l.zip ch)[n] = (l[n], ch[n]) := by simp
    rw [e, pkd, at2_eq h1 h2]
    cases hq : optAt day l[n] ch[n] with
    | none => simp [hq]
    | some x =>
      have hd := validE_day (validRep_e (hv _ (List.getElem_mem h1)) x (opt_some hq))
      simp [hq, hd]
theorem pickE_eq {day : Int} {l : List Rep} {ch : List Int} (hl : ch.length = l.length) (hv : ∀ r ∈ l, validRep r = true) : (pickF day l ch l.length).map Pkd.e = pickE day l ch := by
  rw [pickE_take day l ch hl hv l.length (Nat.le_refl _), pickE, List.take_of_length_le (by simp; omega)]
/-- whether it is possible depends on the events alone -/
theorem follow_ev {c : List Kind} {l : List Rep} {ch : List Int} {day : Int} (hl : ch.length = l.length) (hv : ∀ r ∈ l, validRep r = true) : decide ((followF c l ch day).2 = 0) = (runsTo c [] (sortF (pickE day l ch))).isSome := by
  rw [followF, follow_ok, sortF_map Pkd.e (fun _ => rfl), pickE_eq hl hv]
/-- without the element at an index -/
def cutAt {α : Type} (l : List α) (k : Nat) : List α := l.take k ++ l.drop (k + 1)
theorem cutAt_len {α : Type} {l : List α} {k : Nat} (h : k < l.length) : (cutAt l k).length + 1 = l.length := by
  simp only [cutAt, List.length_append, List.length_take, List.length_drop]; omega
theorem cutAt_mem {α : Type} {l : List α} {k : Nat} {x : α} (h : x ∈ cutAt l k) : x ∈ l := by
  rcases List.mem_append.1 h with h | h
  · exact List.mem_of_mem_take h
  · exact List.mem_of_mem_drop h
theorem cut_whole {α : Type} {l : List α} {k : Nat} (h : k < l.length) : l = l.take k ++ l[k] :: l.drop (k + 1) := by
  rw [← List.drop_eq_getElem_cons h, List.take_append_drop]
theorem zip_cut {day : Int} {l : List Rep} {ch : List Int} {k : Nat} (hl : ch.length = l.length) (h1 : k < l.length) (h2 : k < ch.length) (h : optAt day l[k] ch[k] = none) : pickE day (cutAt l k) (cutAt ch k) = pickE day l ch := by
  have e1 : (l.take k).length = (ch.take k).length := by simp; omega
  conv => rhs; rw [cut_whole h1, cut_whole h2]
  unfold pickE cutAt
  rw [List.zip_append e1, List.zip_append e1, List.filterMap_append, List.filterMap_append, List.zip_cons_cons, List.filterMap_cons, h]
theorem allTo_zip {f : Rep → Int → Bool} {l : List Rep} {ch : List Int} (hl : ch.length = l.length) : allTo f l ch l.length = (l.zip ch).all fun p => f p.1 p.2 := by
  rw [Bool.eq_iff_iff, List.all_eq_true]
  constructor
  · intro h p hp
    obtain ⟨i, hi, rfl⟩ := List.getElem_of_mem hp
    have hi' : i < l.length := by simp at hi; omega
    have := allTo_at h hi' hi' (by omega)
    simpa using this
  · intro h
    refine allTo_of (fun i h1 h2 => ?_) hl
    have h3 : i < (l.zip ch).length := by simp; omega
    have := h _ (List.getElem_mem h3)
    simpa using this
theorem all_cut {f : Rep → Int → Bool} {l : List Rep} {ch : List Int} {k : Nat} (hl : ch.length = l.length) (h1 : k < l.length) (h2 : k < ch.length) (h : f l[k] ch[k] = true) : ((cutAt l k).zip (cutAt ch k)).all (fun p => f p.1 p.2) = (l.zip ch).all fun p => f p.1 p.2 := by
  have e1 : (l.take k).length = (ch.take k).length := by simp; omega
  conv => rhs; rw [cut_whole h1, cut_whole h2]
  unfold cutAt
  rw [List.zip_append e1, List.zip_append e1, List.all_append, List.all_append, List.zip_cons_cons, List.all_cons, h, Bool.true_and]
theorem given_cut {c : List Kind} {l : List Rep} {ch : List Int} {k : Nat} {n : Int} (hl : ch.length = l.length) (h1 : k < l.length) (h2 : k < ch.length) (h : chFine n l[k] ch[k] = true) : givenF c (cutAt l k) (cutAt ch k) n = givenF c l ch n := by
  have e1 := cutAt_len h1
  have e2 := cutAt_len h2
  have e3 : (cutAt ch k).length = (cutAt l k).length := by omega
  simp only [givenF]
  rw [allTo_zip e3, allTo_zip hl, all_cut hl h1 h2 h]
  simp [hl, e3]
theorem open_take (l : List Rep) (ch : List Int) (hl : ch.length = l.length) : ∀ n, n ≤ l.length → openDays l ch n = ((l.zip ch).take n).flatMap fun p => if p.2 < 0 then p.1.options.map Evt.day else [] := by
  intro n
  induction n with
  | zero => intro _; rfl
  | succ n ih =>
    intro hn
    have h1 : n < l.length := by omega
    have h2 : n < ch.length := by omega
    have h3 : n < (l.zip ch).length := by simp; omega
    rw [open_succ, ih (by omega), ← take_succ_of h3, List.flatMap_append]
    congr 1
    have e : (l.zip ch)[n] = (l[n], ch[n]) := by simp
    rw [e, at2_eq h1 h2]
    simp
theorem open_zip {l : List Rep} {ch : List Int} (hl : ch.length = l.length) : openDays l ch l.length = (l.zip ch).flatMap fun p => if p.2 < 0 then p.1.options.map Evt.day else [] := by
  rw [open_take l ch hl l.length (Nat.le_refl _), List.take_of_length_le (by simp; omega)]
theorem open_cut {l : List Rep} {ch : List Int} {k : Nat} (hl : ch.length = l.length) (h1 : k < l.length) (h2 : k < ch.length) (h : ¬ ch[k] < 0) : openDays (cutAt l k) (cutAt ch k) (cutAt l k).length = openDays l ch l.length := by
  have e1 := cutAt_len h1
  have e2 := cutAt_len h2
  have e3 : (l.take k).length = (ch.take k).length := by simp; omega
  rw [open_zip (by omega), open_zip hl]
  conv => rhs; rw [cut_whole h1, cut_whole h2]
  unfold cutAt
  rw [List.zip_append e3, List.zip_append e3, List.flatMap_append, List.flatMap_append, List.zip_cons_cons, List.flatMap_cons, if_neg h, List.nil_append]
theorem is_ev {c : List Kind} {l : List Rep} {ch : List Int} (hg : givenF c l ch 0 = true) : isF c l ch = (runsTo c [] (sortF (pickE 40001 l ch))).isSome := by
  obtain ⟨hl, hv⟩ := given_all hg
  rw [isF, failsF, if_neg (by rw [hg]; decide), follow_ev hl hv]
theorem is_no {c : List Kind} {l : List Rep} {ch : List Int} (hg : givenF c l ch 0 = false) : isF c l ch = false := by
  rw [isF, failsF, if_pos hg]; rfl
theorem is_cut {c : List Kind} {l : List Rep} {ch : List Int} {k : Nat} (hl : ch.length = l.length) (h1 : k < l.length) (h2 : k < ch.length) (hf : chFine 0 l[k] ch[k] = true) (hn : ∀ day, optAt day l[k] ch[k] = none) : isF c (cutAt l k) (cutAt ch k) = isF c l ch := by
  have e := given_cut (c := c) hl h1 h2 hf
  cases hg : givenF c l ch 0 with
  | false => rw [is_no hg, is_no (by rw [e, hg])]
  | true => rw [is_ev hg, is_ev (by rw [e, hg]), zip_cut hl h1 h2 (hn _)]
theorem false_cut {c : List Kind} {l : List Rep} {ch : List Int} {k : Nat} (hl : ch.length = l.length) (h1 : k < l.length) (h2 : k < ch.length) (hf : chFine (-1) l[k] ch[k] = true) (h0 : ¬ ch[k] < 0) (hn : ∀ day, optAt day l[k] ch[k] = none) : falseF c (cutAt l k) (cutAt ch k) = falseF c l ch := by
  have e := given_cut (c := c) hl h1 h2 hf
  cases hg : givenF c l ch (-1) with
  | false =>
    have hg2f : givenF c (cutAt l k) (cutAt ch k) (-1) = false := by rw [e, hg]
    rw [falseF, falseF, if_pos hg2f, if_pos hg]
  | true =>
    obtain ⟨_, hv⟩ := given_all hg
    have hg2 : givenF c (cutAt l k) (cutAt ch k) (-1) = true := by rw [e, hg]
    obtain ⟨hl2, hv2⟩ := given_all hg2
    rw [falseF, falseF, if_neg (by rw [hg2]; decide), if_neg (by rw [hg]; decide), open_cut hl h1 h2 h0, follow_ev hl hv, follow_ev hl2 hv2, zip_cut hl h1 h2 (hn _)]
theorem sort_swap {α : Type} [Day α] (A B : List α) (x y : α) (h : Day.day x ≠ Day.day y) : sortF (A ++ y :: x :: B) = sortF (A ++ x :: y :: B) := by
  refine sortF_is ⟨?_, fun d => ?_⟩ (sortF_srt _)
  · rw [sortF_len]; simp
  · rw [sortF_filter, List.filter_append, List.filter_append]
    congr 1
    simp only [List.filter_cons]
    by_cases hx : Day.day x = d
    · have hy : ¬ Day.day y = d := fun e => h (hx.trans e.symm)
      simp [hx, hy]
    · simp [hx]
/-! the law -/
theorem none_opt (r : Rep) (day : Int) : optAt day r ((r.options.length : Nat) : Int) = none := by
  unfold optAt
  rw [if_pos (by omega), Int.toNat_natCast, List.getElem?_eq_none (Nat.le_refl _)]
theorem none_fine {r : Rep} (hv : validRep r = true) (hd : r.doubtful = true) {n : Int} (hn : n ≤ 0) : chFine n r ((r.options.length : Nat) : Int) = true := by
  simp only [chFine, chs, hv, hd, Bool.true_eq_false, if_true, if_false, Bool.not_eq_true', Bool.or_eq_false_iff, decide_eq_false_iff_not]
  omega
theorem law_none_is {c : List Kind} {l : List Rep} {ch : List Int} {k : Nat} (hl : ch.length = l.length) (h1 : k < l.length) (h2 : k < ch.length) (hv : validRep l[k] = true) (hd : l[k].doubtful = true) (he : ch[k] = ((l[k].options.length : Nat) : Int)) :
    (isF c l ch == isF c (cutAt l k) (cutAt ch k)) = true := by
  rw [is_cut hl h1 h2 (by rw [he]; exact none_fine hv hd (by omega)) (fun day => by rw [he]; exact none_opt _ _)]; simp
theorem law_none_false {c : List Kind} {l : List Rep} {ch : List Int} {k : Nat} (hl : ch.length = l.length) (h1 : k < l.length) (h2 : k < ch.length) (hv : validRep l[k] = true) (hd : l[k].doubtful = true) (he : ch[k] = ((l[k].options.length : Nat) : Int)) :
    (falseF c l ch == falseF c (cutAt l k) (cutAt ch k)) = true := by
  rw [false_cut hl h1 h2 (by rw [he]; exact none_fine hv hd (by omega)) (by rw [he]; omega) (fun day => by rw [he]; exact none_opt _ _)]; simp
end Go.Sx

/- Searching: all choices, in order; what is false has no history. -/
set_option linter.all false
namespace Go.Sx
open Go
/-- the choices of a list of reports, in order -/
def allCh : List Rep → List (List Int)
  | [] => [[]]
  | r :: l => (List.range (chs r).toNat).flatMap fun (k : Nat) => (allCh l).map fun t => (k : Int) :: t
/-- the histories -/
def histF (c : List Kind) (l : List Rep) : List (List Int) := (allCh l).filter (isF c l)
theorem all_mem : ∀ {l : List Rep} {t : List Int}, t ∈ allCh l ↔ t.length = l.length ∧ ∀ i (h1 : i < l.length) (h2 : i < t.length), 0 ≤ t[i] ∧ t[i] < chs l[i]
  | [], t => by
    simp only [allCh, List.mem_singleton, List.length_nil]
    constructor
    · rintro rfl; exact ⟨rfl, fun i h => absurd h (Nat.not_lt_zero i)⟩
    · rintro ⟨h, _⟩; exact List.eq_nil_of_length_eq_zero h
  | r :: l, t => by
    simp only [allCh, List.mem_flatMap, List.mem_range, List.mem_map]
    constructor
    · rintro ⟨k, hk, s, hs, rfl⟩
      obtain ⟨h1, h2⟩ := all_mem.1 hs
      refine ⟨by simp [h1], fun i h3 h4 => ?_⟩
      cases i with
      | zero => simp only [List.getElem_cons_zero]; omega
      | succ i => simpa using h2 i (by simpa using h3) (by simpa using h4)
    · rintro ⟨h1, h2⟩
      cases t with
      | nil => simp at h1
      | cons x s =>
        have h0 := h2 0 (by simp) (by simp)
        simp only [List.getElem_cons_zero] at h0
        refine ⟨x.toNat, by omega, s, all_mem.2 ⟨by simpa using h1, fun i h3 h4 => ?_⟩, by rw [Int.toNat_of_nonneg h0.1]⟩
        exact h2 (i + 1) (by simpa using h3) (by simpa using h4)
/-- choices that open ones stand for are no more open -/
theorem false_more {c : List Kind} {l : List Rep} {ch1 ch2 : List Int} (g1 : givenF c l ch1 (-1) = true) (g2 : givenF c l ch2 (-1) = true) (hs : ∀ i (h1 : i < ch1.length) (h2 : i < ch2.length), ch1[i] = ch2[i] ∨ ch1[i] < 0) (h : falseF c l ch1 = true) : falseF c l ch2 = true := by
  have la := (given_all g1).1
  have lb := (given_all g2).1
  unfold falseF at h ⊢
  rw [if_neg (by rw [g1]; decide)] at h
  rw [if_neg (by rw [g2]; decide)]
  simp only [Bool.not_eq_true', decide_eq_false_iff_not] at h ⊢
  have hL : leastF (openDays l ch1 l.length) ≤ leastF (openDays l ch2 l.length) := by
    refine least_ge _ _ _ (least_le _ _).1 fun d hd => ?_
    refine (least_le _ _).2 d ?_
    rw [mem_open lb] at hd
    obtain ⟨i, h1, h2, hc, e, he, rfl⟩ := hd
    refine (mem_open la).2 ⟨i, h1, by omega, ?_, e, he, rfl⟩
    rcases hs i (by omega) h2 with h3 | h3
    · rw [h3]; exact hc
    · exact h3
  refine follow_less (pick_filt la lb (fun i h1 h2 h3 => ?_) _ (Nat.le_refl _)) h
  rcases hs i h2 h3 with h4 | h4
  · rw [h4]; exact opt_less hL _ _
  · have e1 : optAt (leastF (openDays l ch1 l.length)) l[i] ch1[i] = none := by unfold optAt; rw [if_neg (by omega)]
    rw [e1]
    cases hq : optAt (leastF (openDays l ch2 l.length)) l[i] ch2[i] with
    | none => rfl
    | some e =>
      have h5 : leastF (openDays l ch1 l.length) ≤ e.day := (least_le _ _).2 _ ((mem_open la).2 ⟨i, h1, h2, h4, e, opt_some hq, rfl⟩)
      have h6 : ¬ e.day < leastF (openDays l ch1 l.length) := by omega
      simp [Option.filter, h6]
/-- what is not decided yet -/
def openT (rs : List Rep) : List Int := rs.map fun r => if 1 < chs r then -1 else 0
/-- the histories that begin with some choices -/
def resF (c : List Kind) (l : List Rep) (pre : List Int) (rs : List Rep) : List (List Int) := ((allCh rs).map (pre ++ ·)).filter (isF c l)
theorem res_nil (c : List Kind) (l : List Rep) (pre : List Int) : resF c l pre [] = if isF c l pre = true then [pre] else [] := by
  simp only [resF, allCh, List.map_cons, List.map_nil, List.append_nil, List.filter_cons, List.filter_nil]
theorem res_cons (c : List Kind) (l : List Rep) (pre : List Int) (r : Rep) (rs : List Rep) : resF c l pre (r :: rs) = (List.range (chs r).toNat).flatMap fun (k : Nat) => resF c l (pre ++ [(k : Int)]) rs := by
  simp only [resF, allCh, List.map_flatMap, List.filter_flatMap, List.map_map]
  congr 1
  funext k
  congr 2
  funext t
  simp
theorem res_one {c : List Kind} {l : List Rep} {pre : List Int} {r : Rep} {rs : List Rep} (h : chs r = 1) : resF c l pre (r :: rs) = resF c l (pre ++ [0]) rs := by
  rw [res_cons, h]; simp
theorem hist_res (c : List Kind) (l : List Rep) : histF c l = resF c l [] l := by
  simp [histF, resF]
/-- choices that are decided, and open ones behind them -/
structure Mid (c : List Kind) (l : List Rep) (pre : List Int) (rs : List Rep) : Prop where
  cat : validC c = true
  pos : ∀ r ∈ l, chs r ≠ 0
  is : ∃ a, l = a ++ rs ∧ pre.length = a.length ∧ ∀ i (h1 : i < a.length) (h2 : i < pre.length), 0 ≤ pre[i] ∧ pre[i] < chs a[i]
theorem chs_nn (r : Rep) : 0 ≤ chs r := by
  unfold chs; split
  · omega
  · split <;> omega
theorem mid_start {c : List Kind} {l : List Rep} (hc : validC c = true) (hp : ∀ r ∈ l, chs r ≠ 0) : Mid c l [] l := ⟨hc, hp, [], rfl, rfl, fun i h => absurd h (Nat.not_lt_zero i)⟩
theorem Mid.next {c : List Kind} {l : List Rep} {pre : List Int} {r : Rep} {rs : List Rep} (h : Mid c l pre (r :: rs)) {k : Int} (h0 : 0 ≤ k) (hk : k < chs r) : Mid c l (pre ++ [k]) rs := by
  obtain ⟨a, e1, e2, e3⟩ := h.is
  refine ⟨h.cat, h.pos, a ++ [r], by rw [e1]; simp, by simp [e2], fun i h1 h2 => ?_⟩
  by_cases hi : i < a.length
  · rw [List.getElem_append_left hi, List.getElem_append_left (by omega)]
    exact e3 i hi (by omega)
  · have : i = a.length := by simp at h1; omega
    subst this
    simp [← e2, h0, hk]
theorem Mid.len {c : List Kind} {l : List Rep} {pre : List Int} {rs : List Rep} (h : Mid c l pre rs) : pre.length + rs.length = l.length := by
  obtain ⟨a, e1, e2, _⟩ := h.is
  rw [e1, List.length_append, e2]
theorem Mid.given {c : List Kind} {l : List Rep} {pre : List Int} {rs : List Rep} (h : Mid c l pre rs) {t : List Int} (ht : t.length = rs.length) {n : Int} (hn : n ≤ 0) (hb : ∀ i (h1 : i < rs.length) (h2 : i < t.length), n ≤ t[i] ∧ t[i] < chs rs[i]) : givenF c l (pre ++ t) n = true := by
  obtain ⟨a, e1, e2, e3⟩ := h.is
  refine given_mk h.cat (by rw [List.length_append, ht]; exact h.len) fun i h1 h2 => ?_
  refine ⟨h.pos _ (List.getElem_mem h1), ?_⟩
  subst e1
  by_cases hi : i < a.length
  · rw [List.getElem_append_left hi, List.getElem_append_left (by omega)]
    have := e3 i hi (by omega)
    omega
  · rw [List.length_append] at h1
    rw [List.getElem_append_right (by omega), List.getElem_append_right (by omega)]
    have := hb (i - a.length) (by omega) (by omega)
    simpa [e2] using this
theorem Mid.given_open {c : List Kind} {l : List Rep} {pre : List Int} {rs : List Rep} (h : Mid c l pre rs) : givenF c l (pre ++ openT rs) (-1) = true := by
  refine h.given (by simp [openT]) (by omega) fun i h1 h2 => ?_
  have hp := h.pos rs[i] (by obtain ⟨a, e1, _⟩ := h.is; rw [e1]; exact List.mem_append_right _ (List.getElem_mem h1))
  have := chs_nn rs[i]
  simp only [openT, List.getElem_map]
  split <;> omega
theorem res_prune {c : List Kind} {l : List Rep} {pre : List Int} {rs : List Rep} (h : Mid c l pre rs) (hf : falseF c l (pre ++ openT rs) = true) : resF c l pre rs = [] := by
  rw [resF, List.filter_eq_nil_iff]
  intro x hx
  obtain ⟨t, ht, rfl⟩ := List.mem_map.1 hx
  obtain ⟨h1, h2⟩ := all_mem.1 ht
  have g0 : givenF c l (pre ++ t) 0 = true := h.given h1 (Int.le_refl _) h2
  have g1 := given_less g0
  have hl := (given_all h.given_open).1
  have := false_more h.given_open g1 (fun i h3 h4 => by
    by_cases hi : i < pre.length
    · left; rw [List.getElem_append_left hi, List.getElem_append_left hi]
    · rw [List.getElem_append_right (by omega), List.getElem_append_right (by omega)]
      have h5 : i - pre.length < rs.length := by simp [openT] at h3; omega
      have := h2 (i - pre.length) h5 (by omega)
      simp only [openT, List.getElem_map]
      split
      · right; omega
      · left; omega) hf
  rw [false_is g0] at this
  simpa using this
end Go.Sx

/- Searching: what the functions answer, and the plain laws of them. -/
set_option linter.all false
namespace Go.Sx
open Go
def dbtF (l : List Rep) : Nat := (l.filter fun r => decide (1 < chs r)).length
/-- the error of a catalog and reports -/
def errF (c : List Kind) (l : List Rep) : Int := if validC c = false then 1 else if l.any (fun r => decide (chs r = 0)) = true then 1 else if (30 : Int) < (dbtF l : Nat) then 7 else 0
def allF (c : List Kind) (l : List Rep) (most : Int) : List (List Int) × Int :=
  if (decide (most < 1) || decide (4096 < most)) = true then ([], 1) else if errF c l ≠ 0 then ([], errF c l) else if (histF c l).take most.toNat = [] then ([], 21) else ((histF c l).take most.toNat, 0)
def firstF (c : List Kind) (l : List Rep) : List Int × Int := if (allF c l 1).2 ≠ 0 then ([], (allF c l 1).2) else ((allF c l 1).1.headD [], 0)
def countF (c : List Kind) (l : List Rep) (most : Int) : Int × Int := if (allF c l most).2 = 21 then (0, 0) else (((allF c l most).1.length : Nat), (allF c l most).2)
theorem err_zero {c : List Kind} {l : List Rep} (h : errF c l = 0) : validC c = true ∧ ∀ r ∈ l, chs r ≠ 0 := by
  unfold errF at h
  split at h
  · cases h
  · rename_i hc
    split at h
    · cases h
    · rename_i ha
      exact ⟨by simpa using hc, fun r hr h0 => ha (List.any_eq_true.2 ⟨r, hr, by simp [h0]⟩)⟩
theorem all_given {c : List Kind} {l : List Rep} (hc : validC c = true) (hp : ∀ r ∈ l, chs r ≠ 0) (t : List Int) : givenF c l t 0 = true ↔ t ∈ allCh l := by
  rw [all_mem]
  constructor
  · intro h
    exact ⟨(given_all h).1, fun i h1 h2 => by have := given_at h h1 h2; omega⟩
  · rintro ⟨h1, h2⟩
    exact given_mk hc h1 fun i h3 h4 => ⟨hp _ (List.getElem_mem h3), h2 i h3 h4⟩
theorem is_given {c : List Kind} {l : List Rep} {t : List Int} (h : isF c l t = true) : givenF c l t 0 = true := by
  cases hg : givenF c l t 0 with
  | true => rfl
  | false => rw [is_no hg] at h; cases h
theorem hist_mem {c : List Kind} {l : List Rep} (t : List Int) : t ∈ histF c l ↔ isF c l t = true := by
  rw [histF, List.mem_filter]
  constructor
  · exact fun h => h.2
  · intro h
    have hg := is_given h
    refine ⟨?_, h⟩
    exact (all_given (given_cat hg) (fun r hr h0 => by
      obtain ⟨i, hi, rfl⟩ := List.getElem_of_mem hr
      exact (given_at hg hi (by have := (given_all hg).1; omega)).1 h0) t).1 hg
/-! the order -/
/-- whether choices come before others -/
def befF : List Int → List Int → Bool
  | x :: a, y :: b => if x = y then befF a b else decide (x < y)
  | _, _ => false
theorem bef_cons (x : Int) (a b : List Int) : befF (x :: a) (x :: b) = befF a b := by simp [befF]
theorem all_srt : ∀ l : List Rep, (allCh l).Pairwise fun a b => befF a b = true
  | [] => by simp [allCh]
  | r :: l => by
    rw [allCh, List.pairwise_flatMap]
    refine ⟨fun k _ => ?_, ?_⟩
    · rw [List.pairwise_map]
      exact (all_srt l).imp fun {a b} h => by rw [bef_cons]; exact h
    · refine List.pairwise_lt_range.imp fun {i j} hij x hx y hy => ?_
      obtain ⟨s, _, rfl⟩ := List.mem_map.1 hx
      obtain ⟨t, _, rfl⟩ := List.mem_map.1 hy
      have : ¬ (i : Int) = (j : Int) := by omega
      simp [befF, this]; omega
theorem hist_srt (c : List Kind) (l : List Rep) : (histF c l).Pairwise fun a b => befF a b = true := (all_srt l).sublist List.filter_sublist
/-! how many -/
def waysN : List Rep → Nat
  | [] => 1
  | r :: l => (chs r).toNat * waysN l
theorem all_len : ∀ l : List Rep, (allCh l).length = waysN l
  | [] => rfl
  | r :: l => by
    rw [allCh, List.length_flatMap, waysN]
    simp only [List.length_map, all_len l]
    rw [List.map_const', List.sum_replicate_nat, List.length_range]
theorem hist_len (c : List Kind) (l : List Rep) : (histF c l).length ≤ waysN l := by
  rw [← all_len]; exact List.length_filter_le _ _
theorem take_all {α : Type} {l : List α} {n : Nat} (h : l.length ≤ n) : l.take n = l := List.take_of_length_le h
/-- the answer of All where it is none of the limits -/
theorem all_is {c : List Kind} {l : List Rep} {most : Int} (h1 : 1 ≤ most) (h2 : most ≤ 4096) (he : errF c l = 0) : allF c l most = if (histF c l).take most.toNat = [] then ([], 21) else ((histF c l).take most.toNat, 0) := by
  unfold allF
  rw [if_neg (by simp; omega), if_neg (by simp [he])]
theorem all_err {c : List Kind} {l : List Rep} {most : Int} (h1 : 1 ≤ most) (h2 : most ≤ 4096) (he : errF c l ≠ 0) : allF c l most = ([], errF c l) := by
  unfold allF
  rw [if_neg (by simp; omega), if_pos he]
theorem all_code {c : List Kind} {l : List Rep} {most : Int} (h1 : 1 ≤ most) (h2 : most ≤ 4096) : (allF c l most).2 = if errF c l ≠ 0 then errF c l else if histF c l = [] then 21 else 0 := by
  by_cases he : errF c l = 0
  · rw [all_is h1 h2 he, if_neg (show ¬ (errF c l ≠ 0) by simp [he])]
    have : (histF c l).take most.toNat = [] ↔ histF c l = [] := by
      rw [List.take_eq_nil_iff]
      constructor
      · rintro (h | h)
        · omega
        · exact h
      · exact .inr
    by_cases hh : histF c l = []
    · rw [if_pos (this.2 hh), if_pos hh]
    · rw [if_neg (fun h => hh (this.1 h)), if_neg hh]
  · rw [all_err h1 h2 he, if_pos he]
theorem all_list {c : List Kind} {l : List Rep} {most : Int} (h1 : 1 ≤ most) (h2 : most ≤ 4096) (he : errF c l = 0) : (allF c l most).1 = (histF c l).take most.toNat := by
  rw [all_is h1 h2 he]
  split
  · rename_i h; exact h.symm
  · rfl
theorem err_cases (c : List Kind) (l : List Rep) : errF c l = 0 ∨ errF c l = 1 ∨ errF c l = 7 := by
  unfold errF
  split
  · simp
  · split
    · simp
    · split <;> simp
theorem err_few {c : List Kind} {l : List Rep} (hl : l.length ≤ 30) : errF c l ≠ 7 := by
  unfold errF
  split
  · decide
  · split
    · decide
    · rw [if_neg (by
        have : dbtF l ≤ l.length := List.length_filter_le _ _
        omega)]
      decide
theorem err_is {c : List Kind} {l : List Rep} {t : List Int} (hl : l.length ≤ 30) (he : errF c l ≠ 0) : isF c l t = false := by
  cases h : isF c l t with
  | false => rfl
  | true =>
    have hg := is_given h
    refine absurd ?_ he
    unfold errF
    rw [if_neg (by rw [given_cat hg]; decide), if_neg, if_neg (by
        have : dbtF l ≤ l.length := List.length_filter_le _ _
        omega)]
    rw [List.any_eq_true]
    rintro ⟨r, hr, h0⟩
    obtain ⟨i, hi, rfl⟩ := List.getElem_of_mem hr
    exact (given_at hg hi (by have := (given_all hg).1; omega)).1 (by simpa using h0)
end Go.Sx

/- Deferred calls of closures. -/
set_option linter.all false
namespace Go.Sx
open Go
/-- behind a region whose last operation defers a call -/
def DefN (P : Program) (o : Oper) (Q : Exit → Act → World → Prop) : Exit → Act → World → Prop
  | .normal, a, w => ∃ d, (execOp a.eval o).run P w = .ok (.defer d) w ∧ Q .normal { a with defers := d :: a.defers } w
  | e, a, w => Q e a w
theorem wpL_inD {P : Program} {ops : Array Oper} {Q : Exit → Act → World → Prop} {o : Oper} (hn : o.dst = none) (hg : o.guard = none) : ∀ (l : List Oper) (a : Act) (w : World), wpL P ops (DefN P o Q) l a w → wpListIn (fen none) 0 P ops Q (l ++ [o]) a w
  | [], a, w, h => by
    obtain ⟨d, h1, h2⟩ : ∃ d, (execOp a.eval o).run P w = .ok (.defer d) w ∧ Q .normal { a with defers := d :: a.defers } w := h
    show wpListIn (fen none) 0 P ops Q [o] a w
    unfold wpListIn
    rw [if_pos (by simp [Region.wanted, hg])]
    refine ⟨fun _ _ => trivial, ?_⟩
    have e : Oper.semAt (fen none).round a.eval o = execOp a.eval o := rfl
    rw [e, h1]
    show wpListIn (fen none) 0 P ops Q [] (Act.put { a with defers := d :: a.defers } o.dst undef) w
    rw [hn]
    exact h2
  | o' :: rest, a, w, h => by
    have h : one P ops (DefN P o Q) o' (wpL P ops (DefN P o Q) rest) a w := h
    have h : one P ops Q o' (wpListIn (fen none) 0 P ops Q (rest ++ [o])) a w := one_mono (fun a w h => wpL_inD hn hg rest a w h) h
    unfold one at h
    show wpListIn (fen none) 0 P ops Q (o' :: (rest ++ [o])) a w
    unfold wpListIn
    split
    · rename_i hw; rw [if_pos hw] at h; exact wq_wpIn h
    · rename_i hw; rw [if_neg hw] at h; exact ⟨fun _ _ => trivial, h⟩
/-- the contract of a closure that is called on the way out -/
structure FnDf (P : Program) (f : FuncId) (args : Array Value) (I : IMap) (H : List Res) (post : IMap → List Res → Prop) : Prop where
  go : ∀ w, Mem ⟨foots H, I, w⟩ I H w → CallsDIn Fence.wide 0 P f args .returning w fun e u w' => u = .returning ∧ ∃ v I' H', e = .returned v ∧ Mem ⟨foots H, I, w⟩ I' H' w' ∧ post I' H'
section
variable {P : Program} {ρ : Option Nat} {n : Sz} {E : Ent} {I : IMap} {L : LL} {H : List Res} {Q : Exit → Act → World → Prop} {ops : Array Oper}
variable {ty : Nat} {pos : String} {af : Array Edge} {fo : Operand} {as_ : List Operand} {ats : Array TypeId} {f : FuncId}
theorem c_region2D {id : Nat} {o1 o2 : Oper} (hn : o2.dst = none) (hg : o2.guard = none) (h : SX n E I L H (wpL P [o1, o2].toArray (DefN P o2 Q) [o1])) : SX n E I L H ((Code.region id [o1, o2].toArray false).wq none P Q) :=
  fun a w s m => wpIn_region_lit (wpL_inD (l := [o1]) hn hg _ _ (h a w s m))
theorem c_region1D {id : Nat} {o2 : Oper} (hn : o2.dst = none) (hg : o2.guard = none) (h : SX n E I L H (wpL P [o2].toArray (DefN P o2 Q) [])) : SX n E I L H ((Code.region id [o2].toArray false).wq none P Q) :=
  fun a w s m => wpIn_region_lit (wpL_inD (l := []) hn hg _ _ (h a w s m))
theorem q_defn {fs cs : Array Value} {vs : List Value} (hf : ev L fo = some (.func (.func f) fs cs)) (ha : evs L as_ = some vs)
    (h : SX ⟨n.sz, .f { target := .fn (.func f) cs, args := fs ++ vs.toArray } :: n.D⟩ E I L H (Q .normal)) : SX n E I L H (DefN P ⟨none, .defer { callee := .value fo, args := as_.toArray, argTypes := ats }, ty, pos, af, none⟩ Q .normal) := fun a w s m => by
  refine ⟨_, ?_, h { a with defers := _ } w ⟨s.size, by show _ :: a.defers = _; rw [s.defers]; rfl, s.get⟩ m⟩
  have e := evs_spec s as_ vs ha
  simp only [execOp, resolve, s.ev hf]
  simp [Deferred.ofValue, e, go_sem]
  rfl
theorem q_fdefer {k : Nat} {D : List Mk} {fn : Func} {R : Ending → World → Prop} {Hc H0 : List Res} {args cap : Array Value} {post : IMap → List Res → Prop} (hcall : ∀ (args : Array Value) (w : World), (callFunc f args).run P w = .ok (.enter f args) w)
    (hc : FnDf P f (args ++ cap) I Hc post) (kk : ∀ I' H', ILe I I' → post I' H' → SX ⟨k, D⟩ E I' L (H' ++ H0) (FinQ P fn R .ret)) :
    SX ⟨k, .f { target := .fn (.func f) cap, args := args } :: D⟩ E I L (Hc ++ H0) (FinQ P fn R .ret) := fun a w s m => by
  show LeavesInM Fence.wide 0 P fn a.tmps R a.defers .returning w
  rw [s.defers]
  refine ⟨by simp, .inr ⟨fun h => by simp [Fence.wide] at h, .func f, cap, f, args ++ cap, rfl, ?_, fun _ _ => trivial, CallsDIn.mono (hc.go w m.call) ?_⟩⟩
  · simp [invoke, go_sem, hcall, Mk.of]
  · rintro e u w' ⟨rfl, v, I', H', rfl, hm, hp⟩
    have := kk I' H' hm.mono hp { a with defers := (Sz.mk k D).marks } w' ⟨s.size, rfl, s.get⟩ (m.back hm)
    exact this
/-- its body -/
def FinD (P : Program) (fn : Func) (R : Ending → World → Prop) : Exit → Act → World → Prop := bodyPost P fn R
theorem enterD {fn : Func} {c : Code} {args : List Value} {k : Nat} {post : IMap → List Res → Prop} (hf : P.funcs[f]? = some fn) (hb : fn.body = some c) (hn : fn.ntmps = k)
    (hl : Nat.ble args.length k = true) (h : ∀ w, SX ⟨k, []⟩ ⟨foots H, I, w⟩ I (argsL args 0) H (c.wq none P (FinD P fn (Post ⟨foots H, I, w⟩ fun _ I' H' => post I' H')))) : FnDf P f args.toArray I H post := by
  refine ⟨fun w m => ?_⟩
  refine CallsDIn.mono (callsDIn_of_wp (F := Fence.wide) hf hb trivial (h w _ _ ⟨?_, rfl, ?_⟩ m)) ?_
  · simp only [List.size_toArray, Array.size_append, Array.size_replicate, hn]
    have : args.length ≤ k := by simpa using hl
    omega
  · intro i v hv
    obtain ⟨_, h2⟩ := look_argsL args 0 i v hv
    have hlt : i < args.length := by
      rcases Nat.lt_or_ge i args.length with h | h
      · exact h
      · simp [List.getElem?_eq_none h] at h2
    rw [Array.getElem?_append_left (by simpa using hlt)]
    simpa using h2
  · rintro e u w' ⟨rfl, v, I', H', rfl, hm, hp⟩
    exact ⟨rfl, v, I', H', rfl, hm, hp⟩
theorem endD0 {k : Nat} {fn : Func} {R : Ending → World → Prop} (hf : fn.results = #[]) (h : SX ⟨k, []⟩ E I L H fun _ w => R (.returned (.tuple #[])) w) : SX ⟨k, []⟩ E I L H (FinD P fn R .normal) := fun a w s m =>
  ⟨by rw [s.defers]; rfl, _, run0 hf a w, h a w s m⟩
theorem finD0 {k : Nat} {fn : Func} {R : Ending → World → Prop} (hf : fn.results = #[]) (h : SX ⟨k, []⟩ E I L H fun _ w => R (.returned (.tuple #[])) w) : SX ⟨k, []⟩ E I L H (FinD P fn R .ret) := fun a w s m =>
  ⟨by rw [s.defers]; rfl, _, run0 hf a w, h a w s m⟩
end
end Go.Sx

/- A block that is lent to a callee that makes memory of its own; calls with a tail of resources. -/
set_option linter.all false
namespace Go.Sx
open Go
section
variable {P : Program} {ρ : Option Nat} {n : Sz} {E : Ent} {I : IMap} {L : LL} {H : List Res} {Q : Exit → Act → World → Prop} {ops : Array Oper} {K : Act → World → Prop}
variable {d ty : Nat} {pos : String} {af : Array Edge} {fo : Operand} {as : List Operand} {ats : Array TypeId} {f : FuncId} {args : List Value} {g t : Nat} {cs : List Value} {w : World}
theorem lend_ile (mm : Mem E I H w) (hm : Res.blk g t cs ∈ H) : ILe I (I.pub g (.cells cs.toArray t (0, 0))) := IMap.pub_le _ (mm.priv _ hm g rfl).1
theorem lend_cells : ICells (I.pub g (.cells cs.toArray t (0, 0))) g 0 cs := fun j u hu => ⟨_, t, (0, 0), IMap.pub_same _ _ _, by rw [Nat.zero_add]; simpa using hu⟩
theorem lend_mem (mm : Mem E I H w) (hm : Res.blk g t cs ∈ H) : Mem ⟨[], I.pub g (.cells cs.toArray t (0, 0)), w⟩ (I.pub g (.cells cs.toArray t (0, 0))) [] w :=
  ⟨Upd.refl _ _, fun b o hb => by
    have hg : w.heap[g]? = some (.cells cs.toArray t (0, 0)) := mm.holds _ hm
    unfold IMap.pub at hb
    split at hb
    · rename_i e; subst e; cases hb; exact hg
    · exact mm.con b o hb, ILe.refl _, fun b hb => .inl hb, fun _ h => (by cases h), fun _ h => (by cases h), List.nodup_nil⟩
/-- the callee reads the block, and makes memory that nobody keeps -/
theorem o_lendI {v : Value} (hm : Res.blk g t cs ∈ H) (hc : ∀ I2, ILe I I2 → ICells I2 g 0 cs → FnI P f args.toArray I2 fun u _ => u = v) (h : callArgs L fo as = some (f, args)) (hd : Nat.blt d n.sz = true)
    (kk : SX n E I ((d, v) :: L) H K) : SX n E I L H (one P ops Q ⟨some d, .call { callee := .value fo, args := as.toArray, argTypes := ats }, ty, pos, af, none⟩ K) := by
  intro a w s mm
  have h1 := (hc _ (lend_ile mm hm) lend_cells).go w (lend_mem mm hm)
  unfold one
  rw [if_pos (by rfl)]
  refine wq_after ?_
  unfold After at h1 ⊢
  rw [run_call s h ⟨some d, .call { callee := .value fo, args := as.toArray, argTypes := ats }, ty, pos, af, none⟩ rfl (ats := ats)]
  have key : ∀ e w'', Post ⟨[], (I.pub g (.cells cs.toArray t (0, 0))), w⟩ (fun u I' H' => u = v ∧ H' = []) e w'' → (match e with | .returned v => K (a.put (some d) v) w'' | _ => False) := by
    rintro e w'' ⟨u, I', H', rfl, hm', rfl, rfl⟩
    exact kk _ _ (s.put hd) (mm.other hm'.upd.os hm'.upd.tape hm'.upd.output hm'.upd.size (fun k hk => hm'.upd.block k hk (by simp)))
  split at h1
  · rename_i v w' hr; exact key _ _ h1
  · rename_i f' args' w' hr; exact Calls.mono h1 key
  · rename_i l f' tmps assign body w' hr; exact RoundIn.mono h1 key
  · exact h1.elim
/-- the callee reads the block, and gives something new -/
theorem o_lendX {p : Value → Res → Prop} (hm : Res.blk g t cs ∈ H) (hc : ∀ I2, ILe I I2 → ICells I2 g 0 cs → FnX P f args.toArray I2 [] p) (h : callArgs L fo as = some (f, args)) (hd : Nat.blt d n.sz = true)
    (kk : ∀ u r, p u r → SX n E I ((d, u) :: L) (r :: H) K) : SX n E I L H (one P ops Q ⟨some d, .call { callee := .value fo, args := as.toArray, argTypes := ats }, ty, pos, af, none⟩ K) := by
  intro a w s mm
  have h1 := (hc _ (lend_ile mm hm) lend_cells).go w (lend_mem mm hm)
  unfold one
  rw [if_pos (by rfl)]
  refine wq_after ?_
  unfold After at h1 ⊢
  rw [run_call s h ⟨some d, .call { callee := .value fo, args := as.toArray, argTypes := ats }, ty, pos, af, none⟩ rfl (ats := ats)]
  have key : ∀ e w'', Post ⟨[], (I.pub g (.cells cs.toArray t (0, 0))), w⟩ (fun u I' H' => I' = (I.pub g (.cells cs.toArray t (0, 0))) ∧ ∃ r, H' = [r] ∧ p u r) e w'' → (match e with | .returned v => K (a.put (some d) v) w'' | _ => False) := by
    rintro e w'' ⟨u, I', H', rfl, hm', rfl, r, rfl, hp⟩
    refine kk u r hp _ _ (s.put hd) (mm.new hm'.upd.os hm'.upd.tape hm'.upd.output hm'.upd.size (fun k hk => hm'.upd.block k hk (by simp)) (hm'.holds r (List.mem_cons_self ..)) fun b hb => ?_)
    rcases (hm'.priv r (List.mem_cons_self ..) b hb).2 with h | h
    · exact h
    · cases h
  split at h1
  · rename_i v w' hr; exact key _ _ h1
  · rename_i f' args' w' hr; exact Calls.mono h1 key
  · rename_i l f' tmps assign body w' hr; exact RoundIn.mono h1 key
  · exact h1.elim
/-- the callee takes all resources but the first one -/
theorem o_callT {r0 : Res} {Hc : List Res} {post : Value → IMap → List Res → Prop} (hc : FnH P f args.toArray I Hc post) (h : callArgs L fo as = some (f, args)) (hd : Nat.blt d n.sz = true)
    (k : ∀ u I' H', ILe I I' → post u I' H' → SX n E I' ((d, u) :: L) (r0 :: H') K) :
    SX n E I L (r0 :: Hc) (one P ops Q ⟨some d, .call { callee := .value fo, args := as.toArray, argTypes := ats }, ty, pos, af, none⟩ K) := by
  refine sx_perm (H' := Hc ++ [r0]) (by simpa using List.perm_append_comm (l₁ := [r0]) (l₂ := Hc)) ?_
  refine o_callH (Hc := Hc) (H0 := [r0]) hc h hd fun u I' H' hI hp => ?_
  exact sx_perm (H' := r0 :: H') (by simpa using List.perm_append_comm (l₁ := H') (l₂ := [r0])) (k u I' H' hI hp)
/-- all resources -/
theorem o_callA {Hc : List Res} {post : Value → IMap → List Res → Prop} (hc : FnH P f args.toArray I Hc post) (h : callArgs L fo as = some (f, args)) (hd : Nat.blt d n.sz = true)
    (k : ∀ u I' H', ILe I I' → post u I' H' → SX n E I' ((d, u) :: L) H' K) :
    SX n E I L Hc (one P ops Q ⟨some d, .call { callee := .value fo, args := as.toArray, argTypes := ats }, ty, pos, af, none⟩ K) := by
  refine sx_perm (H' := Hc ++ []) (by simp) ?_
  refine o_callH (Hc := Hc) (H0 := []) hc h hd fun u I' H' hI hp => ?_
  exact sx_perm (H' := H') (by simp) (k u I' H' hI hp)
end
section
variable {P : Program} {n : Sz} {E : Ent} {I : IMap} {L : LL} {H : List Res} {K : Act → World → Prop}
theorem d_startT1 {ρ : Option Nat} {Q : Exit → Act → World → Prop} {l : List Oper} {r1 : Res} {id : Nat} (hm : P.follows .mixedOrders = true)
    (h : SX n E I L (r1 :: H) (wpAnyC P l.toArray (NQ Q) (Keeps E I [r1]) l.length (Array.replicate l.length false))) : SX n E I L (r1 :: H) ((Code.region id l.toArray true).wq ρ P Q) := d_start [r1] hm h
theorem d_startT2 {ρ : Option Nat} {Q : Exit → Act → World → Prop} {l : List Oper} {r1 r2 : Res} {id : Nat} (hm : P.follows .mixedOrders = true)
    (h : SX n E I L (r1 :: r2 :: H) (wpAnyC P l.toArray (NQ Q) (Keeps E I [r1, r2]) l.length (Array.replicate l.length false))) : SX n E I L (r1 :: r2 :: H) ((Code.region id l.toArray true).wq ρ P Q) := d_start [r1, r2] hm h
theorem sx_blkeq {g t : Nat} {cs : List Value} (cs2 : List Value) (e : cs = cs2) (h : SX n E I L (.blk g t cs2 :: H) K) : SX n E I L (.blk g t cs :: H) K := e ▸ h
theorem sx_app1' {a : Res} (h : SX n E I L (a :: H) K) : SX n E I L ([a] ++ H) K := h
theorem sx_app2' {a b : Res} (h : SX n E I L (a :: b :: H) K) : SX n E I L ([a, b] ++ H) K := h
theorem q_endret {fn : Func} {R : Ending → World → Prop} (h : SX n E I L H (FinQ P fn R .ret)) : SX n E I L H (FinQ P fn R .normal) := h
end
/-- numbers in a block of their own -/
def intCs (ch : List Int) : List Value := ch.map ci
theorem intCs_len (ch : List Int) : (intCs ch).length = ch.length := by simp [intCs]
theorem intCs_at {ch : List Int} {i : Nat} (h : i < ch.length) : (intCs ch)[i]? = some (ci ch[i]) := by simp [intCs, h]
theorem intCs_set (ch : List Int) (i : Nat) (x : Int) : (intCs ch).set i (ci x) = intCs (ch.set i x) := by simp [intCs, List.map_set]
theorem intCs_rd {I : IMap} {g : Nat} {ch : List Int} (h : ICells I g 0 (intCs ch)) (hl : ch.length ≤ 9223372036854775807) : RdS I (.slice (some ⟨g, 0, none⟩) ch.length ch.length) ch := by
  refine ⟨some ⟨g, 0, none⟩, ch.length, rfl, fun hp => ⟨g, 0, rfl, fun i x hi => ⟨[ci x], fun j u hu => ?_, rfl⟩⟩, Nat.le_refl _, hl⟩
  have h1 : (intCs ch)[i]? = some (ci x) := by simp [intCs, hi]
  cases j with
  | zero =>
    have e : u = ci x := by simpa using hu.symm
    subst e
    have := h i _ h1
    have e2 : 0 + i * Enc.k Int + 0 = 0 + i := by show 0 + i * 1 + 0 = 0 + i; omega
    rw [e2]; exact this
  | succ j => simp at hu
theorem intCs_rep (n : Nat) : (List.replicate n [ci 0]).flatten = intCs (List.replicate n 0) := by
  induction n with
  | zero => rfl
  | succ n ih => rw [List.replicate_succ, List.flatten_cons, ih]; rfl
theorem intCs_flat {I : IMap} (ch : List Int) : Flat I (intCs ch) ch := by
  induction ch with
  | nil => exact .nil
  | cons x r ih => exact .cons rfl ih
theorem flat_ints {I : IMap} {xs : List Value} {l : List Int} (h : Flat I xs l) : xs = intCs l := by
  induction h with
  | nil => rfl
  | cons h1 _ ih => rw [ih]; rw [show _ = _ from h1]; rfl
end Go.Sx

/- Steps of the search. -/
set_option linter.all false
namespace Go.Sx
open Go
theorem intCs_rdn {I : IMap} {g n : Nat} {ch : List Int} (h : ICells I g 0 (intCs ch)) (e : ch.length = n) (hl : n ≤ 1000000) : RdS I (.slice (some ⟨g, 0, none⟩) n n) ch := by
  subst e; exact intCs_rd h (by omega)
section
variable {c : List Kind} {l : List Rep} {pre : List Int} {r : Rep} {rs : List Rep}
theorem Mid.get (h : Mid c l pre (r :: rs)) : ∃ hp : pre.length < l.length, l[pre.length] = r := by
  obtain ⟨a, e1, e2, _⟩ := h.is
  refine ⟨by rw [e1, e2]; simp, ?_⟩
  subst e1
  simp [e2]
theorem Mid.more (h : Mid c l pre rs) (hp : pre.length < l.length) : ∃ r rs', rs = r :: rs' := by
  cases rs with
  | nil => have := h.len; simp at this; omega
  | cons r rs' => exact ⟨r, rs', rfl⟩
theorem Mid.full (h : Mid c l pre rs) (hp : ¬ pre.length < l.length) : rs = [] := by
  have := h.len
  exact List.eq_nil_of_length_eq_zero (by omega)
theorem Mid.pos1 (h : Mid c l pre (r :: rs)) : chs r ≠ 0 := h.pos r (by obtain ⟨a, e1, _⟩ := h.is; rw [e1]; simp)
theorem open_at1 {ch : List Int} (he : pre ++ openT (r :: rs) = ch) (hp : pre.length < ch.length) : ch[pre.length] = if 1 < chs r then -1 else 0 := by
  subst he; simp [openT]
theorem open_len : (openT rs).length = rs.length := by simp [openT]
theorem Mid.chlen (h : Mid c l pre rs) {ch : List Int} (he : pre ++ openT rs = ch) : ch.length = l.length := by
  rw [← he, List.length_append, open_len]; exact h.len
theorem open_zero (h1 : ¬ 1 < chs r) : (pre ++ [0]) ++ openT rs = pre ++ openT (r :: rs) := by
  simp [openT, h1]
theorem open_set {ch : List Int} (he : pre ++ openT (r :: rs) = ch) (k : Int) : ch.set pre.length k = (pre ++ [k]) ++ openT rs := by
  subst he
  rw [List.set_append_right _ _ (Nat.le_refl _), Nat.sub_self]
  simp [openT]
theorem set_back {ch : List Int} {p : Nat} (hp : p < ch.length) (h : ch[p] = -1) (z : Int) : (ch.set p z).set p (-1) = ch := by
  rw [List.set_set, ← h, List.set_getElem_self]
theorem set_self {ch : List Int} {p : Nat} (hp : p < ch.length) : ch = ch.set p ch[p] := by rw [List.set_getElem_self]
theorem flat_pre {α : Type} (f : Nat → List α) (done : List α) {k K : Nat} (h : k < K) {x : List α} (hx : x <+: (done ++ (List.range k).flatMap f) ++ f k) : x <+: done ++ (List.range K).flatMap f := by
  refine hx.trans ?_
  have e : (done ++ (List.range k).flatMap f) ++ f k = done ++ (List.range (k + 1)).flatMap f := by rw [List.range_succ, List.flatMap_append]; simp
  rw [e]
  refine (List.prefix_append_right_inj _).2 ?_
  have e2 : List.range K = List.range (k + 1) ++ (List.range (K - (k + 1))).map (k + 1 + ·) := by
    rw [← List.range_add]; congr 1; omega
  rw [e2, List.flatMap_append]
  exact List.prefix_append _ _
theorem flat_next {α : Type} (f : Nat → List α) (done : List α) (k : Nat) : (done ++ (List.range k).flatMap f) ++ f k = done ++ (List.range (k + 1)).flatMap f := by
  rw [List.range_succ, List.flatMap_append]; simp
end
theorem chs_five (r : Rep) : chs r ≤ 5 := by
  unfold chs
  split
  · omega
  · rename_i h
    have := validRep_len (r := r) (by simpa using h)
    split <;> omega
/-- what the search leaves behind -/
def FromPost (c : List Kind) (l : List Rep) (J : Bool → List (List Int) → IMap → List Res → Prop) (g t : Nat) (ch : List Int) (pre : List Int) (rs : List Rep) (done : List (List Int)) (u : Value) (I : IMap) (H : List Res) : Prop :=
  ∃ b dn Hc, u = .bool b ∧ H = .blk g t (intCs ch) :: Hc ∧ J b dn I Hc ∧ (b = true → dn = done ++ resF c l pre rs) ∧ (b = false → dn <+: done ++ resF c l pre rs)
/-- what begins with some choices is in order -/
theorem dbt_take {l : List Rep} {i : Nat} (h : i < l.length) : dbtF (l.take (i + 1)) = dbtF (l.take i) + if 1 < chs l[i] then 1 else 0 := by
  rw [← take_succ_of h, dbtF, List.filter_append, List.length_append, dbtF]
  by_cases hc : 1 < chs l[i] <;> simp [hc]
theorem err_any {c : List Kind} {l : List Rep} {i : Nat} (hc : validC c = true) (h : i < l.length) (h0 : chs l[i] = 0) : errF c l = 1 := by
  unfold errF
  rw [if_neg (by rw [hc]; decide), if_pos (List.any_eq_true.2 ⟨_, List.getElem_mem h, by simp [h0]⟩)]
theorem err_cat {c : List Kind} {l : List Rep} (hc : validC c = false) : errF c l = 1 := by unfold errF; rw [if_pos hc]
theorem err_end {c : List Kind} {l : List Rep} (hc : validC c = true) (hp : ∀ r ∈ l, chs r ≠ 0) : errF c l = if (30 : Int) < (dbtF l : Nat) then 7 else 0 := by
  unfold errF
  rw [if_neg (by rw [hc]; decide), if_neg (by rw [List.any_eq_true]; rintro ⟨r, hr, h0⟩; exact hp r hr (by simpa using h0))]
theorem pos_take {l : List Rep} {i : Nat} (h : i < l.length) (hp : ∀ r ∈ l.take i, chs r ≠ 0) (h0 : chs l[i] ≠ 0) : ∀ r ∈ l.take (i + 1), chs r ≠ 0 := fun r hr => by
  rw [← take_succ_of h] at hr
  rcases List.mem_append.1 hr with hr | hr
  · exact hp r hr
  · obtain rfl := List.mem_singleton.1 hr; exact h0
/-- the start of the choices -/
def openTo' (l : List Rep) (i : Nat) : List Int := openT (l.take i) ++ List.replicate (l.length - i) 0
theorem openTo_len (l : List Rep) {i : Nat} (h : i ≤ l.length) : (openTo' l i).length = l.length := by
  simp [openTo', open_len]; omega
theorem openTo_next {l : List Rep} {i : Nat} (h : i < l.length) : openTo' l (i + 1) = if 1 < chs l[i] then (openTo' l i).set i (-1) else openTo' l i := by
  have e : (openT (l.take i)).length = i := by rw [open_len, List.length_take]; omega
  have e2 : List.replicate (l.length - i) (0 : Int) = 0 :: List.replicate (l.length - (i + 1)) 0 := by
    rw [show l.length - i = (l.length - (i + 1)) + 1 by omega, List.replicate_succ]
  have e3 : openT (l.take i ++ [l[i]]) = openT (l.take i) ++ [if 1 < chs l[i] then -1 else 0] := by simp only [openT, List.map_append, List.map_cons, List.map_nil]
  unfold openTo'
  rw [← take_succ_of h, e3, List.append_assoc]
  by_cases hc : 1 < chs l[i]
  · rw [if_pos hc, if_pos hc, List.set_append_right _ _ (by omega), e, Nat.sub_self, e2]; rfl
  · rw [if_neg hc, if_neg hc, e2]; rfl
theorem openTo_done (l : List Rep) : openTo' l l.length = openT l := by simp [openTo']
end Go.Sx

/- The plain laws of searching. -/
set_option linter.all false
namespace Go.Sx
open Go
section
variable {c : List Kind} {l : List Rep}
theorem all_nil_of {most : Int} (h : (allF c l most).2 ≠ 0) : (allF c l most).1 = [] := by
  unfold allF at h ⊢
  split
  · rfl
  · rename_i h1
    split
    · rfl
    · rename_i h2
      rw [if_neg h1, if_neg h2] at h
      split
      · rfl
      · rename_i h3; rw [if_neg h3] at h; exact absurd rfl h
theorem all_ok {most : Int} (h1 : 1 ≤ most) (h2 : most ≤ 4096) (h : (allF c l most).2 = 0) : errF c l = 0 ∧ histF c l ≠ [] ∧ (allF c l most).1 = (histF c l).take most.toNat := by
  rw [all_code h1 h2] at h
  by_cases he : errF c l = 0
  · rw [if_neg (show ¬ (errF c l ≠ 0) by simp [he])] at h
    refine ⟨he, fun hn => ?_, all_list h1 h2 he⟩
    rw [if_pos hn] at h; cases h
  · rw [if_pos he] at h; exact absurd h he
/-! SearchBegins -/
theorem begins_code {a b : Int} (ha : 1 ≤ a ∧ a ≤ 4096) (hb : 1 ≤ b ∧ b ≤ 4096) : (allF c l a).2 = (allF c l b).2 := by
  rw [all_code ha.1 ha.2, all_code hb.1 hb.2]
theorem begins_len {a b : Int} (ha : 1 ≤ a ∧ a ≤ 4096) (hb : 1 ≤ b ∧ b ≤ 4096) (hab : a ≤ b) : (allF c l a).1 = (allF c l b).1.take (allF c l a).1.length ∧ (allF c l a).1.length ≤ (allF c l b).1.length ∧ ((allF c l a).1.length : Int) ≤ a ∧ ((allF c l a).1.length = (allF c l b).1.length ∨ ((allF c l a).1.length : Int) = a ∨ (allF c l a).2 ≠ 0) := by
  have hc := begins_code (c := c) (l := l) ha hb
  by_cases h : (allF c l a).2 = 0
  · obtain ⟨_, _, e1⟩ := all_ok ha.1 ha.2 h
    obtain ⟨_, _, e2⟩ := all_ok hb.1 hb.2 (by rw [← hc]; exact h)
    rw [e1, e2]
    have hm : a.toNat ≤ b.toNat := by omega
    refine ⟨?_, ?_, ?_, ?_⟩
    · rw [List.take_take, List.length_take]
      rcases Nat.le_total a.toNat (histF c l).length with h1 | h1
      · rw [Nat.min_eq_left h1, Nat.min_eq_left hm]
      · rw [Nat.min_eq_right h1, List.take_of_length_le h1, List.take_of_length_le (by omega)]
    · rw [List.length_take, List.length_take]; omega
    · rw [List.length_take]; omega
    · rw [List.length_take, List.length_take]; omega
  · rw [all_nil_of h]
    exact ⟨by simp, by simp, by simp; omega, .inr (.inr h)⟩
theorem begins_count (a : Int) : (countF c l a).1 = ((allF c l a).1.length : Nat) ∧ ((allF c l a).2 ≠ 0 → (countF c l a).2 = (allF c l a).2 ∨ (allF c l a).2 = 21 ∧ (countF c l a).2 = 0) ∧ ((allF c l a).2 = 0 → (countF c l a).2 = 0) := by
  unfold countF
  by_cases h : (allF c l a).2 = 21
  · rw [if_pos h]
    refine ⟨by rw [all_nil_of (by rw [h]; decide)]; rfl, fun _ => .inr ⟨h, rfl⟩, fun _ => rfl⟩
  · rw [if_neg h]
    exact ⟨rfl, fun _ => .inl rfl, fun h => h⟩
/-! SearchHistories -/
theorem first_code (c : List Kind) (l : List Rep) : (firstF c l).2 = (allF c l 1).2 := by
  unfold firstF
  split
  · rfl
  · rename_i h; simp only; omega
theorem hist_none {ch : List Int} (hl : l.length ≤ 30) (h : (allF c l 4096).2 ≠ 0) : (firstF c l).2 = (allF c l 4096).2 ∧ (allF c l 4096).1 = [] ∧ (firstF c l).1 = [] ∧ isF c l ch = false := by
  have hc := begins_code (c := c) (l := l) (a := 4096) (b := 1) (by decide) (by decide)
  refine ⟨by rw [first_code, hc], all_nil_of h, ?_, ?_⟩
  · unfold firstF; rw [if_pos (by rw [← hc]; exact h)]
  · rw [all_code (by decide) (by decide)] at h
    by_cases he : errF c l = 0
    · rw [if_neg (show ¬ (errF c l ≠ 0) by simp [he])] at h
      by_cases hh : histF c l = []
      · cases hi : isF c l ch with
        | false => rfl
        | true => have := (hist_mem (c := c) (l := l) ch).2 hi; rw [hh] at this; cases this
      · rw [if_neg hh] at h; exact absurd rfl h
    · exact err_is hl he
theorem hist_all (hw : waysN l ≤ 4096) (h : (allF c l 4096).2 = 0) : (allF c l 4096).1 = histF c l ∧ histF c l ≠ [] ∧ (firstF c l).2 = 0 ∧ (firstF c l).1 = (histF c l).headD [] := by
  obtain ⟨e0, e1, e2⟩ := all_ok (by decide) (by decide) h
  have hc := begins_code (c := c) (l := l) (a := 4096) (b := 1) (by decide) (by decide)
  have h1 : (allF c l 1).2 = 0 := by rw [← hc]; exact h
  obtain ⟨_, _, e3⟩ := all_ok (by decide) (by decide) h1
  refine ⟨by rw [e2]; exact take_all (Nat.le_trans (hist_len c l) hw), e1, by rw [first_code]; exact h1, ?_⟩
  unfold firstF
  rw [if_neg (by rw [h1]; decide), e3]
  cases histF c l with
  | nil => rfl
  | cons x r => rfl
theorem hist_in (ch : List Int) : isF c l ch = (histF c l).any fun x => decide (x = ch) := by
  rw [Bool.eq_iff_iff, ← hist_mem, List.any_eq_true]
  constructor
  · intro h; exact ⟨ch, h, by simp⟩
  · rintro ⟨x, hx, he⟩
    obtain rfl : x = ch := by simpa using he
    exact hx
theorem hist_bef {i : Nat} (h : i + 1 < (histF c l).length) : befF (histF c l)[i] (histF c l)[i + 1] = true := (List.pairwise_iff_getElem.1 (hist_srt c l)) i (i + 1) (by omega) h (by omega)
/-! SearchSure -/
theorem all_ones : ∀ {l : List Rep}, (∀ r ∈ l, chs r = 1) → allCh l = [List.replicate l.length 0]
  | [], _ => rfl
  | r :: l, h => by
    rw [allCh, h r (by simp), all_ones fun x hx => h x (by simp [hx])]
    simp [List.replicate_succ]
theorem sure_one (h : ∀ r ∈ l, chs r = 1) (hg : (allF c l 2).2 = 0) : (allF c l 2).1 = [List.replicate l.length 0] := by
  obtain ⟨_, e1, e2⟩ := all_ok (by decide) (by decide) hg
  have e3 : histF c l = [List.replicate l.length 0] := by
    have : histF c l = (allCh l).filter (isF c l) := rfl
    rw [all_ones h] at this
    rw [this] at e1 ⊢
    by_cases hi : isF c l (List.replicate l.length 0) = true
    · simp [hi]
    · simp [hi] at e1
  rw [e2, e3]; rfl
theorem err_many (hc : validC c = true) (h : ∀ r ∈ l, chs r = 2) (hl : 30 < l.length) : errF c l = 7 := by
  unfold errF
  rw [if_neg (by rw [hc]; decide), if_neg (by
    rw [List.any_eq_true]; rintro ⟨r, hr, h0⟩; rw [h r hr] at h0; simp at h0), if_pos]
  have : dbtF l = l.length := by
    unfold dbtF
    rw [List.filter_eq_self.2 fun r hr => by rw [h r hr]; decide]
  omega
end
end Go.Sx

/- The search: what the exported functions give. -/
set_option linter.all false
namespace Go.Sx
open Go
section
variable {c : List Kind} {l : List Rep} {most : Int}
theorem all_pos (h : (allF c l most).2 = 0) : 0 < (allF c l most).1.length := by
  unfold allF at h ⊢
  split at h
  · cases h
  · rename_i h1
    rw [if_neg h1]
    split at h
    · rename_i h2; exact absurd h h2
    · rename_i h2
      rw [if_neg h2]
      split at h
      · cases h
      · rename_i h3
        rw [if_neg h3]
        exact List.length_pos_iff.2 h3
theorem hd_eq {α : Type} {x : List (List α)} (h : 0 < x.length) : x.headD [] = x[0] := by
  cases x with
  | nil => exact absurd h (Nat.not_lt_zero _)
  | cons a r => rfl
theorem first_no (h : ¬ (allF c l 1).2 = 0) : firstF c l = ([], (allF c l 1).2) := by unfold firstF; rw [if_pos h]
theorem first_yes (h : (allF c l 1).2 = 0) : firstF c l = ((allF c l 1).1[0]'(all_pos h), 0) := by
  unfold firstF
  rw [if_neg (by simpa using h)]
  rw [← hd_eq (all_pos h)]
end
end Go.Sx

/- The search: sizes, the greater and the lesser number, the example of its laws. -/
set_option linter.all false
namespace Go.Sx
open Go
section
variable {P : Program} {n : Sz} {E : Ent} {I : IMap} {L : LL} {H : List Res} {d ty t1 t2 : Nat} {pos : String} {af : Array Edge} {x y : Operand} {a b : Int}
theorem v_max (hx : ev L x = some (.int .i64 a)) (hy : ev L y = some (.int .i64 b)) : OV P n E I L H ⟨some d, .call { callee := .builtin .max, args := #[x, y], argTypes := #[t1, t2] }, ty, pos, af, none⟩ (.int .i64 (if b > a then b else a)) :=
  (fun a w st _ => by simp [execOp, st.ev hx, st.ev hy, resolve, invoke, builtin, Builtin.max_, Builtin.max2])
theorem v_min (hx : ev L x = some (.int .i64 a)) (hy : ev L y = some (.int .i64 b)) : OV P n E I L H ⟨some d, .call { callee := .builtin .min, args := #[x, y], argTypes := #[t1, t2] }, ty, pos, af, none⟩ (.int .i64 (if b < a then b else a)) :=
  (fun a w st _ => by simp [execOp, st.ev hx, st.ev hy, resolve, invoke, builtin, Builtin.min_, Builtin.min2])
end
/-- how many combinations there are, as it is counted: on as long as they are not too many -/
def waysGo (most : Int) : Nat → List Rep → Nat
  | n, [] => n
  | n, r :: rs => if ((n : Nat) : Int) ≤ most then waysGo most (n * max 1 (chs r).toNat) rs else n
theorem ways_step {most : Int} {l : List Rep} {i n : Nat} (h : i < l.length) (hn : ((n : Nat) : Int) ≤ most) : waysGo most n (l.drop i) = waysGo most (n * max 1 (chs l[i]).toNat) (l.drop (i + 1)) := by
  rw [List.drop_eq_getElem_cons h, waysGo, if_pos hn]
theorem ways_big {most : Int} {n : Nat} (hn : ¬ ((n : Nat) : Int) ≤ most) : ∀ l : List Rep, waysGo most n l = n
  | [] => rfl
  | r :: l => by rw [waysGo, if_neg hn]
theorem ways_le {most : Int} : ∀ (l : List Rep) (n : Nat), ((waysGo most n l : Nat) : Int) ≤ most → ((n * waysN l : Nat) : Int) ≤ most
  | [], n, h => by simpa [waysGo, waysN] using h
  | r :: l, n, h => by
    rw [waysGo] at h
    split at h
    · have h1 := ways_le l _ h
      have h2 : n * waysN (r :: l) ≤ n * max 1 (chs r).toNat * waysN l := by
        rw [waysN, ← Nat.mul_assoc]
        exact Nat.mul_le_mul_right _ (Nat.mul_le_mul_left _ (Nat.le_max_right _ _))
      omega
    · rename_i h1; exact absurd h h1
/-- few reports, few combinations -/
def few16 (l : List Rep) (n : Int) : Bool := fewR l 12 && decide (((waysGo n 1 l : Nat) : Int) ≤ n)
theorem few16_sm {l : List Rep} {n : Int} (h : few16 l n = true) : fewR l 12 = true ∧ ((waysN l : Nat) : Int) ≤ n := by
  simp only [few16, Bool.and_eq_true, decide_eq_true_eq] at h
  refine ⟨h.1, ?_⟩
  have := ways_le l 1 h.2
  rwa [Nat.one_mul] at this
/-! choices before others -/
theorem bef_same {a b : List Int} {i : Nat} (h1 : i < a.length) (h2 : i < b.length) (he : a[i] = b[i]) : befF (a.drop i) (b.drop i) = befF (a.drop (i + 1)) (b.drop (i + 1)) := by
  rw [List.drop_eq_getElem_cons h1, List.drop_eq_getElem_cons h2, he, bef_cons]
theorem bef_diff {a b : List Int} {i : Nat} (h1 : i < a.length) (h2 : i < b.length) (he : ¬ a[i] = b[i]) : befF (a.drop i) (b.drop i) = decide (a[i] < b[i]) := by
  rw [List.drop_eq_getElem_cons h1, List.drop_eq_getElem_cons h2, befF, if_neg he]
theorem bef_end {a b : List Int} {i : Nat} (h : a.length ≤ i ∨ b.length ≤ i) : befF (a.drop i) (b.drop i) = false := by
  rcases h with h | h
  · rw [List.drop_eq_nil_of_le h]; rfl
  · rw [List.drop_eq_nil_of_le h]; cases a.drop i <;> rfl
theorem any_no {l : List (List Int)} {x : List Int} {i : Nat} (hlt : i < l.length) (h : (l.take i).any (fun y => decide (y = x)) = false) (hn : decide (l[i] = x) = false) : (l.take (i + 1)).any (fun y => decide (y = x)) = false := by
  rw [← take_succ_of hlt, List.any_append, h]
  simpa using hn
theorem any_yes {l : List (List Int)} {x : List Int} {i : Nat} (hlt : i < l.length) (hn : decide (l[i] = x) = true) : l.any (fun y => decide (y = x)) = true :=
  List.any_eq_true.2 ⟨l[i], List.getElem_mem hlt, hn⟩
/-! the example -/
abbrev sA : ByteArray := ⟨#[97]⟩
abbrev sB : ByteArray := ⟨#[98]⟩
abbrev sW : ByteArray := ⟨#[119]⟩
abbrev sAxle : ByteArray := ⟨#[97, 120, 108, 101]⟩
abbrev sWheel : ByteArray := ⟨#[119, 104, 101, 101, 108, 115, 101, 116]⟩
def sxMade (p k : ByteArray) : Evt := ⟨1, 0, p, k, nil8, nil8, nil8, nil8, zUse⟩
def sxFit (p : ByteArray) : Evt := ⟨2, 5, p, nil8, sW, sAxle, nil8, nil8, zUse⟩
def sxRem (p : ByteArray) (n : Int) : Evt := ⟨3, n, p, nil8, nil8, nil8, nil8, nil8, zUse⟩
def sxC : List Kind := [⟨sAxle, false, []⟩, ⟨sWheel, false, [⟨sAxle, [sAxle], 1⟩]⟩]
def sxL : List Rep := [⟨[sxMade sA sAxle], false⟩, ⟨[sxMade sB sAxle], false⟩, ⟨[sxMade sW sWheel], false⟩, ⟨[sxFit sA, sxFit sB], false⟩, ⟨[sxRem sA 6], true⟩]
def sxM : List Rep := sxL ++ [⟨[sxRem sB 7], false⟩]
theorem sx_smC : SmC sxC := by
  intro k hk
  simp only [sxC, List.mem_cons, List.not_mem_nil, or_false] at hk
  rcases hk with rfl | rfl
  · exact ⟨by decide, fun s hs => (by cases hs)⟩
  · refine ⟨by decide, fun s hs => ?_⟩
    obtain rfl := List.mem_singleton.1 hs
    refine ⟨by decide, fun k hk => ?_⟩
    obtain rfl := List.mem_singleton.1 hk
    decide
theorem sxM_sm : ∀ r ∈ sxM, ∀ e ∈ r.options, SmE e := by
  intro r hr e he
  simp only [sxM, sxL, List.cons_append, List.nil_append, List.mem_cons, List.not_mem_nil, or_false] at hr
  rcases hr with rfl | rfl | rfl | rfl | rfl | rfl <;> simp only [List.mem_cons, List.not_mem_nil, or_false] at he
  · subst he; exact ⟨by decide, by decide, by decide, by decide, by decide, by decide⟩
  · subst he; exact ⟨by decide, by decide, by decide, by decide, by decide, by decide⟩
  · subst he; exact ⟨by decide, by decide, by decide, by decide, by decide, by decide⟩
  · rcases he with rfl | rfl <;> exact ⟨by decide, by decide, by decide, by decide, by decide, by decide⟩
  · subst he; exact ⟨by decide, by decide, by decide, by decide, by decide, by decide⟩
  · subst he; exact ⟨by decide, by decide, by decide, by decide, by decide, by decide⟩
theorem sxL_sm : ∀ r ∈ sxL, ∀ e ∈ r.options, SmE e := fun r hr => sxM_sm r (List.mem_append_left _ hr)
theorem sx_first : firstF sxC sxL = ([0, 0, 0, 0, 0], 0) := by decide +kernel
theorem sx_all : allF sxC sxL 10 = ([[0, 0, 0, 0, 0], [0, 0, 0, 0, 1], [0, 0, 0, 1, 1]], 0) := by decide +kernel
theorem sx_more : allF sxC sxM 10 = ([[0, 0, 0, 1, 1, 0]], 0) := by decide +kernel
theorem sx_count : countF sxC sxL 2 = (2, 0) := by decide +kernel
end Go.Sx

/- append to a list that nobody owns and that has no room left: a new row. -/
set_option linter.all false
namespace Go.Sx
open Go
section
variable {P : Program} {ρ : Option Nat} {n : Sz} {E : Ent} {I : IMap} {L : LL} {H : List Res} {Q : Exit → Act → World → Prop} {ops : Array Oper} {K : Act → World → Prop}
variable {α : Type} [Enc α] {d ty : Nat} {pos : String} {af : Array Edge} {x y : Operand}
theorem o_appendF {tt e k m bytes : Nat} {A : Option Addr} {u : Value} {zs ys : List Value} {l : List α} (hA : RdA I A l) (hpos : 0 < l.length) (hm : 0 < m) (hk : k = Enc.k α) (he : P.underlying tt = some (.slice e)) (hb : bytesK P e = some (zs, k, bytes)) (hzs : zs.length = k) (hk0 : Nat.blt 0 k = true)
    (hx : ev L x = some (.slice A l.length l.length)) (hy : ev L y = some u) (hroom : (l.length + m) * bytes ≤ 140737488355328) (hlen : l.length + m ≤ 9223372036854775807) (hd : Nat.blt d n.sz = true)
    (kk : ∀ v' olds, Flat I olds l → SX n E I ((d, v') :: L) (.row v' e k (l.length + m) (olds ++ ys) :: .row u e k m ys :: H) K) :
    SX n E I L (.row u e k m ys :: H) (one P ops Q ⟨some d, .call { callee := .builtin .append, args := #[x, y], argTypes := #[tt, tt] }, ty, pos, af, none⟩ K) := by
  obtain ⟨b, o, rfl, hcell⟩ := hA hpos
  obtain ⟨olds, hF, hic⟩ := Flat.of_rd l o hcell
  refine o_gen (fun v : Value => v) (fun _ => I) (fun v' => .row v' e k (l.length + m) (olds ++ ys) :: .row u e k m ys :: H) (fun _ => True) hd (fun a w st mm => ?_) (fun v' _ => kk v' olds hF)
  obtain ⟨hul, hu2⟩ := mm.holds (.row u e k m ys) (List.mem_cons_self ..)
  rcases hu2 with ⟨_, h0⟩ | ⟨g, cp, cur, rfl, hg, hnc, hcm, hcs, htk⟩
  · omega
  unfold bytesK at hb
  split at hb
  · rename_i inf hi
    cases hz : inf.zero with
    | none => simp [hz] at hb
    | some z =>
      simp only [hz, Option.map_some, Option.some.injEq, Prod.mk.injEq] at hb
      obtain ⟨hz1, hz2, hz3⟩ := hb
      have hzz : z.cells.size = k := by rw [← hzs, ← hz1]; simp
      have hk' : 0 < k := by simpa [Nat.blt_eq] using hk0
      have hol : olds.length = l.length * k := by rw [hF.len, hk]
      have hg' : w.heap[g]? = some (.cells cur e (0, 0)) := hg
      have hnews : ∀ j v, ys[j]? = some v → w.cell? (Addr.add ⟨g, 0, none⟩ j) = some v := fun j v hj => by
        rw [add_lit, Nat.zero_add, cell_of_row w g j cur e _ hg']
        rw [← htk, List.getElem?_take] at hj
        split at hj
        · simpa using hj
        · cases hj
      have holds : ∀ j v, olds[j]? = some v → w.cell? (Addr.add ⟨b, o, none⟩ j) = some v := fun j v hj => by
        rw [add_lit]; exact (hic j v hj).at_ mm.con
      have hr := run_append_grow (P := P) w tt ty e inf z he hi hz ⟨b, o, none⟩ l.length l.length olds (by rw [hz2]; exact hol) holds ⟨g, 0, none⟩ m cp ys (by rw [hz2]; exact hul) hnews (by omega) (by omega) (growslice_fits (by omega) (by rw [hz3]; exact hroom))
      refine ⟨.slice (some ⟨w.heap.size, 0, none⟩) (l.length + m) (grownCap w (l.length + m) l.length e), w.drew.alloc (.cells (olds.toArray ++ ys.toArray ++ Builtin.zeroCells z.cells (grownCap w (l.length + m) l.length e - (l.length + m))) e), trivial, ?_, ?_⟩
      · simp only [execOp, resolve, invoke, builtin, Sem.run_bind, Sem.run_pure, Result.andThen_ok, List.map_toArray, List.map_cons, List.map_nil, st.ev hx, st.ev hy, hr]
      · have hge := grownCap_ge w (l.length + m) l.length e
        have hcl := grownCap_le_maxLen w (l.length + m) l.length e (by unfold maxLen; omega)
        have hlen2 : (olds ++ ys).length = (l.length + m) * k := by rw [List.length_append, hol, hul, Nat.add_mul]
        refine mm.new rfl rfl rfl (by simp) (fun q hq => heap_alloc_old w.drew _ hq) ⟨hlen2, .inr ⟨w.heap.size, _, _, rfl, heap_alloc_new w.drew _, hge, hcl, ?_, ?_⟩⟩ (fun q hq => ?_)
        · simp only [Array.size_append, List.size_toArray, size_zeroCells, hzz, hol, hul, ← Nat.add_mul]
          congr 1
          omega
        · simp only [Array.toList_append, List.append_assoc]
          rw [← List.append_assoc, ← hlen2]
          exact List.take_left
        · simp only [Res.foot, blockOf, Option.some.injEq] at hq
          omega
  · cases hb
theorem o_buildSliceB {tt e k len : Nat} {zs cs : List Value} {ps : List (Nat × Operand)} {vs : List (Nat × Value)} (he : eltK P tt = some (e, k)) (hz : zeroK P e = some zs) (hk : zs.length = k) (hk0 : Nat.blt 0 k = true) (hl : Nat.ble (len * k) 16777216 = true)
    (hv : evp L ps = some vs) (hf : fillL (fun i => some (i * k, k)) vs (zrep zs len) = some cs) (hcs : cs.length = len * k) (hd : Nat.blt d n.sz = true)
    (kk : ∀ g, SX n E I ((d, .slice (some ⟨g, 0, none⟩) len len) :: L) (.blk g e cs :: H) K) : SX n E I L H (one P ops Q ⟨some d, .buildSlice tt len ps.toArray, ty, pos, af, none⟩ K) :=
  o_gen (fun g : Nat => .slice (some ⟨g, 0, none⟩) len len) (fun _ => I) (fun g => .blk g e cs :: H) (fun _ => True) hd
    (fun a w st m => by
      obtain ⟨h1, bb, h2⟩ := eltK_spec he
      obtain ⟨z, h3, h4⟩ := zeroK_spec hz w
      have hparts : (ps.toArray.map fun (i, x) => (i, a.eval x)).toList = vs := by simpa using evp_spec st ps vs hv
      have hk' : 0 < k := by simpa [Nat.blt_eq] using hk0
      have hl' : len * k ≤ 16777216 := Nat.le_of_ble_eq_true hl
      have hlen : len ≤ len * k := Nat.le_mul_of_pos_right len hk'
      have hinit : (Array.range (len * k)).map ((if len * k = 0 then (#[] : Array Value) else zs.toArray)[· % (if len * k = 0 then (#[] : Array Value) else zs.toArray).size]!) = (zrep zs len).toArray := by
        by_cases h0 : len * k = 0
        · have : len = 0 := by
            rcases Nat.eq_zero_or_pos len with h | h
            · exact h
            · have := Nat.mul_pos h hk'; omega
          subst this
          simp [zrep]
        · rw [if_neg h0]
          subst hk
          exact zrep_made zs hk' len
      have hfill := fill_eq _ vs (zrep zs len) cs hf
      refine ⟨w.heap.size, w.alloc (.cells cs.toArray e), trivial, ?_, m.alloc e cs⟩
      · simp only [execOp, Instr.buildSlice, Sem.run_bind, run_underlying h1, Result.andThen_ok, (tyK_spec h2 w).2]
        rw [if_neg (by omega)]
        by_cases h0 : len * k = 0
        · simp only [h0, if_true] at hinit ⊢
          simp only [Sem.run_bind, Sem.run_pure, Result.andThen_ok, hparts]
          rw [hinit, hfill]
          simp [newRow]
        · simp only [h0, if_false] at hinit ⊢
          simp only [Sem.run_bind, Sem.run_pure, Result.andThen_ok, hparts, h3, h4]
          rw [hinit, hfill]
          simp [newRow]) fun g _ => kk g
theorem Flat.rda {I : IMap} {g : Nat} {ws : List Value} {l : List α} (hF : Flat I ws l) (hc : ICells I g 0 ws) : RdA I (some ⟨g, 0, none⟩) l := fun _ =>
  ⟨g, 0, rfl, fun i x hi => by
    obtain ⟨vs, h1, h2⟩ := hF.at_ i x hi
    refine ⟨vs, fun j u hu => ?_, h1⟩
    have h3 := hc _ _ (h2 j u hu)
    rw [Nat.zero_add] at h3
    rw [Nat.zero_add]
    exact h3⟩
end
end Go.Sx

