/- Lists in strict order of a name: what putting one in does. -/
import Derived.Test.YtkmdojpfccjnoaaGreatM16
set_option linter.all false
namespace Go.Sx
open Go
section
variable {α : Type} {nm : α → ByteArray}
def Inc (nm : α → ByteArray) (l : List α) : Prop := l.Pairwise fun x y => sLt (nm x) (nm y) = true
theorem inc_of {l : List α} (h : Srt nm l) : Inc nm l := by
  rw [Inc, List.pairwise_iff_getElem]
  exact fun i j hi hj hij => h i j hj hij
theorem of_inc {l : List α} (h : Inc nm l) : Srt nm l := by
  rw [Inc, List.pairwise_iff_getElem] at h
  exact fun i j hj hij => h i j (by omega) hj hij
/-- a list parted at a name -/
structure Cut (nm : α → ByteArray) (s : ByteArray) (a b : List α) : Prop where
  lo : ∀ y ∈ a, sLt (nm y) s = true
  hi : ∀ y ∈ b, sLt s (nm y) = true
theorem cut_of (l : List α) (s : ByteArray) (h : Inc nm l) : (∃ a b, l = a ++ b ∧ Cut nm s a b) ∨ ∃ a y b, l = a ++ y :: b ∧ nm y = s ∧ Cut nm s a b := by
  induction l with
  | nil => exact .inl ⟨[], [], rfl, fun _ h => (by cases h), fun _ h => (by cases h)⟩
  | cons x r ih =>
    have h' := List.pairwise_cons.1 h
    cases hx : sLt (nm x) s with
    | true =>
      rcases ih h'.2 with ⟨a, b, rfl, hc⟩ | ⟨a, y, b, rfl, hy, hc⟩
      · exact .inl ⟨x :: a, b, rfl, fun y hy => by rcases List.mem_cons.1 hy with rfl | hy; exact hx; exact hc.lo y hy, hc.hi⟩
      · exact .inr ⟨x :: a, y, b, rfl, hy, fun y hy => by rcases List.mem_cons.1 hy with rfl | hy; exact hx; exact hc.lo y hy, hc.hi⟩
    | false =>
      by_cases he : nm x = s
      · subst he
        exact .inr ⟨[], x, r, rfl, rfl, fun _ h => (by cases h), fun y hy => h'.1 y hy⟩
      · have hs : sLt s (nm x) = true := by
          cases hs : sLt s (nm x) with
          | true => rfl
          | false => exact absurd (sLt_tri hx hs) he
        exact .inl ⟨[], x :: r, rfl, fun _ h => (by cases h), fun y hy => by
          rcases List.mem_cons.1 hy with rfl | hy
          · exact hs
          · exact sLt_trans hs (h'.1 y hy)⟩
theorem pos_cut {a b : List α} {s : ByteArray} (hc : Cut nm s a b) : posF nm (a ++ b) s = a.length := by
  refine pos_eq (by simp) (fun q x hq hx => ?_) fun q x hq hx => ?_
  · rw [List.getElem?_append_left hq] at hx
    exact hc.lo x (List.mem_of_getElem? hx)
  · rw [List.getElem?_append_right hq] at hx
    exact sLt_asymm (hc.hi x (List.mem_of_getElem? hx))
theorem pos_cut1 {a b : List α} {y : α} {s : ByteArray} (hc : Cut nm s a b) (hy : nm y = s) : posF nm (a ++ y :: b) s = a.length := by
  refine pos_eq (by simp) (fun q x hq hx => ?_) fun q x hq hx => ?_
  · rw [List.getElem?_append_left hq] at hx
    exact hc.lo x (List.mem_of_getElem? hx)
  · rw [List.getElem?_append_right hq] at hx
    rcases List.mem_cons.1 (List.mem_of_getElem? hx) with rfl | hx
    · rw [hy]; exact sLt_irrefl s
    · exact sLt_asymm (hc.hi x hx)
theorem at_cut {a b : List α} {s : ByteArray} (hc : Cut nm s a b) : atF nm (a ++ b) s = false := by
  unfold atF
  rw [pos_cut hc]
  cases b with
  | nil => simp
  | cons y r =>
    rw [List.getElem?_append_right (Nat.le_refl _), Nat.sub_self]
    simp only [List.getElem?_cons_zero, decide_eq_false_iff_not]
    rintro rfl
    have := hc.hi y (by simp)
    rw [sLt_irrefl] at this; cases this
theorem at_cut1 {a b : List α} {y : α} {s : ByteArray} (hc : Cut nm s a b) (hy : nm y = s) : atF nm (a ++ y :: b) s = true := by
  unfold atF
  rw [pos_cut1 hc hy, List.getElem?_append_right (Nat.le_refl _), Nat.sub_self]
  simp [hy]
theorem put_cut {a b : List α} {x : α} (hc : Cut nm (nm x) a b) : putL nm (a ++ b) x = a ++ x :: b := by
  unfold putL
  rw [at_cut hc, pos_cut hc, if_neg (by decide)]
  simp
theorem put_cut1 {a b : List α} {x y : α} (hc : Cut nm (nm x) a b) (hy : nm y = nm x) : putL nm (a ++ y :: b) x = a ++ x :: b := by
  unfold putL
  rw [at_cut1 hc hy, pos_cut1 hc hy, if_pos rfl]
  simp
theorem inc_mid {a b : List α} {x : α} (ha : Inc nm a) (hb : Inc nm b) (hc : Cut nm (nm x) a b) : Inc nm (a ++ x :: b) := by
  rw [Inc, List.pairwise_append, List.pairwise_cons]
  exact ⟨ha, ⟨hc.hi, hb⟩, fun y hy z hz => by
    rcases List.mem_cons.1 hz with rfl | hz
    · exact hc.lo y hy
    · exact sLt_trans (hc.lo y hy) (hc.hi z hz)⟩
theorem put_inc {l : List α} (x : α) (h : Inc nm l) : Inc nm (putL nm l x) := by
  rcases cut_of l (nm x) h with ⟨a, b, rfl, hc⟩ | ⟨a, y, b, rfl, hy, hc⟩
  · rw [put_cut hc]
    rw [Inc, List.pairwise_append] at h
    exact inc_mid h.1 h.2.1 hc
  · rw [put_cut1 hc hy]
    rw [Inc, List.pairwise_append, List.pairwise_cons] at h
    exact inc_mid h.1 h.2.1.2 hc
theorem cut_ne {a b : List α} {s : ByteArray} (hc : Cut nm s a b) {y : α} (hy : y ∈ a ∨ y ∈ b) : nm y ≠ s := by
  rintro rfl
  rcases hy with hy | hy
  · have := hc.lo y hy; rw [sLt_irrefl] at this; cases this
  · have := hc.hi y hy; rw [sLt_irrefl] at this; cases this
theorem put_mem {l : List α} {x z : α} (h : Inc nm l) : z ∈ putL nm l x ↔ z = x ∨ (z ∈ l ∧ nm z ≠ nm x) := by
  rcases cut_of l (nm x) h with ⟨a, b, rfl, hc⟩ | ⟨a, y, b, rfl, hy, hc⟩
  · rw [put_cut hc]
    simp only [List.mem_append, List.mem_cons]
    constructor
    · rintro (h | h | h)
      · exact .inr ⟨.inl h, cut_ne hc (.inl h)⟩
      · exact .inl h
      · exact .inr ⟨.inr h, cut_ne hc (.inr h)⟩
    · rintro (h | ⟨h | h, _⟩)
      · exact .inr (.inl h)
      · exact .inl h
      · exact .inr (.inr h)
  · rw [put_cut1 hc hy]
    simp only [List.mem_append, List.mem_cons]
    constructor
    · rintro (h | h | h)
      · exact .inr ⟨.inl h, cut_ne hc (.inl h)⟩
      · exact .inl h
      · exact .inr ⟨.inr (.inr h), cut_ne hc (.inr h)⟩
    · rintro (h | ⟨h | h | h, hn⟩)
      · exact .inr (.inl h)
      · exact .inl h
      · subst h; exact absurd hy hn
      · exact .inr (.inr h)
theorem inc_uniq {l : List α} (h : Inc nm l) {x y : α} (hx : x ∈ l) (hy : y ∈ l) (he : nm x = nm y) : x = y := by
  obtain ⟨i, hi, rfl⟩ := List.getElem_of_mem hx
  obtain ⟨j, hj, rfl⟩ := List.getElem_of_mem hy
  rw [Inc, List.pairwise_iff_getElem] at h
  rcases Nat.lt_trichotomy i j with hij | rfl | hij
  · have := h i j hi hj hij; rw [he, sLt_irrefl] at this; cases this
  · rfl
  · have := h j i hj hi hij; rw [he, sLt_irrefl] at this; cases this
theorem inc_ext : ∀ {l m : List α}, Inc nm l → Inc nm m → (∀ x, x ∈ l ↔ x ∈ m) → l = m
  | [], [], _, _, _ => rfl
  | [], y :: m, _, _, h => by have := (h y).2 (by simp); cases this
  | x :: l, [], _, _, h => by have := (h x).1 (by simp); cases this
  | x :: l, y :: m, h1, h2, h => by
    have h1' := List.pairwise_cons.1 h1
    have h2' := List.pairwise_cons.1 h2
    have hxy : x = y := by
      rcases List.mem_cons.1 ((h x).1 (by simp)) with e | hx
      · exact e
      · rcases List.mem_cons.1 ((h y).2 (by simp)) with e | hy
        · exact e.symm
        · have a := h2'.1 x hx
          have b := h1'.1 y hy
          have := sLt_trans a b
          rw [sLt_irrefl] at this; cases this
    subst hxy
    congr 1
    refine inc_ext h1'.2 h2'.2 fun z => ?_
    have hz := h z
    simp only [List.mem_cons] at hz
    constructor
    · intro hzl
      rcases hz.1 (.inr hzl) with rfl | hm
      · have := h1'.1 z hzl; rw [sLt_irrefl] at this; cases this
      · exact hm
    · intro hzm
      rcases hz.2 (.inr hzm) with rfl | hm
      · have := h2'.1 z hzm; rw [sLt_irrefl] at this; cases this
      · exact hm
theorem put_comm {l : List α} {x y : α} (h : Inc nm l) (hn : nm x ≠ nm y) : putL nm (putL nm l x) y = putL nm (putL nm l y) x := by
  refine inc_ext (put_inc y (put_inc x h)) (put_inc x (put_inc y h)) fun z => ?_
  rw [put_mem (put_inc x h), put_mem h, put_mem (put_inc y h), put_mem h]
  constructor
  · rintro (rfl | ⟨rfl | ⟨h1, h2⟩, h3⟩)
    · exact .inr ⟨.inl rfl, fun e => hn e.symm⟩
    · exact .inl rfl
    · exact .inr ⟨.inr ⟨h1, h3⟩, h2⟩
  · rintro (rfl | ⟨rfl | ⟨h1, h2⟩, h3⟩)
    · exact .inr ⟨.inl rfl, hn⟩
    · exact .inl rfl
    · exact .inr ⟨.inr ⟨h1, h3⟩, h2⟩
theorem put_len {l : List α} {x : α} (h : Inc nm l) : (putL nm l x).length = if atF nm l (nm x) = true then l.length else l.length + 1 := by
  rcases cut_of l (nm x) h with ⟨a, b, rfl, hc⟩ | ⟨a, y, b, rfl, hy, hc⟩
  · rw [put_cut hc, at_cut hc]; simp; omega
  · rw [put_cut1 hc hy, at_cut1 hc hy]; simp
theorem find_inc {l : List α} (h : Inc nm l) {x : α} (hx : x ∈ l) : l.find? (fun y => decide (nm y = nm x)) = some x := by
  cases hf : l.find? fun y => decide (nm y = nm x) with
  | none =>
    rw [List.find?_eq_none] at hf
    have := hf x hx
    simp at this
  | some y =>
    have h1 := List.mem_of_find?_eq_some hf
    have h2 := List.find?_some hf
    rw [inc_uniq h h1 hx (by simpa using h2)]
theorem find_iff {l : List α} (h : Inc nm l) {s : ByteArray} {x : α} : l.find? (fun y => decide (nm y = s)) = some x ↔ x ∈ l ∧ nm x = s := by
  constructor
  · intro hf
    exact ⟨List.mem_of_find?_eq_some hf, by simpa using List.find?_some hf⟩
  · rintro ⟨hx, rfl⟩; exact find_inc h hx
theorem find_none {l : List α} {s : ByteArray} : l.find? (fun y => decide (nm y = s)) = none ↔ ∀ x ∈ l, nm x ≠ s := by
  rw [List.find?_eq_none]; simp
theorem put_find {l : List α} {x : α} (h : Inc nm l) (s : ByteArray) : (putL nm l x).find? (fun y => decide (nm y = s)) = if nm x = s then some x else l.find? fun y => decide (nm y = s) := by
  have h1 := put_inc x h
  split
  · rename_i e; subst e; exact find_inc h1 ((put_mem h).2 (.inl rfl))
  · rename_i e
    cases hf : l.find? fun y => decide (nm y = s) with
    | none =>
      rw [find_none] at hf ⊢
      intro z hz
      rcases (put_mem h).1 hz with rfl | ⟨hz, _⟩
      · exact e
      · exact hf z hz
    | some y =>
      rw [find_iff h] at hf
      rw [find_iff h1]
      exact ⟨(put_mem h).2 (.inr ⟨hf.1, fun e' => e (e'.symm.trans hf.2)⟩), hf.2⟩
theorem at_find {l : List α} (h : Inc nm l) (s : ByteArray) : atF nm l s = (l.find? fun y => decide (nm y = s)).isSome := by
  rcases cut_of l s h with ⟨a, b, rfl, hc⟩ | ⟨a, y, b, rfl, hy, hc⟩
  · rw [at_cut hc]
    have : (a ++ b).find? (fun y => decide (nm y = s)) = none := find_none.2 fun x hx => cut_ne hc (List.mem_append.1 hx)
    rw [this]; rfl
  · rw [at_cut1 hc hy]
    have : (a ++ y :: b).find? (fun y => decide (nm y = s)) = some y := (find_iff h).2 ⟨by simp, hy⟩
    rw [this]; rfl
theorem put_same {l : List α} {x : α} (h : Inc nm l) (hx : x ∈ l) : putL nm l x = l :=
  inc_ext (put_inc x h) h fun z => by
    rw [put_mem h]
    constructor
    · rintro (rfl | ⟨h1, _⟩)
      · exact hx
      · exact h1
    · intro hz
      by_cases e : nm z = nm x
      · exact .inl (inc_uniq h hz hx e)
      · exact .inr ⟨hz, e⟩
end
end Go.Sx
