/- Small plain lemmas for the ends of loops. -/
import Derived.Test.YtkmdojpfccjnoaaGreatSxBuild
set_option linter.all false
namespace Go.Sx
open Go
theorem sx_next {α : Type} {l : List α} {s : α} {i : Nat} (hn : ∀ j, j < i → l[j]? ≠ some s) (hlt : i < l.length) (hne : ¬ l[i] = s) (j : Nat) (hj : j < i + 1) : l[j]? ≠ some s := by
  by_cases e : j = i
  · subst e
    rw [List.getElem?_eq_getElem hlt]
    simpa using hne
  · exact hn j (by omega)
theorem sx_not_mem {α : Type} (l : List α) (s : α) [Decidable (s ∈ l)] (hn : ∀ j, j < l.length → l[j]? ≠ some s) : decide (s ∈ l) = false := by
  rw [decide_eq_false_iff_not]
  intro hm
  obtain ⟨j, hj, e⟩ := List.getElem_of_mem hm
  exact hn j hj (by rw [List.getElem?_eq_getElem hj, e])
theorem all_succ {p : Nat → Bool} {i : Nat} (h : (List.range i).all p = true) (hp : p i = true) : (List.range (i + 1)).all p = true := by
  rw [List.range_succ, List.all_append, h]; simp [hp]
theorem all_not {p : Nat → Bool} {i n : Nat} (hi : i < n) (hp : p i = false) : (List.range n).all p = false := by
  rw [List.all_eq_false]
  exact ⟨i, List.mem_range.2 hi, by simp [hp]⟩
theorem wrap_u8 (i : Nat) (h : i < 256) : IntKind.u8.wrap (i : Int) = (i : Int) := by
  simp [IntKind.wrap, IntKind.signed, IntKind.bits]
  omega
/-- the first place of what has a property, or -1 -/
def idxF {α : Type} (p : α → Bool) (l : List α) : Int := ((l.findIdx? p).map fun i => (i : Int)).getD (-1)
theorem idxF_found {α : Type} {p : α → Bool} {l : List α} {i : Nat} (hi : i < l.length) (hp : p l[i] = true) (hn : ∀ j x, j < i → l[j]? = some x → p x = false) : idxF p l = (i : Int) := by
  have : l.findIdx? p = some i := by
    rw [List.findIdx?_eq_some_iff_getElem]
    exact ⟨hi, hp, fun j hj => by simpa using hn j _ hj (List.getElem?_eq_getElem (by omega))⟩
  simp [idxF, this]
theorem idxF_none {α : Type} {p : α → Bool} {l : List α} (hn : ∀ j x, j < l.length → l[j]? = some x → p x = false) : idxF p l = -1 := by
  have : l.findIdx? p = none := by
    rw [List.findIdx?_eq_none_iff]
    intro x hx
    obtain ⟨j, hj, rfl⟩ := List.getElem_of_mem hx
    exact hn j _ hj (List.getElem?_eq_getElem hj)
  simp [idxF, this]
theorem idx_next {α : Type} {p : α → Bool} {l : List α} {i : Nat} (hn : ∀ j x, j < i → l[j]? = some x → p x = false) (hlt : i < l.length) (hp : p l[i] = false) (j : Nat) (x : α) (hj : j < i + 1) (hx : l[j]? = some x) : p x = false := by
  by_cases e : j = i
  · subst e
    rw [List.getElem?_eq_getElem hlt] at hx
    cases hx
    exact hp
  · exact hn j x (by omega) hx
theorem find_at {α : Type} {p : α → Bool} {l : List α} {i : Nat} (hi : i < l.length) (hp : p l[i] = true) (hn : ∀ j x, j < i → l[j]? = some x → p x = false) : l.find? p = some l[i] := by
  rw [List.find?_eq_some_iff_getElem]
  exact ⟨hp, i, hi, rfl, fun j hj => by simpa using hn j _ hj (List.getElem?_eq_getElem (by omega))⟩
theorem find_no {α : Type} {p : α → Bool} {l : List α} (hn : ∀ j x, j < l.length → l[j]? = some x → p x = false) : l.find? p = none := by
  rw [List.find?_eq_none]
  intro x hx
  obtain ⟨j, hj, rfl⟩ := List.getElem_of_mem hx
  simp [hn j _ hj (List.getElem?_eq_getElem hj)]
theorem idxF_any {α : Type} (p : α → Bool) (l : List α) : decide (0 ≤ idxF p l) = l.any p := by
  cases h : l.findIdx? p with
  | none =>
    have e : idxF p l = -1 := by simp [idxF, h]
    rw [List.findIdx?_eq_none_iff] at h
    rw [e, List.any_eq_false.2 (fun x hx => by simp [h x hx])]
    rfl
  | some i =>
    have e : idxF p l = (i : Int) := by simp [idxF, h]
    rw [List.findIdx?_eq_some_iff_getElem] at h
    obtain ⟨hi, hp, _⟩ := h
    rw [e, List.any_eq_true.2 ⟨_, List.getElem_mem hi, hp⟩]
    simp
theorem idxF_find {α : Type} (p : α → Bool) (l : List α) : (idxF p l < 0 ∧ l.find? p = none) ∨ ∃ (i : Nat) (h : i < l.length), idxF p l = (i : Int) ∧ l.find? p = some l[i] := by
  unfold idxF
  cases h : l.findIdx? p with
  | none =>
    left
    rw [List.findIdx?_eq_none_iff] at h
    refine ⟨by simp, ?_⟩
    rw [List.find?_eq_none]
    intro x hx
    simp [h x hx]
  | some i =>
    right
    rw [List.findIdx?_eq_some_iff_getElem] at h
    obtain ⟨hi, hp, hn⟩ := h
    refine ⟨i, hi, by simp, ?_⟩
    rw [List.find?_eq_some_iff_getElem]
    exact ⟨hp, i, hi, rfl, fun j hj => by simpa using hn j hj⟩
theorem any_mem {α : Type} [DecidableEq α] (s : α) (l : List α) [Decidable (s ∈ l)] : l.any (fun x => decide (s = x)) = decide (s ∈ l) := by
  by_cases h : s ∈ l
  · rw [decide_eq_true h]; exact List.any_eq_true.2 ⟨s, h, by simp⟩
  · rw [decide_eq_false h]; exact List.any_eq_false.2 (fun x hx => by simp; rintro rfl; exact h hx)
end Go.Sx
