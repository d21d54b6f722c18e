/- The order of names; looking for a name in an ordered list; putting into it. -/
import Derived.Test.YtkmdojpfccjnoaaGreatSxRow2
import Derived.Test.YtkmdojpfccjnoaaGreatM10
set_option linter.all false
namespace Go.Sx
open Go
theorem bl_irrefl : ∀ l : List UInt8, Op.bytesLess l l = false
  | [] => rfl
  | a :: l => by simp [Op.bytesLess, bl_irrefl l]
theorem bl_trans : ∀ (a b c : List UInt8), Op.bytesLess a b = true → Op.bytesLess b c = true → Op.bytesLess a c = true := by
  intro a
  induction a with
  | nil =>
    intro b c h1 h2
    cases c with
    | nil => cases b <;> simp [Op.bytesLess] at h2
    | cons => rfl
  | cons x a ih =>
    intro b c h1 h2
    cases b with
    | nil => simp [Op.bytesLess] at h1
    | cons y b =>
      cases c with
      | nil => simp [Op.bytesLess] at h2
      | cons z c =>
        simp only [Op.bytesLess, Bool.or_eq_true, decide_eq_true_eq, Bool.and_eq_true, beq_iff_eq] at h1 h2 ⊢
        rcases h1 with h1 | ⟨rfl, h1⟩
        · rcases h2 with h2 | ⟨rfl, h2⟩
          · exact .inl (UInt8.lt_trans h1 h2)
          · exact .inl h1
        · rcases h2 with h2 | ⟨rfl, h2⟩
          · exact .inl h2
          · exact .inr ⟨rfl, ih b c h1 h2⟩
theorem bl_tri : ∀ (a b : List UInt8), Op.bytesLess a b = false → Op.bytesLess b a = false → a = b := by
  intro a
  induction a with
  | nil => intro b h1 h2; cases b with
    | nil => rfl
    | cons => simp [Op.bytesLess] at h1
  | cons x a ih =>
    intro b h1 h2
    cases b with
    | nil => simp [Op.bytesLess] at h2
    | cons y b =>
      simp only [Op.bytesLess, Bool.or_eq_false_iff, decide_eq_false_iff_not, Bool.and_eq_false_iff, beq_eq_false_iff_ne] at h1 h2
      obtain ⟨h1, h3⟩ := h1
      obtain ⟨h2, h4⟩ := h2
      have e : x = y := by
        apply UInt8.toNat_inj.1
        have a1 : ¬ x.toNat < y.toNat := fun h => h1 (UInt8.lt_iff_toNat_lt.2 h)
        have a2 : ¬ y.toNat < x.toNat := fun h => h2 (UInt8.lt_iff_toNat_lt.2 h)
        omega
      subst e
      have h3' : Op.bytesLess a b = false := by rcases h3 with h | h; exact absurd rfl h; simpa using h
      have h4' : Op.bytesLess b a = false := by rcases h4 with h | h; exact absurd rfl h; simpa using h
      rw [ih b h3' h4']
theorem sLt_irrefl (s : ByteArray) : sLt s s = false := bl_irrefl _
theorem sLt_trans {a b c : ByteArray} (h1 : sLt a b = true) (h2 : sLt b c = true) : sLt a c = true := bl_trans _ _ _ h1 h2
theorem sLt_tri {a b : ByteArray} (h1 : sLt a b = false) (h2 : sLt b a = false) : a = b := by
  have h := bl_tri _ _ h1 h2
  have := str_eq a b
  rw [h] at this
  simpa using this.symm
theorem sLt_asymm {a b : ByteArray} (h : sLt a b = true) : sLt b a = false := by
  cases h2 : sLt b a with
  | false => rfl
  | true => have := sLt_trans h h2; rw [sLt_irrefl] at this; cases this
theorem cmpS_neg {a b : ByteArray} : cmpS a b < 0 ↔ sLt a b = true := by
  unfold cmpS; split
  · rename_i h; simp [h]
  · rename_i h; split <;> simp [h]
theorem cmpS_zero {a b : ByteArray} : cmpS a b = 0 ↔ a = b := by
  unfold cmpS; split
  · rename_i h
    constructor
    · intro h2; cases h2
    · rintro rfl; rw [sLt_irrefl] at h; cases h
  · rename_i h
    split
    · rename_i h2
      constructor
      · intro h3; cases h3
      · rintro rfl; simp at h2
    · rename_i h2; simp [h] at h2; simp [h2]
/-- strictly ordered -/
def Srt {α : Type} (nm : α → ByteArray) (l : List α) : Prop := ∀ i j (hj : j < l.length) (hi : i < j), sLt (nm (l[i]'(by omega))) (nm l[j]) = true
theorem Srt.of_ord {α : Type} {nm : α → ByteArray} {l : List α} (h : ordF nm l = true) : Srt nm l := by
  have step : ∀ j (hj : j + 1 < l.length), sLt (nm (l[j]'(by omega))) (nm l[j + 1]) = true := by
    intro j hj
    rw [ordF, allP, List.all_eq_true] at h
    have h1 := h (j + 1) (List.mem_range.2 hj)
    have h2 : (l.take (j + 1)).getLast? = some (l[j]'(by omega)) := by
      rw [List.getLast?_eq_getElem?, List.length_take, Nat.min_eq_left (by omega), List.getElem?_take, if_pos (by omega), List.getElem?_eq_getElem]
      rfl
    simpa [List.getElem?_eq_getElem hj, ordAt, h2] using h1
  intro i j
  induction j with
  | zero => intro hj hi; omega
  | succ j ih =>
    intro hj hi
    rcases Nat.lt_or_ge i j with hij | hij
    · exact sLt_trans (ih (by omega) hij) (step j hj)
    · obtain rfl : i = j := by omega
      exact step i hj
/-- where a name stands, or would stand -/
def posF {α : Type} (nm : α → ByteArray) (l : List α) (s : ByteArray) : Nat := l.findIdx fun x => !sLt (nm x) s
def atF {α : Type} (nm : α → ByteArray) (l : List α) (s : ByteArray) : Bool := match l[posF nm l s]? with | some x => decide (nm x = s) | none => false
theorem pos_le {α : Type} (nm : α → ByteArray) (l : List α) (s : ByteArray) : posF nm l s ≤ l.length := List.findIdx_le_length
theorem pos_eq {α : Type} {nm : α → ByteArray} {l : List α} {s : ByteArray} {i : Nat} (hi : i ≤ l.length) (h1 : ∀ q x, q < i → l[q]? = some x → sLt (nm x) s = true) (h2 : ∀ q x, i ≤ q → l[q]? = some x → sLt (nm x) s = false) : posF nm l s = i := by
  rcases Nat.lt_or_ge i l.length with h | h
  · refine (List.findIdx_eq h).2 ⟨by simp [h2 i _ (Nat.le_refl _) (List.getElem?_eq_getElem h)], fun j hj => ?_⟩
    simp [h1 j _ hj (List.getElem?_eq_getElem (by omega))]
  · obtain rfl : i = l.length := by omega
    refine List.findIdx_eq_length.2 fun x hx => ?_
    obtain ⟨j, hj, rfl⟩ := List.getElem_of_mem hx
    simp [h1 j _ hj (List.getElem?_eq_getElem hj)]
theorem bs_lo {α : Type} {nm : α → ByteArray} {l : List α} {s : ByteArray} {h : Nat} (hs : Srt nm l) (hh : h < l.length) (hl : sLt (nm l[h]) s = true) (q : Nat) (x : α) (hq : q < h + 1) (hx : l[q]? = some x) : sLt (nm x) s = true := by
  obtain ⟨hql, rfl⟩ := List.getElem?_eq_some_iff.1 hx
  rcases Nat.lt_or_ge q h with hqh | hqh
  · exact sLt_trans (hs q h hh hqh) hl
  · obtain rfl : q = h := by omega
    exact hl
theorem bs_hi {α : Type} {nm : α → ByteArray} {l : List α} {s : ByteArray} {h : Nat} (hs : Srt nm l) (hh : h < l.length) (hl : sLt (nm l[h]) s = false) (q : Nat) (x : α) (hq : h ≤ q) (hx : l[q]? = some x) : sLt (nm x) s = false := by
  obtain ⟨hql, rfl⟩ := List.getElem?_eq_some_iff.1 hx
  rcases Nat.lt_or_ge h q with hqh | hqh
  · cases hc : sLt (nm l[q]) s with
    | false => rfl
    | true => have := sLt_trans (hs h q hql hqh) hc; rw [this] at hl; cases hl
  · obtain rfl : q = h := by omega
    exact hl
theorem at_of {α : Type} {nm : α → ByteArray} {l : List α} {s : ByteArray} {i : Nat} (hp : posF nm l s = i) (hi : i < l.length) : atF nm l s = decide (nm l[i] = s) := by
  simp [atF, hp, hi]
theorem at_no {α : Type} {nm : α → ByteArray} {l : List α} {s : ByteArray} {i : Nat} (hp : posF nm l s = i) (hi : ¬ i < l.length) : atF nm l s = false := by
  simp [atF, hp, List.getElem?_eq_none (by omega : l.length ≤ i)]
theorem atF_lt {α : Type} {nm : α → ByteArray} {l : List α} {s : ByteArray} (h : atF nm l s = true) : posF nm l s < l.length := by
  rcases Nat.lt_or_ge (posF nm l s) l.length with h1 | h1
  · exact h1
  · rw [at_no rfl (by omega)] at h; cases h
theorem wrap_u64 (x : Int) (h0 : 0 ≤ x) (h : x < 18446744073709551616) : IntKind.u64.wrap x = x := by
  simp [IntKind.wrap, IntKind.signed, IntKind.bits]
  omega
/-- put into an ordered list -/
def putL {α : Type} (nm : α → ByteArray) (l : List α) (x : α) : List α := if atF nm l (nm x) = true then l.set (posF nm l (nm x)) x else l.take (posF nm l (nm x)) ++ x :: l.drop (posF nm l (nm x))
end Go.Sx
