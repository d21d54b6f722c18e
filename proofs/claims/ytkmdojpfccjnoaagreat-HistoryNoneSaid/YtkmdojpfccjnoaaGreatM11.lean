/- Sorting events by their day, keeping the order of one day: the plain part. -/
import Derived.Test.YtkmdojpfccjnoaaGreatM16
set_option linter.all false
namespace Go.Sx
open Go
/-- what is sorted by a number -/
class Day (α : Type) where
  day : α → Int
  ch : α → List Value
  k : Nat
  len : ∀ x, (ch x).length = k
instance : Day Evt := ⟨Evt.day, Evt.cells, 14, fun _ => rfl⟩
variable {α : Type} [Day α]
def evCh (l : List α) : List (List Value) := l.map Day.ch
theorem evCh_uk (l : List α) : Uk (Day.k α) (evCh l) := fun c hc => by obtain ⟨e, _, rfl⟩ := List.mem_map.1 hc; exact Day.len e
theorem evCh_len (l : List α) : (evCh l).length = l.length := by simp [evCh]
theorem evCh_at {l : List α} {i : Nat} (h : i < l.length) : (evCh l)[i]? = some (Day.ch l[i]) := by simp [evCh, h]
theorem evCh_set (l : List α) (i : Nat) (e : α) : (evCh l).set i (Day.ch e) = evCh (l.set i e) := by simp [evCh, List.map_set]
theorem evCh_ukE (l : List Evt) : Uk 14 (evCh l) := evCh_uk l
theorem evCh_flat {I : IMap} (l : List Evt) : FlatC I (evCh l) l := by
  induction l with
  | nil => exact .nil
  | cons e l ih => exact .cons rfl ih
theorem evCh_rest {l : List Evt} {rest : List (List Value)} {i : Nat} (h : i < l.length) : (evCh l ++ rest)[i]? = some (Day.ch l[i]) := by
  rw [List.getElem?_append_left (by rw [evCh_len]; exact h)]; exact evCh_at h
theorem evCh_set' (l : List Evt) (rest : List (List Value)) (i : Nat) (h : i < l.length) (e : Evt) : (evCh l ++ rest).set i (Day.ch e) = evCh (l.set i e) ++ rest := by
  rw [List.set_append_left _ _ (by rw [evCh_len]; exact h), evCh_set]
theorem evCh_of {I : IMap} {xss : List (List Value)} {l : List Evt} (h : FlatC I xss l) : xss = evCh l := by
  induction h with
  | nil => rfl
  | cons h1 _ ih => rw [ih]; simp only [evCh, List.map_cons]; rw [show _ = _ from h1]; rfl
/-- exchange two -/
def swp (l : List α) (i j : Nat) : List α := match l[i]?, l[j]? with
  | some x, some y => (l.set i y).set j x
  | _, _ => l
theorem swp_eq {l : List α} {i j : Nat} (hi : i < l.length) (hj : j < l.length) : swp l i j = (l.set i l[j]).set j l[i] := by simp [swp, hi, hj]
theorem swp_len (l : List α) (i j : Nat) : (swp l i j).length = l.length := by unfold swp; split <;> simp
def dayAt (l : List α) (k : Nat) : Int := (l[k]?.map Day.day).getD 0
theorem dayAt_eq {l : List α} {k : Nat} (h : k < l.length) : dayAt l k = Day.day l[k] := by simp [dayAt, h]
theorem swp_get {l : List α} {i j : Nat} (hi : i < l.length) (hj : j < l.length) (k : Nat) : (swp l i j)[k]? = if k = j then l[i]? else if k = i then l[j]? else l[k]? := by
  rw [swp_eq hi hj, List.getElem?_set, List.getElem?_set]
  by_cases h1 : j = k
  · subst h1; simp [hj, hi]
  · have : ¬ k = j := fun e => h1 e.symm
    by_cases h2 : i = k
    · subst h2; simp [h1, this, hi, hj]
    · have h3 : ¬ k = i := fun e => h2 e.symm
      simp [h1, h2, this, h3]
theorem swp_day {l : List α} {i j : Nat} (hi : i < l.length) (hj : j < l.length) (k : Nat) : dayAt (swp l i j) k = if k = j then dayAt l i else if k = i then dayAt l j else dayAt l k := by
  unfold dayAt
  rw [swp_get hi hj]
  split
  · rfl
  · split <;> rfl
/-- as many of each day, in the same order -/
def Stb (l m : List α) : Prop := l.length = m.length ∧ ∀ d : Int, m.filter (fun e => decide (Day.day e = d)) = l.filter (fun e => decide (Day.day e = d))
theorem Stb.refl (l : List α) : Stb l l := ⟨rfl, fun _ => rfl⟩
theorem Stb.trans {l m k : List α} (h : Stb l m) (h' : Stb m k) : Stb l k := ⟨h.1.trans h'.1, fun d => (h'.2 d).trans (h.2 d)⟩
/-- x in front of what is later than it may go behind -/
theorem filter_swap (a b : List α) (d : Int) (h : ∀ x ∈ a, ∀ y ∈ b, Day.day x ≠ Day.day y) : (b ++ a).filter (fun e => decide (Day.day e = d)) = (a ++ b).filter (fun e => decide (Day.day e = d)) := by
  rw [List.filter_append, List.filter_append]
  by_cases ha : a.filter (fun e => decide (Day.day e = d)) = []
  · rw [ha]; simp
  · have hb : b.filter (fun e => decide (Day.day e = d)) = [] := by
      rw [List.filter_eq_nil_iff]
      intro y hy
      obtain ⟨x, hx⟩ := List.exists_mem_of_ne_nil _ ha
      rw [List.mem_filter] at hx
      have := h x hx.1 y hy
      simp at hx ⊢
      omega
    rw [hb]; simp
theorem Stb.block {p a b s : List α} (h : ∀ x ∈ a, ∀ y ∈ b, Day.day x ≠ Day.day y) : Stb (p ++ (a ++ (b ++ s))) (p ++ (b ++ (a ++ s))) := by
  refine ⟨by simp; omega, fun d => ?_⟩
  have := filter_swap a b d h
  rw [List.filter_append, List.filter_append] at this
  simp only [List.filter_append]
  congr 1
  rw [← List.append_assoc, this, List.append_assoc]
def swpN (l : List α) (a b : Nat) : Nat → List α
  | 0 => l
  | k + 1 => swp (swpN l a b k) (a + k) (b + k)
theorem swpN_len (l : List α) (a b : Nat) : ∀ k, (swpN l a b k).length = l.length
  | 0 => rfl
  | k + 1 => by rw [swpN, swp_len, swpN_len l a b k]
theorem evCh_swp {l : List α} {i j : Nat} (hi : i < l.length) (hj : j < l.length) : ((evCh l).set i (Day.ch l[j])).set j (Day.ch l[i]) = evCh (swp l i j) := by
  rw [evCh_set, evCh_set, swp_eq hi hj]
theorem evCh_swp' {l : List α} {i j : Nat} (hi : i < l.length) (hj : j < l.length) (hij : i ≠ j) : ((evCh l).set j (Day.ch l[i])).set i (Day.ch l[j]) = evCh (swp l i j) := by
  rw [evCh_set, evCh_set, swp_eq hi hj, List.set_comm _ _ hij.symm]
theorem split2 (m : List α) {j : Nat} (hj : j + 1 < m.length) : m = m.take j ++ ([m[j]] ++ ([m[j + 1]] ++ m.drop (j + 2))) := by
  conv => lhs; rw [← List.take_append_drop j m, List.drop_eq_getElem_cons (by omega), List.drop_eq_getElem_cons hj]
  rfl
theorem swp_adj (m : List α) {j : Nat} (hj : j + 1 < m.length) : swp m (j + 1) j = m.take j ++ ([m[j + 1]] ++ ([m[j]] ++ m.drop (j + 2))) := by
  rw [swp_eq hj (by omega)]
  apply List.ext_getElem?
  intro k
  rw [List.getElem?_set, List.getElem?_set, List.getElem?_append]
  simp only [List.length_take, List.length_set]
  have hmin : min j m.length = j := by omega
  rw [hmin]
  by_cases h1 : k < j
  · simp [h1, show ¬ j = k by omega, show ¬ j + 1 = k by omega, List.getElem?_take]
  · rw [if_neg h1]
    obtain ⟨q, rfl⟩ : ∃ q, k = j + q := ⟨k - j, by omega⟩
    rw [Nat.add_sub_cancel_left]
    match q with
    | 0 => simp; omega
    | 1 => simp [hj]
    | q + 2 =>
      simp only [show ¬ j = j + (q + 2) by omega, show ¬ j + 1 = j + (q + 2) by omega, if_false]
      simp [List.getElem?_drop]
      congr 1
      omega
theorem swp_stb {l m : List α} {j : Nat} (h : Stb l m) (hj : j + 1 < m.length) (hd : dayAt m (j + 1) < dayAt m j) : Stb l (swp m (j + 1) j) := by
  refine h.trans ?_
  have e := split2 m hj
  rw [swp_adj m hj]
  conv => arg 1; rw [e]
  refine Stb.block fun x hx y hy => ?_
  rw [List.mem_singleton] at hx hy
  subst hx hy
  rw [dayAt_eq hj, dayAt_eq (by omega)] at hd
  omega
theorem swp_stb' {l m : List α} {j : Nat} (h : Stb l m) (h0 : 0 < j) (hj : j < m.length) (hd : dayAt m j < dayAt m (j - 1)) : Stb l (swp m j (j - 1)) := by
  obtain ⟨q, rfl⟩ : ∃ q, j = q + 1 := ⟨j - 1, by omega⟩
  exact swp_stb h hj hd
theorem cmpI_neg {a b : Int} : cmpI a b < 0 ↔ a < b := by
  unfold cmpI
  split
  · rename_i h; simp [h]
  · rename_i h; split <;> simp [h]
/-- a segment is sorted, and nothing else has turned -/
structure Seg (l m : List α) (a b : Nat) : Prop where
  stb : Stb l m
  out : ∀ k, k < a ∨ b ≤ k → m[k]? = l[k]?
  srt : ∀ p q, a ≤ p → p < q → q < b → dayAt m p ≤ dayAt m q
theorem Seg.one (l : List α) (a : Nat) : Seg l l a (a + 1) := ⟨Stb.refl l, fun _ _ => rfl, fun p q h1 h2 h3 => by omega⟩
theorem Seg.none {l : List α} {a b : Nat} (h : b ≤ a + 1) : Seg l l a b := ⟨Stb.refl l, fun _ _ => rfl, fun p q h1 h2 h3 => by omega⟩
/-- .. but for the element at j, that is on its way down -/
structure Ins (l m : List α) (a i j : Nat) : Prop where
  stb : Stb l m
  out : ∀ k, k < a ∨ i + 1 ≤ k → m[k]? = l[k]?
  srt : ∀ p q, a ≤ p → p < q → q ≤ i → q ≠ j → dayAt m p ≤ dayAt m q
theorem Ins.start {l m : List α} {a i : Nat} (h : Seg l m a i) : Ins l m a i i := ⟨h.stb, fun k hk => h.out k (by omega), fun p q h1 h2 h3 h4 => h.srt p q h1 h2 (by omega)⟩
theorem Ins.step {l m : List α} {a i j : Nat} (h : Ins l m a i j) (h1 : a < j) (h2 : j ≤ i) (h3 : i < m.length) (hd : dayAt m j < dayAt m (j - 1)) : Ins l (swp m j (j - 1)) a i (j - 1) := by
  refine ⟨swp_stb' h.stb (by omega) (by omega) hd, fun k hk => ?_, fun p q p1 p2 p3 p4 => ?_⟩
  · rw [swp_get (by omega) (by omega), if_neg (by omega), if_neg (by omega)]
    exact h.out k hk
  · rw [swp_day (by omega) (by omega), swp_day (by omega) (by omega)]
    rw [if_neg p4]
    by_cases hq : q = j
    · subst hq
      rw [if_pos rfl]
      by_cases hp : p = q - 1
      · rw [if_pos hp]; omega
      · rw [if_neg hp, if_neg (by omega)]
        exact h.srt p (q - 1) p1 (by omega) (by omega) (by omega)
    · rw [if_neg hq]
      by_cases hp : p = j - 1
      · rw [if_pos hp]
        exact h.srt j q (by omega) (by omega) p3 hq
      · rw [if_neg hp]
        by_cases hp2 : p = j
        · rw [if_pos hp2]
          exact h.srt (j - 1) q (by omega) (by omega) p3 hq
        · rw [if_neg hp2]
          exact h.srt p q p1 p2 p3 hq
theorem Ins.done {l m : List α} {a i j : Nat} (h : Ins l m a i j) (h1 : a ≤ j) (h2 : j ≤ i) (hd : j = a ∨ dayAt m (j - 1) ≤ dayAt m j) : Seg l m a (i + 1) := by
  refine ⟨h.stb, fun k hk => h.out k hk, fun p q p1 p2 p3 => ?_⟩
  by_cases hq : q = j
  · subst hq
    rcases hd with hd | hd
    · omega
    · rcases Nat.lt_or_ge p (q - 1) with hp | hp
      · exact Int.le_trans (h.srt p (q - 1) p1 hp (by omega) (by omega)) hd
      · obtain rfl : p = q - 1 := by omega
        exact hd
  · exact h.srt p q p1 p2 (by omega) hq
theorem Seg.len {l m : List α} {a b : Nat} (h : Seg l m a b) : m.length = l.length := h.stb.1.symm
theorem Ins.len {l m : List α} {a i j : Nat} (h : Ins l m a i j) : m.length = l.length := h.stb.1.symm
/-! blocks that change their places, place by place -/
def swpG (f : Nat → Option α) (a b n k : Nat) : Option α := if a ≤ k ∧ k < a + n then f (k - a + b) else if b ≤ k ∧ k < b + n then f (k - b + a) else f k
/-- [m - i, m) and [m, m + j), the one for the other -/
def rotG (f : Nat → Option α) (m i j k : Nat) : Option α := if m - i ≤ k ∧ k < m - i + j then f (k + i) else if m - i + j ≤ k ∧ k < m + j then f (k - j) else f k
theorem swpN_get {l : List α} {a b : Nat} : ∀ (n : Nat), a + n ≤ b → b + n ≤ l.length → ∀ k, (swpN l a b n)[k]? = swpG (l[·]?) a b n k
  | 0, _, _, k => by
    simp only [swpN, swpG]
    rw [if_neg (by omega), if_neg (by omega)]
  | n + 1, h1, h2, k => by
    have hl := swpN_len l a b n
    rw [swpN, swp_get (by omega) (by omega)]
    have ih := swpN_get n (l := l) (a := a) (b := b) (by omega) (by omega)
    rw [ih, ih, ih]
    simp only [swpG]
    repeat' split
    all_goals first
      | (exfalso; omega)
      | rfl
      | (congr 1; omega)
theorem rot_gt {f g : Nat → Option α} {m i j : Nat} (hm : i ≤ m) (h : j < i) (hg : ∀ k, g k = swpG f (m - i) m j k) (k : Nat) : rotG g m (i - j) j k = rotG f m i j k := by
  simp only [rotG, hg, swpG]
  repeat' split
  all_goals first
    | (exfalso; omega)
    | rfl
    | (congr 1; omega)
theorem rot_lt {f g : Nat → Option α} {m i j : Nat} (hm : i ≤ m) (h : i < j) (hg : ∀ k, g k = swpG f (m - i) (m + j - i) i k) (k : Nat) : rotG g m i (j - i) k = rotG f m i j k := by
  simp only [rotG, hg, swpG]
  repeat' split
  all_goals first
    | (exfalso; omega)
    | rfl
    | (congr 1; omega)
theorem rot_eq {f g : Nat → Option α} {m i : Nat} (hm : i ≤ m) (hg : ∀ k, g k = swpG f (m - i) m i k) (k : Nat) : g k = rotG f m i i k := by
  simp only [rotG, hg, swpG]
  repeat' split
  all_goals first
    | (exfalso; omega)
    | rfl
    | (congr 1; omega)
end Go.Sx
