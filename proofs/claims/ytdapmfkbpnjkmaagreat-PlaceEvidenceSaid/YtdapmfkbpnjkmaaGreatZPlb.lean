/- The library of a symbolic run and the walks: merged. -/
import Derived.Test.YtdapmfkbpnjkmaaGreatZPla
import Derived.Test.YtdapmfkbpnjkmaaGreatChecked
/- Sorting events by their day, keeping the order of one day: the plain part. -/
set_option linter.all false
namespace Go.Sx
open Go
/-- what is sorted by a number -/
class Day (α : Type) where
  day : α → Int
  ch : α → List Value
  k : Nat
  len : ∀ x, (ch x).length = k
instance : Day Evt := ⟨Evt.day, Evt.cells, 14, fun _ => rfl⟩
variable {α : Type} [Day α]
def evCh (l : List α) : List (List Value) := l.map Day.ch
theorem evCh_uk (l : List α) : Uk (Day.k α) (evCh l) := fun c hc => by obtain ⟨e, _, rfl⟩ := List.mem_map.1 hc; exact Day.len e
theorem evCh_len (l : List α) : (evCh l).length = l.length := by simp [evCh]
theorem evCh_at {l : List α} {i : Nat} (h : i < l.length) : (evCh l)[i]? = some (Day.ch l[i]) := by simp [evCh, h]
theorem evCh_set (l : List α) (i : Nat) (e : α) : (evCh l).set i (Day.ch e) = evCh (l.set i e) := by simp [evCh, List.map_set]
theorem evCh_ukE (l : List Evt) : Uk 14 (evCh l) := evCh_uk l
theorem evCh_flat {I : IMap} (l : List Evt) : FlatC I (evCh l) l := by
  induction l with
  | nil => exact .nil
  | cons e l ih => exact .cons rfl ih
theorem evCh_rest {l : List Evt} {rest : List (List Value)} {i : Nat} (h : i < l.length) : (evCh l ++ rest)[i]? = some (Day.ch l[i]) := by
  rw [List.getElem?_append_left (by rw [evCh_len]; exact h)]; exact evCh_at h
theorem evCh_set' (l : List Evt) (rest : List (List Value)) (i : Nat) (h : i < l.length) (e : Evt) : (evCh l ++ rest).set i (Day.ch e) = evCh (l.set i e) ++ rest := by
  rw [List.set_append_left _ _ (by rw [evCh_len]; exact h), evCh_set]
theorem evCh_of {I : IMap} {xss : List (List Value)} {l : List Evt} (h : FlatC I xss l) : xss = evCh l := by
  induction h with
  | nil => rfl
  | cons h1 _ ih => rw [ih]; simp only [evCh, List.map_cons]; rw [show _ = _ from h1]; rfl
/-- exchange two -/
def swp (l : List α) (i j : Nat) : List α := match l[i]?, l[j]? with
  | some x, some y => (l.set i y).set j x
  | _, _ => l
theorem swp_eq {l : List α} {i j : Nat} (hi : i < l.length) (hj : j < l.length) : swp l i j = (l.set i l[j]).set j l[i] := by simp [swp, hi, hj]
theorem swp_len (l : List α) (i j : Nat) : (swp l i j).length = l.length := by unfold swp; split <;> simp
def dayAt (l : List α) (k : Nat) : Int := (l[k]?.map Day.day).getD 0
theorem dayAt_eq {l : List α} {k : Nat} (h : k < l.length) : dayAt l k = Day.day l[k] := by simp [dayAt, h]
theorem swp_get {l : List α} {i j : Nat} (hi : i < l.length) (hj : j < l.length) (k : Nat) : (swp l i j)[k]? = if k = j then l[i]? else if k = i then l[j]? else l[k]? := by
  rw [swp_eq hi hj, List.getElem?_set, List.getElem?_set]
  by_cases h1 : j = k
  · subst h1; simp [hj, hi]
  · have : ¬ k = j := fun e => h1 e.symm
    by_cases h2 : i = k
    · subst h2; simp [h1, this, hi, hj]
    · have h3 : ¬ k = i := fun e => h2 e.symm
      simp [h1, h2, this, h3]
theorem swp_day {l : List α} {i j : Nat} (hi : i < l.length) (hj : j < l.length) (k : Nat) : dayAt (swp l i j) k = if k = j then dayAt l i else if k = i then dayAt l j else dayAt l k := by
  unfold dayAt
  rw [swp_get hi hj]
  split
  · rfl
  · split <;> rfl
/-- as_ many of each day, in the same order -/
def Stb (l m : List α) : Prop := l.length = m.length ∧ ∀ d : Int, m.filter (fun e => decide (Day.day e = d)) = l.filter (fun e => decide (Day.day e = d))
theorem Stb.refl (l : List α) : Stb l l := ⟨rfl, fun _ => rfl⟩
theorem Stb.trans {l m k : List α} (h : Stb l m) (h' : Stb m k) : Stb l k := ⟨h.1.trans h'.1, fun d => (h'.2 d).trans (h.2 d)⟩
/-- x in front of what is later than it may go behind -/
theorem filter_swap (a b : List α) (d : Int) (h : ∀ x ∈ a, ∀ y ∈ b, Day.day x ≠ Day.day y) : (b ++ a).filter (fun e => decide (Day.day e = d)) = (a ++ b).filter (fun e => decide (Day.day e = d)) := by
  rw [List.filter_append, List.filter_append]
  by_cases ha : a.filter (fun e => decide (Day.day e = d)) = []
  · rw [ha]; simp
  · have hb : b.filter (fun e => decide (Day.day e = d)) = [] := by
      rw [List.filter_eq_nil_iff]
      intro y hy
      obtain ⟨x, hx⟩ := List.exists_mem_of_ne_nil _ ha
      rw [List.mem_filter] at hx
      have := h x hx.1 y hy
      simp at hx ⊢
      omega
    rw [hb]; simp
theorem Stb.block {p a b s : List α} (h : ∀ x ∈ a, ∀ y ∈ b, Day.day x ≠ Day.day y) : Stb (p ++ (a ++ (b ++ s))) (p ++ (b ++ (a ++ s))) := by
  refine ⟨by simp; omega, fun d => ?_⟩
  have := filter_swap a b d h
  rw [List.filter_append, List.filter_append] at this
  simp only [List.filter_append]
  congr 1
  rw [← List.append_assoc, this, List.append_assoc]
def swpN (l : List α) (a b : Nat) : Nat → List α
  | 0 => l
  | k + 1 => swp (swpN l a b k) (a + k) (b + k)
theorem swpN_len (l : List α) (a b : Nat) : ∀ k, (swpN l a b k).length = l.length
  | 0 => rfl
  | k + 1 => by rw [swpN, swp_len, swpN_len l a b k]
theorem evCh_swp {l : List α} {i j : Nat} (hi : i < l.length) (hj : j < l.length) : ((evCh l).set i (Day.ch l[j])).set j (Day.ch l[i]) = evCh (swp l i j) := by
  rw [evCh_set, evCh_set, swp_eq hi hj]
theorem evCh_swp' {l : List α} {i j : Nat} (hi : i < l.length) (hj : j < l.length) (hij : i ≠ j) : ((evCh l).set j (Day.ch l[i])).set i (Day.ch l[j]) = evCh (swp l i j) := by
  rw [evCh_set, evCh_set, swp_eq hi hj, List.set_comm _ _ hij.symm]
theorem split2 (m : List α) {j : Nat} (hj : j + 1 < m.length) : m = m.take j ++ ([m[j]] ++ ([m[j + 1]] ++ m.drop (j + 2))) := by
  conv => lhs; rw [← List.take_append_drop j m, List.drop_eq_getElem_cons (by omega), List.drop_eq_getElem_cons hj]
  rfl
theorem swp_adj (m : List α) {j : Nat} (hj : j + 1 < m.length) : swp m (j + 1) j = m.take j ++ ([m[j + 1]] ++ ([m[j]] ++ m.drop (j + 2))) := by
  rw [swp_eq hj (by omega)]
  apply List.ext_getElem?
  intro k
  rw [List.getElem?_set, List.getElem?_set, List.getElem?_append]
  simp only [List.length_take, List.length_set]
  have hmin : min j m.length = j := by omega
  rw [hmin]
  by_cases h1 : k < j
  · simp [h1, show ¬ j = k by omega, show ¬ j + 1 = k by omega, List.getElem?_take]
  · rw [if_neg h1]
    obtain ⟨q, rfl⟩ : ∃ q, k = j + q := ⟨k - j, by omega⟩
    rw [Nat.add_sub_cancel_left]
    match q with
    | 0 => simp; omega
    | 1 => simp [hj]
    | q + 2 =>
      simp only [show ¬ j = j + (q + 2) by omega, show ¬ j + 1 = j + (q + 2) by omega, if_false]
      simp [List.getElem?_drop]
      congr 1
      omega
theorem swp_stb {l m : List α} {j : Nat} (h : Stb l m) (hj : j + 1 < m.length) (hd : dayAt m (j + 1) < dayAt m j) : Stb l (swp m (j + 1) j) := by
  refine h.trans ?_
  have e := split2 m hj
  rw [swp_adj m hj]
  conv => arg 1; rw [e]
  refine Stb.block fun x hx y hy => ?_
  rw [List.mem_singleton] at hx hy
  subst hx hy
  rw [dayAt_eq hj, dayAt_eq (by omega)] at hd
  omega
theorem swp_stb' {l m : List α} {j : Nat} (h : Stb l m) (h0 : 0 < j) (hj : j < m.length) (hd : dayAt m j < dayAt m (j - 1)) : Stb l (swp m j (j - 1)) := by
  obtain ⟨q, rfl⟩ : ∃ q, j = q + 1 := ⟨j - 1, by omega⟩
  exact swp_stb h hj hd
theorem cmpI_neg {a b : Int} : cmpI a b < 0 ↔ a < b := by
  unfold cmpI
  split
  · rename_i h; simp [h]
  · rename_i h; split <;> simp [h]
/-- a segment is sorted, and nothing else has turned -/
structure Seg (l m : List α) (a b : Nat) : Prop where
  stb : Stb l m
  out : ∀ k, k < a ∨ b ≤ k → m[k]? = l[k]?
  srt : ∀ p q, a ≤ p → p < q → q < b → dayAt m p ≤ dayAt m q
theorem Seg.one (l : List α) (a : Nat) : Seg l l a (a + 1) := ⟨Stb.refl l, fun _ _ => rfl, fun p q h1 h2 h3 => by omega⟩
theorem Seg.none {l : List α} {a b : Nat} (h : b ≤ a + 1) : Seg l l a b := ⟨Stb.refl l, fun _ _ => rfl, fun p q h1 h2 h3 => by omega⟩
/-- .. but for the element at j, that is on its way down -/
structure Ins (l m : List α) (a i j : Nat) : Prop where
  stb : Stb l m
  out : ∀ k, k < a ∨ i + 1 ≤ k → m[k]? = l[k]?
  srt : ∀ p q, a ≤ p → p < q → q ≤ i → q ≠ j → dayAt m p ≤ dayAt m q
theorem Ins.start {l m : List α} {a i : Nat} (h : Seg l m a i) : Ins l m a i i := ⟨h.stb, fun k hk => h.out k (by omega), fun p q h1 h2 h3 h4 => h.srt p q h1 h2 (by omega)⟩
theorem Ins.step {l m : List α} {a i j : Nat} (h : Ins l m a i j) (h1 : a < j) (h2 : j ≤ i) (h3 : i < m.length) (hd : dayAt m j < dayAt m (j - 1)) : Ins l (swp m j (j - 1)) a i (j - 1) := by
  refine ⟨swp_stb' h.stb (by omega) (by omega) hd, fun k hk => ?_, fun p q p1 p2 p3 p4 => ?_⟩
  · rw [swp_get (by omega) (by omega), if_neg (by omega), if_neg (by omega)]
    exact h.out k hk
  · rw [swp_day (by omega) (by omega), swp_day (by omega) (by omega)]
    rw [if_neg p4]
    by_cases hq : q = j
    · subst hq
      rw [if_pos rfl]
      by_cases hp : p = q - 1
      · rw [if_pos hp]; omega
      · rw [if_neg hp, if_neg (by omega)]
        exact h.srt p (q - 1) p1 (by omega) (by omega) (by omega)
    · rw [if_neg hq]
      by_cases hp : p = j - 1
      · rw [if_pos hp]
        exact h.srt j q (by omega) (by omega) p3 hq
      · rw [if_neg hp]
        by_cases hp2 : p = j
        · rw [if_pos hp2]
          exact h.srt (j - 1) q (by omega) (by omega) p3 hq
        · rw [if_neg hp2]
          exact h.srt p q p1 p2 p3 hq
theorem Ins.done {l m : List α} {a i j : Nat} (h : Ins l m a i j) (h1 : a ≤ j) (h2 : j ≤ i) (hd : j = a ∨ dayAt m (j - 1) ≤ dayAt m j) : Seg l m a (i + 1) := by
  refine ⟨h.stb, fun k hk => h.out k hk, fun p q p1 p2 p3 => ?_⟩
  by_cases hq : q = j
  · subst hq
    rcases hd with hd | hd
    · omega
    · rcases Nat.lt_or_ge p (q - 1) with hp | hp
      · exact Int.le_trans (h.srt p (q - 1) p1 hp (by omega) (by omega)) hd
      · obtain rfl : p = q - 1 := by omega
        exact hd
  · exact h.srt p q p1 p2 (by omega) hq
theorem Seg.len {l m : List α} {a b : Nat} (h : Seg l m a b) : m.length = l.length := h.stb.1.symm
theorem Ins.len {l m : List α} {a i j : Nat} (h : Ins l m a i j) : m.length = l.length := h.stb.1.symm
/-! blocks that change their places, place by place -/
def swpG (f : Nat → Option α) (a b n k : Nat) : Option α := if a ≤ k ∧ k < a + n then f (k - a + b) else if b ≤ k ∧ k < b + n then f (k - b + a) else f k
/-- [m - i, m) and [m, m + j), the one for the other -/
def rotG (f : Nat → Option α) (m i j k : Nat) : Option α := if m - i ≤ k ∧ k < m - i + j then f (k + i) else if m - i + j ≤ k ∧ k < m + j then f (k - j) else f k
theorem swpN_get {l : List α} {a b : Nat} : ∀ (n : Nat), a + n ≤ b → b + n ≤ l.length → ∀ k, (swpN l a b n)[k]? = swpG (l[·]?) a b n k
  | 0, _, _, k => by
    simp only [swpN, swpG]
    rw [if_neg (by omega), if_neg (by omega)]
  | n + 1, h1, h2, k => by
    have hl := swpN_len l a b n
    rw [swpN, swp_get (by omega) (by omega)]
    have ih := swpN_get n (l := l) (a := a) (b := b) (by omega) (by omega)
    rw [ih, ih, ih]
    simp only [swpG]
    repeat' split
    all_goals first
      | (exfalso; omega)
      | rfl
      | (congr 1; omega)
theorem rot_gt {f g : Nat → Option α} {m i j : Nat} (hm : i ≤ m) (h : j < i) (hg : ∀ k, g k = swpG f (m - i) m j k) (k : Nat) : rotG g m (i - j) j k = rotG f m i j k := by
  simp only [rotG, hg, swpG]
  repeat' split
  all_goals first
    | (exfalso; omega)
    | rfl
    | (congr 1; omega)
theorem rot_lt {f g : Nat → Option α} {m i j : Nat} (hm : i ≤ m) (h : i < j) (hg : ∀ k, g k = swpG f (m - i) (m + j - i) i k) (k : Nat) : rotG g m i (j - i) k = rotG f m i j k := by
  simp only [rotG, hg, swpG]
  repeat' split
  all_goals first
    | (exfalso; omega)
    | rfl
    | (congr 1; omega)
theorem rot_eq {f g : Nat → Option α} {m i : Nat} (hm : i ≤ m) (hg : ∀ k, g k = swpG f (m - i) m i k) (k : Nat) : g k = rotG f m i i k := by
  simp only [rotG, hg, swpG]
  repeat' split
  all_goals first
    | (exfalso; omega)
    | rfl
    | (congr 1; omega)
end Go.Sx

/- Merging two sorted segments: the plain part. -/
set_option linter.all false
namespace Go.Sx
open Go
variable {α : Type} [Day α]
/-- a piece of a list -/
def pc (l : List α) (a b : Nat) : List α := (l.drop a).take (b - a)
theorem pc_get {l : List α} {a b : Nat} (k : Nat) : (pc l a b)[k]? = if k < b - a then l[a + k]? else none := by
  rw [pc, List.getElem?_take, List.getElem?_drop]
theorem pc_len {l : List α} {a b : Nat} (h : b ≤ l.length) : (pc l a b).length = b - a := by rw [pc, List.length_take, List.length_drop]; omega
theorem pc_mem {l : List α} {a b : Nat} {x : α} (hx : x ∈ pc l a b) : ∃ p, a ≤ p ∧ p < b ∧ l[p]? = some x := by
  obtain ⟨k, hk⟩ := List.getElem?_of_mem hx
  rw [pc_get] at hk
  split at hk
  · exact ⟨a + k, by omega, by omega, hk⟩
  · cases hk
theorem mem_pc {l : List α} {a b p : Nat} {x : α} (h1 : a ≤ p) (h2 : p < b) (hx : l[p]? = some x) : x ∈ pc l a b := by
  refine List.mem_of_getElem? (i := p - a) ?_
  rw [pc_get, if_pos (by omega), show a + (p - a) = p from by omega]
  exact hx
theorem cut3 {l : List α} {a b : Nat} (h1 : a ≤ b) (h2 : b ≤ l.length) : l = l.take a ++ (pc l a b ++ l.drop b) := by
  have e : pc l a b ++ l.drop b = l.drop a := by
    have := List.take_append_drop (b - a) (l.drop a)
    rw [List.drop_drop, show a + (b - a) = b from by omega] at this
    exact this
  rw [e, List.take_append_drop]
theorem day_of {l : List α} {p : Nat} {x : α} (h : l[p]? = some x) : dayAt l p = Day.day x := by simp [dayAt, h]
/-- what has turned within a segment only has the same elements there -/
theorem seg_mem {l m : List α} {a b : Nat} (hs : Stb l m) (ho : ∀ k, k < a ∨ b ≤ k → m[k]? = l[k]?) (h1 : a ≤ b) (h2 : b ≤ l.length) {p : Nat} (hp1 : a ≤ p) (hp2 : p < b) : ∃ q, a ≤ q ∧ q < b ∧ dayAt m p = dayAt l q := by
  have hml : m.length = l.length := hs.1.symm
  have et : m.take a = l.take a := by
    apply List.ext_getElem?
    intro k
    rw [List.getElem?_take, List.getElem?_take]
    split
    · exact ho k (.inl (by omega))
    · rfl
  have ed : m.drop b = l.drop b := by
    apply List.ext_getElem?
    intro k
    rw [List.getElem?_drop, List.getElem?_drop]
    exact ho _ (.inr (by omega))
  have hx : m[p]? = some m[p] := List.getElem?_eq_getElem (by omega)
  obtain ⟨y, hy⟩ : ∃ y, y = m[p] := ⟨_, rfl⟩
  rw [← hy] at hx
  have key : ∀ d : Int, (pc m a b).filter (fun e => decide (Day.day e = d)) = (pc l a b).filter (fun e => decide (Day.day e = d)) := by
    intro d
    have hf := hs.2 d
    rw [show l.filter (fun e => decide (Day.day e = d)) = (l.take a ++ (pc l a b ++ l.drop b)).filter (fun e => decide (Day.day e = d)) from congrArg _ (cut3 h1 h2),
      show m.filter (fun e => decide (Day.day e = d)) = (m.take a ++ (pc m a b ++ m.drop b)).filter (fun e => decide (Day.day e = d)) from congrArg _ (cut3 h1 (by omega)), et, ed] at hf
    simp only [List.filter_append] at hf
    exact List.append_cancel_right (List.append_cancel_left hf)
  have hmem : y ∈ (pc m a b).filter (fun e => decide (Day.day e = Day.day y)) := List.mem_filter.2 ⟨mem_pc hp1 hp2 hx, by simp⟩
  rw [key] at hmem
  obtain ⟨hm1, hm2⟩ := List.mem_filter.1 hmem
  obtain ⟨q, q1, q2, q3⟩ := pc_mem hm1
  exact ⟨q, q1, q2, by rw [day_of hx, day_of q3]⟩
/-- exchanging two blocks, as_ lists -/
theorem rot_list {l k : List α} {a m b : Nat} (h1 : a ≤ m) (h2 : m ≤ b) (h3 : b ≤ l.length) (hk : k.length = l.length) (hr : ∀ q, k[q]? = rotG (l[·]?) m (m - a) (b - m) q) : k = l.take a ++ (pc l m b ++ (pc l a m ++ l.drop b)) := by
  apply List.ext_getElem?
  intro q
  rw [hr, rotG]
  have l1 : (l.take a).length = a := by rw [List.length_take]; omega
  have l2 := pc_len (l := l) (a := m) (b := b) h3
  have l3 := pc_len (l := l) (a := a) (b := m) (by omega)
  rw [List.getElem?_append, l1, List.getElem?_append, l2, List.getElem?_append, l3, List.getElem?_take, pc_get, pc_get, List.getElem?_drop]
  repeat' split
  all_goals first
    | (exfalso; omega)
    | rfl
    | (congr 1; omega)
theorem rot_stb {l k : List α} {a m b : Nat} (h1 : a ≤ m) (h2 : m ≤ b) (h3 : b ≤ l.length) (hk : k.length = l.length) (hr : ∀ q, k[q]? = rotG (l[·]?) m (m - a) (b - m) q) (hd : ∀ p q, a ≤ p → p < m → m ≤ q → q < b → dayAt l q < dayAt l p) : Stb l k := by
  have e := rot_list h1 h2 h3 hk hr
  have e2 : l = l.take a ++ (pc l a m ++ (pc l m b ++ l.drop b)) := by
    conv => lhs; rw [cut3 (l := l) (a := a) (b := m) h1 (by omega)]
    congr 2
    have := cut3 (l := l.drop m) (a := 0) (b := b - m) (by omega) (by rw [List.length_drop]; omega)
    simp only [List.take_zero, List.nil_append, List.drop_drop, show m + (b - m) = b from by omega] at this
    exact this
  rw [e]
  conv => arg 1; rw [e2]
  refine Stb.block fun x hx y hy => ?_
  obtain ⟨p, p1, p2, p3⟩ := pc_mem hx
  obtain ⟨q, q1, q2, q3⟩ := pc_mem hy
  have := hd p q p1 p2 q1 q2
  rw [day_of p3, day_of q3] at this
  omega
theorem rot_day {l k : List α} {m i j : Nat} (hr : ∀ q, k[q]? = rotG (l[·]?) m i j q) (q : Nat) : dayAt k q = if m - i ≤ q ∧ q < m - i + j then dayAt l (q + i) else if m - i + j ≤ q ∧ q < m + j then dayAt l (q - j) else dayAt l q := by
  unfold dayAt
  rw [hr, rotG]
  repeat' split
  all_goals rfl
/-- merged halves, the first of which is not behind the second -/
theorem seg_join {l m : List α} {a c b : Nat} (hs : Stb l m) (ho : ∀ k, k < a ∨ b ≤ k → m[k]? = l[k]?) (h1 : ∀ p q, a ≤ p → p < q → q < c → dayAt m p ≤ dayAt m q) (h2 : ∀ p q, c ≤ p → p < q → q < b → dayAt m p ≤ dayAt m q) (h3 : ∀ p q, a ≤ p → p < c → c ≤ q → q < b → dayAt m p ≤ dayAt m q) : Seg l m a b :=
  ⟨hs, ho, fun p q p1 p2 p3 => by
    rcases Nat.lt_or_ge q c with hq | hq
    · exact h1 p q p1 p2 hq
    · rcases Nat.lt_or_ge p c with hp | hp
      · exact h3 p q p1 hp hq p3
      · exact h2 p q hp p2 p3⟩
/-- sorted between two places -/
def SrtD (l : List α) (a b : Nat) : Prop := ∀ p q, a ≤ p → p < q → q < b → dayAt l p ≤ dayAt l q
theorem SrtD.le {l : List α} {a b : Nat} (h : SrtD l a b) {p q : Nat} (h1 : a ≤ p) (h2 : p ≤ q) (h3 : q < b) : dayAt l p ≤ dayAt l q := by
  rcases Nat.lt_or_ge p q with hp | hp
  · exact h p q h1 hp h3
  · obtain rfl : p = q := by omega
    exact Int.le_refl _
theorem SrtD.sub {l : List α} {a b a' b' : Nat} (h : SrtD l a b) (h1 : a ≤ a') (h2 : b' ≤ b) : SrtD l a' b' := fun p q p1 p2 p3 => h p q (by omega) p2 (by omega)
theorem SrtD.none {l : List α} {a b : Nat} (h : b ≤ a + 1) : SrtD l a b := fun p q h1 h2 h3 => by omega
theorem Seg.toD {l m : List α} {a b : Nat} (h : Seg l m a b) : SrtD m a b := h.srt
/-- a turn of two neighbouring pieces -/
structure Rot (l k : List α) (a s m e b : Nat) : Prop where
  stb : Stb l k
  out : ∀ q, q < s ∨ e ≤ q → k[q]? = l[q]?
  day : ∀ q, dayAt k q = if s ≤ q ∧ q < s + (e - m) then dayAt l (q + (m - s)) else if s + (e - m) ≤ q ∧ q < e then dayAt l (q - (e - m)) else dayAt l q
theorem Rot.of {l k : List α} {a s m e b : Nat} (h1 : s ≤ m) (h2 : m ≤ e) (h3 : e ≤ l.length) (hk : k.length = l.length) (hr : ∀ q, k[q]? = rotG (l[·]?) m (m - s) (e - m) q) (hd : ∀ p q, s ≤ p → p < m → m ≤ q → q < e → dayAt l q < dayAt l p) : Rot l k a s m e b := by
  refine ⟨rot_stb h1 h2 h3 hk hr hd, fun q hq => ?_, fun q => ?_⟩
  · rw [hr, rotG, if_neg (by omega), if_neg (by omega)]
  · rw [rot_day hr, show m - (m - s) = s from by omega, show m + (e - m) = e from by omega]
theorem Rot.id {l : List α} {a s m e b : Nat} (h : s = m ∨ e = m) (h1 : s ≤ m) (h2 : m ≤ e) : Rot l l a s m e b := by
  refine ⟨Stb.refl l, fun _ _ => rfl, fun q => ?_⟩
  rcases h with rfl | rfl
  · split
    · congr 1; omega
    · split
      · exfalso; omega
      · rfl
  · split
    · exfalso; omega
    · split
      · congr 1; omega
      · rfl
theorem Rot.len {l k : List α} {a s m e b : Nat} (h : Rot l k a s m e b) : k.length = l.length := h.stb.1.symm
/-- the four pieces behind a turn -/
theorem Rot.p1 {l k : List α} {a s m e b : Nat} (h : Rot l k a s m e b) (h1 : SrtD l a m) (g1 : s ≤ m) : SrtD k a s := fun p q p1 p2 p3 => by
  rw [h.day, h.day, if_neg (by omega), if_neg (by omega), if_neg (by omega), if_neg (by omega)]
  exact h1 p q p1 p2 (by omega)
theorem Rot.p2 {l k : List α} {a s m e b : Nat} (h : Rot l k a s m e b) (h2 : SrtD l m b) (g1 : s ≤ m) (g2 : m ≤ e) (g3 : e ≤ b) : SrtD k s (s + (e - m)) := fun p q p1 p2 p3 => by
  rw [h.day, h.day, if_pos (by omega), if_pos (by omega)]
  exact h2 _ _ (by omega) (by omega) (by omega)
theorem Rot.p3 {l k : List α} {a s m e b : Nat} (h : Rot l k a s m e b) (h1 : SrtD l a m) (g0 : a ≤ s) (g1 : s ≤ m) (g2 : m ≤ e) : SrtD k (s + (e - m)) e := fun p q p1 p2 p3 => by
  rw [h.day, h.day, if_neg (by omega), if_pos (by omega), if_neg (by omega), if_pos (by omega)]
  exact h1 _ _ (by omega) (by omega) (by omega)
theorem Rot.p4 {l k : List α} {a s m e b : Nat} (h : Rot l k a s m e b) (h2 : SrtD l m b) (g1 : s ≤ m) (g2 : m ≤ e) : SrtD k e b := fun p q p1 p2 p3 => by
  rw [h.day, h.day, if_neg (by omega), if_neg (by omega), if_neg (by omega), if_neg (by omega)]
  exact h2 p q (by omega) p2 p3
theorem Rot.cross {l k : List α} {a s m e b : Nat} (h : Rot l k a s m e b) (h1 : SrtD l a m) (h2 : SrtD l m b) (g0 : a ≤ s) (g1 : s ≤ m) (g2 : m ≤ e) (g3 : e ≤ b)
    (hx : ∀ p q, s ≤ p → p < m → m ≤ q → q < e → dayAt l q < dayAt l p) (hy : ∀ p q, a ≤ p → p < s → e ≤ q → q < b → dayAt l p ≤ dayAt l q) (p q : Nat) (p1 : a ≤ p) (p2 : p < s + (e - m)) (q1 : s + (e - m) ≤ q) (q2 : q < b) : dayAt k p ≤ dayAt k q := by
  rw [h.day p, h.day q]
  by_cases hp : s ≤ p
  · rw [if_pos ⟨hp, p2⟩]
    by_cases hq : q < e
    · rw [if_neg (by omega), if_pos ⟨q1, hq⟩]
      exact Int.le_of_lt (hx _ _ (by omega) (by omega) (by omega) (by omega))
    · rw [if_neg (by omega), if_neg (by omega)]
      exact h2.le (by omega) (by omega) q2
  · rw [if_neg (by omega), if_neg (by omega)]
    by_cases hq : q < e
    · rw [if_neg (by omega), if_pos ⟨q1, hq⟩]
      exact h1.le p1 (by omega) (by omega)
    · rw [if_neg (by omega), if_neg (by omega)]
      exact hy p q p1 (by omega) (by omega) q2
/-- both halves merged: all of it is -/
theorem Rot.done {l k k1 k2 : List α} {a s m e b c : Nat} (h : Rot l k a s m e b) (h1 : SrtD l a m) (h2 : SrtD l m b) (g0 : a ≤ s) (g1 : s ≤ m) (g2 : m ≤ e) (g3 : e ≤ b) (g4 : b ≤ l.length) (hc : s + (e - m) = c)
    (hx : ∀ p q, s ≤ p → p < m → m ≤ q → q < e → dayAt l q < dayAt l p) (hy : ∀ p q, a ≤ p → p < s → e ≤ q → q < b → dayAt l p ≤ dayAt l q) (s1 : Seg k k1 a c) (s2 : Seg k1 k2 c b) : Seg l k2 a b := by
  subst hc
  have hl := h.len
  have hl1 := s1.len
  have d1 : ∀ p, p < s + (e - m) → k2[p]? = k1[p]? := fun p hp => s2.out p (.inl hp)
  have d2 : ∀ p, s + (e - m) ≤ p → k1[p]? = k[p]? := fun p hp => s1.out p (.inr hp)
  have e1 : ∀ p, p < s + (e - m) → dayAt k2 p = dayAt k1 p := fun p hp => by unfold dayAt; rw [d1 p hp]
  refine seg_join (c := s + (e - m)) (h.stb.trans (s1.stb.trans s2.stb)) (fun q hq => ?_) (fun p q p1 p2 p3 => ?_) (fun p q p1 p2 p3 => s2.srt p q p1 p2 p3) (fun p q p1 p2 p3 p4 => ?_)
  · rw [s2.out q (by omega), s1.out q (by omega), h.out q (by omega)]
  · rw [e1 p (by omega), e1 q p3]; exact s1.srt p q p1 p2 p3
  · rw [e1 p p2]
    obtain ⟨p', a1, a2, a3⟩ := seg_mem s1.stb s1.out (by omega) (by omega) p1 p2
    obtain ⟨q', b1, b2, b3⟩ := seg_mem s2.stb s2.out (by omega) (by omega) p3 p4
    have : dayAt k1 q' = dayAt k q' := by unfold dayAt; rw [d2 q' b1]
    rw [a3, b3, this]
    exact h.cross h1 h2 g0 g1 g2 g3 hx hy p' q' a1 a2 b1 b2
/-- one element on its way up -/
def bub (l : List α) (a : Nat) : Nat → List α
  | 0 => l
  | k + 1 => swp (bub l a k) (a + k) (a + k + 1)
theorem bub_len (l : List α) (a : Nat) : ∀ k, (bub l a k).length = l.length
  | 0 => rfl
  | k + 1 => by rw [bub, swp_len, bub_len l a k]
theorem bub_get {l : List α} {a : Nat} : ∀ (n : Nat), a + n < l.length → ∀ k, (bub l a n)[k]? = rotG (l[·]?) (a + 1) 1 n k
  | 0, _, k => by simp only [bub, rotG]; rw [if_neg (by omega)]; split; · congr 1
                  · rfl
  | n + 1, h, k => by
    have hl := bub_len l a n
    rw [bub, swp_get (by omega) (by omega)]
    have ih := bub_get n (l := l) (a := a) (by omega)
    rw [ih, ih, ih]
    simp only [rotG]
    repeat' split
    all_goals first
      | (exfalso; omega)
      | rfl
      | (congr 1; omega)
/-- .. on its way down -/
def bud (l : List α) (m : Nat) : Nat → List α
  | 0 => l
  | k + 1 => swp (bud l m k) (m - k) (m - k - 1)
theorem bud_len (l : List α) (m : Nat) : ∀ k, (bud l m k).length = l.length
  | 0 => rfl
  | k + 1 => by rw [bud, swp_len, bud_len l m k]
theorem bud_get {l : List α} {m : Nat} (hm : m < l.length) : ∀ (n : Nat), n ≤ m → ∀ k, (bud l m n)[k]? = rotG (l[·]?) m n 1 k
  | 0, _, k => by simp only [bud, rotG]; split; · congr 1
                  · split
                    · exfalso; omega
                    · rfl
  | n + 1, h, k => by
    have hl := bud_len l m n
    rw [bud, swp_get (by omega) (by omega)]
    have ih := bud_get hm n (by omega)
    rw [ih, ih, ih]
    simp only [rotG]
    repeat' split
    all_goals first
      | (exfalso; omega)
      | rfl
      | (congr 1; omega)
/-- the first piece is one element -/
theorem merge_up {l : List α} {a b i : Nat} (hs : SrtD l (a + 1) b) (h1 : a + 1 ≤ i) (h2 : i ≤ b) (h3 : b ≤ l.length) (hlo : ∀ q, a + 1 ≤ q → q < i → dayAt l q < dayAt l a) (hhi : ∀ q, i ≤ q → q < b → dayAt l a ≤ dayAt l q) : Seg l (bub l a (i - 1 - a)) a b := by
  have hR : Rot l (bub l a (i - 1 - a)) a a (a + 1) i b := Rot.of (by omega) h1 (by omega) (bub_len _ _ _) (fun q => by rw [bub_get _ (by omega)]; congr 1 <;> omega)
    (fun p q p1 p2 p3 p4 => by obtain rfl : p = a := by omega
                               exact hlo q p3 p4)
  refine ⟨hR.stb, fun k hk => hR.out k (by omega), fun p q p1 p2 p3 => ?_⟩
  rw [hR.day p, hR.day q]
  by_cases hp : p < i - 1
  · rw [if_pos (by omega)]
    by_cases hq : q < i - 1
    · rw [if_pos (by omega)]; exact hs _ _ (by omega) (by omega) (by omega)
    · by_cases hq2 : q = i - 1
      · rw [if_neg (by omega), if_pos (by omega), show q - (i - (a + 1)) = a from by omega]; exact Int.le_of_lt (hlo _ (by omega) (by omega))
      · rw [if_neg (by omega), if_neg (by omega)]; exact hs _ _ (by omega) (by omega) (by omega)
  · by_cases hp2 : p = i - 1
    · rw [if_neg (by omega), if_pos (by omega), if_neg (by omega), if_neg (by omega), show p - (i - (a + 1)) = a from by omega]; exact hhi _ (by omega) p3
    · rw [if_neg (by omega), if_neg (by omega), if_neg (by omega), if_neg (by omega)]; exact hs _ _ (by omega) (by omega) (by omega)
/-- the second piece is one element -/
theorem merge_down {l : List α} {a m i : Nat} (hs : SrtD l a m) (h1 : a ≤ i) (h2 : i ≤ m) (h3 : m < l.length) (hlo : ∀ q, a ≤ q → q < i → dayAt l q ≤ dayAt l m) (hhi : ∀ q, i ≤ q → q < m → dayAt l m < dayAt l q) : Seg l (bud l m (m - i)) a (m + 1) := by
  have hR : Rot l (bud l m (m - i)) a i m (m + 1) (m + 1) := Rot.of h2 (by omega) (by omega) (bud_len _ _ _) (fun q => by rw [bud_get h3 _ (by omega)]; congr 1; omega)
    (fun p q p1 p2 p3 p4 => by obtain rfl : q = m := by omega
                               exact hhi p p1 p2)
  refine ⟨hR.stb, fun k hk => hR.out k (by omega), fun p q p1 p2 p3 => ?_⟩
  rw [hR.day p, hR.day q]
  by_cases hp : p < i
  · rw [if_neg (by omega), if_neg (by omega)]
    by_cases hq : q < i
    · rw [if_neg (by omega), if_neg (by omega)]; exact hs _ _ (by omega) (by omega) (by omega)
    · by_cases hq2 : q = i
      · rw [if_pos (by omega), show q + (m - i) = m from by omega]; exact hlo _ (by omega) (by omega)
      · rw [if_neg (by omega), if_pos (by omega)]; exact hs _ _ (by omega) (by omega) (by omega)
  · by_cases hp2 : p = i
    · rw [if_pos (by omega), if_neg (by omega), if_pos (by omega), show p + (m - i) = m from by omega]; exact Int.le_of_lt (hhi _ (by omega) (by omega))
    · rw [if_neg (by omega), if_pos (by omega), if_neg (by omega), if_pos (by omega)]; exact hs _ _ (by omega) (by omega) (by omega)
theorem Seg.refl' {k : List α} {a c : Nat} (h : SrtD k a c) : Seg k k a c := ⟨Stb.refl k, fun _ _ => rfl, h⟩
theorem Rot.left {l k : List α} {a s m e b c : Nat} (h : Rot l k a s m e b) (h1 : SrtD l a m) (h2 : SrtD l m b) (g1 : s ≤ m) (g2 : m ≤ e) (g3 : e ≤ b) (hc : s + (e - m) = c) (hn : ¬ (a < s ∧ s < c)) (g0 : a ≤ s) : SrtD k a c := by
  subst hc
  by_cases hs : a = s
  · subst hs; exact h.p2 h2 g1 g2 g3
  · exact (h.p1 h1 g1).sub (Nat.le_refl _) (by omega)
theorem Rot.right {l k : List α} {a s m e b c : Nat} (h : Rot l k a s m e b) (h1 : SrtD l a m) (h2 : SrtD l m b) (g0 : a ≤ s) (g1 : s ≤ m) (g2 : m ≤ e) (hc : s + (e - m) = c) (hn : ¬ (c < e ∧ e < b)) (g3 : e ≤ b) : SrtD k c b := by
  subst hc
  by_cases hs : e = b
  · subst hs; exact h.p3 h1 g0 g1 g2
  · exact (h.p4 h2 g1 g2).sub (by omega) (Nat.le_refl _)
theorem Seg.keepD {k k1 : List α} {a c p q : Nat} (h : Seg k k1 a c) (hc : c ≤ p) (hs : SrtD k p q) : SrtD k1 p q := fun x y h1 h2 h3 => by
  have e : ∀ z, c ≤ z → dayAt k1 z = dayAt k z := fun z hz => by unfold dayAt; rw [h.out z (.inr hz)]
  rw [e x (by omega), e y (by omega)]; exact hs x y h1 h2 h3
/-- where the two sorted pieces are parted -/
theorem spl_fin {l : List α} {a m b c S R s : Nat} (m1 : SrtD l a m) (m2 : SrtD l m b) (ham : a < m) (hmb : m < b) (hc : c = (a + b) / 2) (hS : (c < m ∧ S = c + m - b ∧ R = c) ∨ (m ≤ c ∧ S = a ∧ R = m)) (hs1 : S ≤ s) (hs2 : s ≤ R)
    (lo : ∀ q, S ≤ q → q < s → dayAt l q ≤ dayAt l (c + m - 1 - q)) (hi : ∀ q, s ≤ q → q < R → dayAt l (c + m - 1 - q) < dayAt l q) :
    (∀ p q, s ≤ p → p < m → m ≤ q → q < c + m - s → dayAt l q < dayAt l p) ∧ (∀ p q, a ≤ p → p < s → c + m - s ≤ q → q < b → dayAt l p ≤ dayAt l q) := by
  refine ⟨fun p q p1 p2 q1 q2 => ?_, fun p q p1 p2 q1 q2 => ?_⟩
  · have hlt : s < R := by omega
    have h1 := hi s (Nat.le_refl _) hlt
    have h2 := m1.le (p := s) (q := p) (by omega) p1 p2
    have h3 := m2.le (p := q) (q := c + m - 1 - s) q1 (by omega) (by omega)
    omega
  · have hlt : S < s := by omega
    have h1 := lo (s - 1) (by omega) (by omega)
    have h2 := m1.le (p := p) (q := s - 1) p1 (by omega) (by omega)
    have h3 := m2.le (p := c + m - 1 - (s - 1)) (q := q) (by omega) (by omega) q2
    omega
theorem spl_up {l : List α} {a m b c S R r h : Nat} (m1 : SrtD l a m) (m2 : SrtD l m b) (ham : a < m) (hmb : m < b) (hc : c = (a + b) / 2) (hS : (c < m ∧ S = c + m - b ∧ R = c) ∨ (m ≤ c ∧ S = a ∧ R = m)) (h1 : S ≤ h) (h2 : h < r) (h3 : r ≤ R)
    (hd : dayAt l h ≤ dayAt l (c + m - 1 - h)) (q : Nat) (q1 : S ≤ q) (q2 : q < h + 1) : dayAt l q ≤ dayAt l (c + m - 1 - q) := by
  have e1 := m1.le (p := q) (q := h) (by omega) (by omega) (by omega)
  have e2 := m2.le (p := c + m - 1 - h) (q := c + m - 1 - q) (by omega) (by omega) (by omega)
  omega
theorem spl_dn {l : List α} {a m b c S R s h : Nat} (m1 : SrtD l a m) (m2 : SrtD l m b) (ham : a < m) (hmb : m < b) (hc : c = (a + b) / 2) (hS : (c < m ∧ S = c + m - b ∧ R = c) ∨ (m ≤ c ∧ S = a ∧ R = m)) (h1 : S ≤ s) (h2 : s ≤ h) (h3 : h < R)
    (hd : dayAt l (c + m - 1 - h) < dayAt l h) (q : Nat) (q1 : h ≤ q) (q2 : q < R) : dayAt l (c + m - 1 - q) < dayAt l q := by
  have e1 := m1.le (p := h) (q := q) (by omega) (by omega) (by omega)
  have e2 := m2.le (p := c + m - 1 - q) (q := c + m - 1 - h) (by omega) (by omega) (by omega)
  omega
theorem day_lt {l : List α} {i j : Nat} {hi : i < l.length} {hj : j < l.length} (h : cmpI (Day.day l[i]) (Day.day l[j]) < 0) : dayAt l i < dayAt l j := by
  rw [cmpI_neg] at h; rw [dayAt_eq hi, dayAt_eq hj]; exact h
theorem day_ge {l : List α} {i j : Nat} {hi : i < l.length} {hj : j < l.length} (h : ¬ cmpI (Day.day l[i]) (Day.day l[j]) < 0) : dayAt l j ≤ dayAt l i := by
  rw [cmpI_neg] at h; rw [dayAt_eq hi, dayAt_eq hj]; omega
end Go.Sx

/- The blocks of the stable sort; what is sorted stably is one list alone. -/
set_option linter.all false
namespace Go.Sx
open Go
variable {α : Type} [Day α]
/-- the first places, block by block -/
inductive Pre (l : List α) (q : Nat) : Nat → Prop
  | zero : Pre l q 0
  | snoc {a : Nat} : Pre l q a → SrtD l a (a + q) → Pre l q (a + q)
/-- the last places, block by block -/
inductive Blk (l : List α) (q n : Nat) : Nat → Prop
  | done {s : Nat} : n ≤ s → Blk l q n s
  | step {s : Nat} : SrtD l s (min (s + q) n) → Blk l q n (s + q) → Blk l q n s
theorem SrtD.same {l m : List α} {a b : Nat} (h : SrtD l a b) (he : ∀ k, a ≤ k → k < b → m[k]? = l[k]?) : SrtD m a b := fun p q p1 p2 p3 => by
  have e : ∀ z, a ≤ z → z < b → dayAt m z = dayAt l z := fun z h1 h2 => by unfold dayAt; rw [he z h1 h2]
  rw [e p p1 (by omega), e q (by omega) p3]; exact h p q p1 p2 p3
theorem Pre.same {l m : List α} {q a : Nat} (h : Pre l q a) (he : ∀ k, k < a → m[k]? = l[k]?) : Pre m q a := by
  induction h with
  | zero => exact .zero
  | snoc h1 h2 ih => exact .snoc (ih fun k hk => he k (by omega)) (h2.same fun k _ hk => he k hk)
theorem Blk.same {l m : List α} {q n s : Nat} (h : Blk l q n s) (he : ∀ k, s ≤ k → k < n → m[k]? = l[k]?) : Blk m q n s := by
  induction h with
  | done h => exact .done h
  | step h1 h2 ih => exact .step (h1.same fun k h3 h4 => he k h3 (by omega)) (ih fun k hk hk2 => he k (by omega) hk2)
theorem Pre.blk {l : List α} {q n a : Nat} (h : Pre l q a) (han : a ≤ n) (hb : Blk l q n a) : Blk l q n 0 := by
  induction h with
  | zero => exact hb
  | snoc h1 h2 ih => exact ih (by omega) (.step (h2.sub (Nat.le_refl _) (by omega)) hb)
theorem Pre.put {l m : List α} {q a : Nat} (h : Pre l q a) (hs : Seg l m a (a + q)) : Pre m q (a + q) := .snoc (h.same fun k hk => hs.out k (.inl hk)) hs.srt
theorem Pre.last {l m : List α} {q a n : Nat} (h : Pre l q a) (hs : Seg l m a n) (han : a ≤ n) (hq : n < a + q) : Blk m q n 0 :=
  (h.same fun k hk => hs.out k (.inl hk)).blk han (.step (hs.toD.sub (Nat.le_refl _) (by omega)) (.done (by omega)))
theorem Blk.two {l : List α} {q n s : Nat} (h : Blk l q n s) (hs : s + 2 * q ≤ n) (hq : 1 ≤ q) : SrtD l s (s + q) ∧ SrtD l (s + q) (s + 2 * q) ∧ Blk l q n (s + 2 * q) := by
  cases h with
  | done h => omega
  | step h1 h2 => cases h2 with
    | done h => omega
    | step h3 h4 => exact ⟨h1.sub (Nat.le_refl _) (by omega), h3.sub (Nat.le_refl _) (by omega), by rw [show s + 2 * q = s + q + q from by omega]; exact h4⟩
theorem Blk.one {l : List α} {q n s : Nat} (h : Blk l q n s) (hs : s + q < n) : SrtD l s (s + q) ∧ (n ≤ s + 2 * q → SrtD l (s + q) n) := by
  cases h with
  | done h => omega
  | step h1 h2 => cases h2 with
    | done h => omega
    | step h3 h4 => exact ⟨h1.sub (Nat.le_refl _) (by omega), fun h => h3.sub (Nat.le_refl _) (by omega)⟩
theorem Blk.all {l : List α} {q n s : Nat} (h : Blk l q n s) (hs : n ≤ s + q) : SrtD l s n := by
  cases h with
  | done h => exact SrtD.none (by omega)
  | step h1 h2 => exact h1.sub (Nat.le_refl _) (by omega)
/-! one list alone -/
def Srtd (l : List α) : Prop := l.Pairwise fun x y => Day.day x ≤ Day.day y
theorem SrtD.pw {l : List α} (h : SrtD l 0 l.length) : Srtd l := by
  rw [Srtd, List.pairwise_iff_getElem]
  intro i j hi hj hij
  have := h i j (Nat.zero_le _) hij hj
  rwa [dayAt_eq hi, dayAt_eq hj] at this
theorem stb_one : ∀ (m m' : List α), Srtd m → Srtd m' → (∀ d : Int, m.filter (fun e => decide (Day.day e = d)) = m'.filter (fun e => decide (Day.day e = d))) → m = m' := by
  intro m
  induction m with
  | nil =>
    intro m' _ _ h
    cases m' with
    | nil => rfl
    | cons y r => have := h (Day.day y); simp at this
  | cons x r ih =>
    intro m' h1 h2 h
    cases m' with
    | nil => have := h (Day.day x); simp at this
    | cons y r' =>
      unfold Srtd at h1 h2
      rw [List.pairwise_cons] at h1 h2
      have hx : x ∈ (y :: r') := by
        have : x ∈ (y :: r').filter (fun e => decide (Day.day e = Day.day x)) := by rw [← h]; simp
        exact (List.mem_filter.1 this).1
      have hy : y ∈ (x :: r) := by
        have : y ∈ (x :: r).filter (fun e => decide (Day.day e = Day.day y)) := by rw [h]; simp
        exact (List.mem_filter.1 this).1
      have d1 : Day.day y ≤ Day.day x := by
        rcases List.mem_cons.1 hx with e | hx
        · rw [e]; exact Int.le_refl _
        · exact h2.1 x hx
      have d2 : Day.day x ≤ Day.day y := by
        rcases List.mem_cons.1 hy with e | hy
        · rw [e]; exact Int.le_refl _
        · exact h1.1 y hy
      have hd : Day.day y = Day.day x := Int.le_antisymm d1 d2
      have h0 := h (Day.day x)
      simp only [List.filter_cons, hd, decide_true, if_true, List.cons.injEq] at h0
      obtain ⟨rfl, h0⟩ := h0
      congr 1
      refine ih r' h1.2 h2.2 fun d => ?_
      have h3 := h d
      simp only [List.filter_cons] at h3
      split at h3
      · simpa using h3
      · exact h3
def insD (e : α) : List α → List α
  | [] => [e]
  | x :: r => if Day.day e ≤ Day.day x then e :: x :: r else x :: insD e r
/-- the course of a list -/
def sortF (l : List α) : List α := l.foldr insD []
theorem insD_mem {e y : α} : ∀ {l : List α}, y ∈ insD e l ↔ y = e ∨ y ∈ l
  | [] => by simp [insD]
  | x :: r => by
    simp only [insD]
    split
    · simp
    · simp only [List.mem_cons, insD_mem (l := r)]
      constructor
      · rintro (h | h | h)
        · exact .inr (.inl h)
        · exact .inl h
        · exact .inr (.inr h)
      · rintro (h | h | h)
        · exact .inr (.inl h)
        · exact .inl h
        · exact .inr (.inr h)
theorem insD_srt {e : α} : ∀ {l : List α}, Srtd l → Srtd (insD e l)
  | [], _ => by simp [insD, Srtd]
  | x :: r, h => by
    unfold Srtd at h
    have h' := List.pairwise_cons.1 h
    simp only [insD]
    split
    · rename_i hd
      refine List.pairwise_cons.2 ⟨fun y hy => ?_, h⟩
      rcases List.mem_cons.1 hy with rfl | hy
      · exact hd
      · exact Int.le_trans hd (h'.1 y hy)
    · rename_i hd
      refine List.pairwise_cons.2 ⟨fun y hy => ?_, insD_srt h'.2⟩
      rcases insD_mem.1 hy with rfl | hy
      · omega
      · exact h'.1 y hy
theorem insD_len (e : α) : ∀ l : List α, (insD e l).length = l.length + 1
  | [] => rfl
  | x :: r => by simp only [insD]; split; · simp
                 · simp [insD_len e r]
theorem insD_filter (e : α) (d : Int) : ∀ l : List α, (insD e l).filter (fun e => decide (Day.day e = d)) = (e :: l).filter (fun e => decide (Day.day e = d))
  | [] => rfl
  | x :: r => by
    simp only [insD]
    split
    · rfl
    · rename_i hd
      rw [List.filter_cons, insD_filter e d r]
      simp only [List.filter_cons]
      by_cases h1 : Day.day x = d
      · by_cases h2 : Day.day e = d
        · omega
        · simp [h1, h2]
      · simp [h1]
theorem sortF_srt : ∀ l : List α, Srtd (sortF l)
  | [] => List.Pairwise.nil
  | x :: r => insD_srt (sortF_srt r)
theorem sortF_len : ∀ l : List α, (sortF l).length = l.length
  | [] => rfl
  | x :: r => (insD_len x (sortF r)).trans (by rw [sortF_len r]; rfl)
theorem sortF_filter (d : Int) : ∀ l : List α, (sortF l).filter (fun e => decide (Day.day e = d)) = l.filter (fun e => decide (Day.day e = d))
  | [] => rfl
  | x :: r => (insD_filter x d (sortF r)).trans (by rw [List.filter_cons, List.filter_cons, sortF_filter d r])
theorem sortF_is {l m : List α} (h : Stb l m) (hs : Srtd m) : m = sortF l := stb_one m _ hs (sortF_srt l) fun d => by rw [h.2 d, sortF_filter]
theorem sortF_mem {l : List α} {x : α} : x ∈ sortF l ↔ x ∈ l := by
  have h : ∀ (m : List α), x ∈ m ↔ x ∈ m.filter (fun e => decide (Day.day e = Day.day x)) := fun m => by simp
  rw [h, sortF_filter, ← h]
section
variable {P : Program} {n : Sz} {E : Ent} {I : IMap} {L : LL} {H : List Res} {K : Act → World → Prop}
theorem sx_unrow0 {g e k m : Nat} {xss : List (List Value)} (hU : Uk k xss) (hm : xss.length = m) (hl : m ≤ maxLen) (h : SX n E I L (.row (.slice (some ⟨g, 0, none⟩) m m) e k m xss.flatten :: H) K) : SX n E I L (.blk g e xss.flatten :: H) K := by
  have := sx_unrow (rest := []) hU (fun c hc => (by cases hc)) hm (by simp) hl h
  simpa using this
end
end Go.Sx

/- Ranging over a function: what the iterator is told of the rounds, what the loop is told of the iterator. -/
set_option linter.all false
namespace Go.Sx
open Go

/-- one call of yield -/
def YieldH (P : Program) (l : Nat) (args : List Value) (I : IMap) (H : List Res) (post : Value → IMap → List Res → Prop) : Prop :=
  ∀ w, Mem ⟨foots H, I, w⟩ I H w → After P (Instr.yield l args.toArray) w (Post ⟨foots H, I, w⟩ post)
/-- the rounds: J true pre: on behind the rounds pre; J false pre: the last one of pre has stopped it -/
def YieldsS {α : Type} (P : Program) (l : Nat) (rd : IMap → List Value → α → Prop) (ok : List α → α → Prop) (J : Bool → List α → IMap → List Res → Prop) : Prop :=
  ∀ pre x vs I H, J true pre I H → rd I vs x → ok pre x → YieldH P l vs I H fun u I' H' => ∃ b, u = .bool b ∧ J b (pre ++ [x]) I' H'
def JMono {α : Type} (J : Bool → List α → IMap → List Res → Prop) : Prop := ∀ b pre I I' H, ILe I I' → J b pre I H → J b pre I' H
/-- THE CONTRACT OF AN ITERATOR: whatever the rounds do: it yields the values of a list, in order: 'full' all of it, 'part' up to where it was stopped -/
def FnIt {α : Type} (P : Program) (f : FuncId) (cap : List Value) (I0 : IMap) (rd : IMap → List Value → α → Prop) (ok : List α → α → Prop) (full part : List α → Prop) : Prop :=
  ∀ (l : Nat) (J : Bool → List α → IMap → List Res → Prop) (I : IMap) (Hc : List Res), ILe I0 I → JMono J → YieldsS P l rd ok J → J true [] I Hc →
    FnH P f (.func (.yield l) #[] #[] :: cap).toArray I Hc fun _ I' H' => ∃ b pre, J b pre I' H' ∧ (if b then full pre else part pre)

section
variable {P : Program} {ρ : Option Nat} {n : Sz} {E : Ent} {I I' : IMap} {L : LL} {H : List Res} {Q : Exit → Act → World → Prop} {ops : Array Oper} {K : Act → World → Prop}
variable {d ty : Nat} {pos : String} {af : Array Edge}
theorem run_call_yield {a : Act} {w : World} {fo : Operand} {as_ : List Operand} {ats : Array TypeId} {l : Nat} {args : List Value} (s : St n a L) (hf : ev L fo = some (.func (.yield l) #[] #[])) (ha : evs L as_ = some args) (o : Oper)
    (ho : o.op = .call { callee := .value fo, args := as_.toArray, argTypes := ats }) : (execOp a.eval o).run P w = (Instr.yield l args.toArray).run P w := by
  have ha' : as_.toArray.map a.eval = args.toArray := by rw [← evs_spec s as_ args ha]; simp
  simp only [execOp, ho, resolve, ha', s.ev hf, Deferred.ofValue, Sem.run_bind, Sem.run_pure, Result.andThen_ok, invoke]
  congr 1
  congr 1
  simp
/-- yield, in the iterator: the caller's part of the memory is behind -/
theorem o_yield {α : Type} {l : Nat} {rd : IMap → List Value → α → Prop} {ok : List α → α → Prop} {J : Bool → List α → IMap → List Res → Prop} {Hc : List Res} {fo : Operand} {as_ : List Operand} {ats : Array TypeId} {vs : List Value} {pre : List α} {x : α}
    (hy : YieldsS P l rd ok J) (hJ : J true pre I Hc) (hr : rd I vs x) (hk : ok pre x) (hf : ev L fo = some (.func (.yield l) #[] #[])) (ha : evs L as_ = some vs) (hd : Nat.blt d n.sz = true)
    (k : ∀ b I' Hc', ILe I I' → J b (pre ++ [x]) I' Hc' → SX n E I' ((d, .bool b) :: L) (H ++ Hc') K) :
    SX n E I L (H ++ Hc) (one P ops Q ⟨some d, .call { callee := .value fo, args := as_.toArray, argTypes := ats }, ty, pos, af, none⟩ K) := by
  refine sx_perm List.perm_append_comm ?_
  refine o_after (hy pre x vs I Hc hJ hr hk) (fun a w s => run_call_yield s hf ha _ rfl) hd fun v I' H' hI hp => ?_
  obtain ⟨b, rfl, hp⟩ := hp
  exact sx_perm List.perm_append_comm (k b I' H' hI hp)

/-! the rounds -/
def putAll : List (Nat × Value) → LL → LL
  | [], L => L
  | (i, v) :: r, L => putAll r ((i, v) :: L)
theorem St.putAll {k : Nat} : ∀ (ps : List (Nat × Value)) {a : Act} {L : LL}, St ⟨k, []⟩ a L → (∀ p ∈ ps, p.1 < k) → St ⟨k, []⟩ { a with tmps := ps.foldl (fun t p => t.setIfInBounds p.1 p.2) a.tmps } (putAll ps L)
  | [], _, _, s, _ => s
  | (i, v) :: r, a, L, s, h => by
    have hi : i < k := h (i, v) (by simp)
    have s1 : St ⟨k, []⟩ (a.put (some i) v) ((i, v) :: L) := s.put (by simpa [Nat.blt_eq] using hi)
    exact St.putAll r s1 (fun p hp => h p (by simp [hp]))
/-- what is known of the loop's record -/
structure Rec where
  l : Nat
  D : Nat
  ready : Loop
  hs : ready.state = .ready
  hp : ready.pending = none
def Rec.busy (r : Rec) : Loop := { r.ready with state := .busy }
def Rec.done (r : Rec) (c : Code) : Loop := { r.ready with state := .done, pending := some c }
def Rec.mark (r : Rec) : Res := .any r.D (.deferred (some []))
/-- what the rounds hand on -/
def JR {α σ : Type} (I0 : IMap) (r : Rec) (Hx : σ → List Res) (p : List α → IMap → σ → Prop) (px : List α → IMap → σ → Code → Prop) : Bool → List α → IMap → List Res → Prop
  | true, pre, I, H => ∃ s, H = .any r.l (.loop r.ready) :: r.mark :: Hx s ∧ ILe I0 I ∧ p pre I s
  | false, pre, I, H => ∃ s c, H = .any r.l (.loop (r.done c)) :: r.mark :: Hx s ∧ ILe I0 I ∧ px pre I s c
def RFin {α σ : Type} (P : Program) (E : Ent) (I0 : IMap) (r : Rec) (Hx : σ → List Res) (p : List α → IMap → σ → Prop) (px : List α → IMap → σ → Code → Prop) (pre : List α) : Exit → Act → World → Prop :=
  roundPost P r.l (Post E fun u I' H' => ∃ b, u = .bool b ∧ JR I0 r Hx p px b pre I' H')
/-- behind the assignments to the loop's variables -/
def RBegin (P : Program) (r : Rec) (body : Code) (R : Exit → Act → World → Prop) : Exit → Act → World → Prop :=
  Exit.then (fun a w => ∃ w', (Instr.beginRound r.l).run P w = .ok () w' ∧ body.wq (some r.l) P R a w') (fun _ _ _ => False)
variable {α σ : Type} {I0 : IMap} {r : Rec} {Hx : σ → List Res} {p : List α → IMap → σ → Prop} {px : List α → IMap → σ → Code → Prop} {pre : List α}
theorem step_loop {w : World} {o o' : Loop} {l : Nat} (m : Mem E I (.any l (.loop o) :: H) w) : Mem E I (.any l (.loop o') :: H) (w.putObj l (.loop o')) := by
  have hr : w.heap[l]? = some (.loop o) := m.holds _ (List.mem_cons_self ..)
  have hlt : l < w.heap.size := (Array.getElem?_eq_some_iff.1 hr).1
  exact m.step rfl ⟨rfl, Nat.le_refl _⟩ rfl (by simp) (fun k hk hne => World.putObj_heap_other (fun e => hne (by subst e; rfl))) (World.putObj_heap_same hlt) (fun g hg => .inl hg)
theorem r_begin {body : Code} {R : Exit → Act → World → Prop} (h : SX n E I L (.any r.l (.loop r.busy) :: H) (body.wq (some r.l) P R)) : SX n E I L (.any r.l (.loop r.ready) :: H) (RBegin P r body R .normal) := by
  intro a w s m
  have hl : w.heap[r.l]? = some (.loop r.ready) := m.holds _ (List.mem_cons_self ..)
  exact ⟨_, run_beginRound hl r.hs, h a _ s (step_loop m)⟩
theorem r_next (s' : σ) (hI : ILe I0 I) (hp : p pre I s') (hH : H = Hx s') : SX n E I L (.any r.l (.loop r.busy) :: r.mark :: H) (RFin P E I0 r Hx p px pre .normal) := by
  subst hH
  intro a w s m
  have hl : w.heap[r.l]? = some (.loop r.busy) := m.holds _ (List.mem_cons_self ..)
  refine ⟨_, _, run_endRound none hl, .bool true, I, _, rfl, step_loop m, true, rfl, s', ?_, hI, hp⟩
  have : (({ r.busy with state := if (none : Option Code).isNone = true then .ready else .done, pending := none } : Loop)) = r.ready := by
    have h1 := r.hs; have h2 := r.hp
    unfold Rec.busy
    cases hr : r.ready
    rw [hr] at h1 h2
    simp only at h1 h2
    subst h1 h2
    rfl
  rw [this]
theorem r_jump {c : Code} (s' : σ) (hI : ILe I0 I) (hp : px pre I s' c) (hH : H = Hx s') {a : Act} {w : World} (m : Mem E I (.any r.l (.loop r.busy) :: r.mark :: H) w) :
    ∃ v w', (Instr.endRound r.l (some c)).run P w = .ok v w' ∧ Post E (fun u I' H' => ∃ b, u = .bool b ∧ JR I0 r Hx p px b pre I' H') (.returned v) w' := by
  subst hH
  have hl : w.heap[r.l]? = some (.loop r.busy) := m.holds _ (List.mem_cons_self ..)
  exact ⟨_, _, run_endRound (some c) hl, .bool false, I, _, rfl, step_loop m, false, rfl, s', c, rfl, hI, hp⟩
theorem r_ret (s' : σ) (hI : ILe I0 I) (hp : px pre I s' .ret) (hH : H = Hx s') : SX n E I L (.any r.l (.loop r.busy) :: r.mark :: H) (RFin P E I0 r Hx p px pre .ret) := fun _ _ _ m => r_jump (a := ⟨#[], []⟩) s' hI hp hH m
theorem r_exit {id : Nat} (s' : σ) (hI : ILe I0 I) (hp : px pre I s' (.exit id)) (hH : H = Hx s') : SX n E I L (.any r.l (.loop r.busy) :: r.mark :: H) (RFin P E I0 r Hx p px pre (.exit id)) := fun _ _ _ m => r_jump (a := ⟨#[], []⟩) s' hI hp hH m
/-- THE STATEMENT, outermost -/
theorem c_range {k gf : Nat} {D : List Mk} {H0 : List Res} {g : Operand} {ps : List Nat} {assign body : Code} {cap : List Value} {rd : IMap → List Value → α → Prop} {ok : List α → α → Prop} {full part : List α → Prop}
    (s0 : σ) (Hx : σ → List Res) (p : List α → IMap → σ → Prop) (px : List α → IMap → σ → Code → Prop)
    (hg : ev L g = some (.func (.func gf) #[] cap.toArray)) (hcall : ∀ (args : Array Value) (w : World), (callFunc gf args).run P w = .ok (.enter gf args) w)
    (hit : FnIt P gf cap I rd ok full part) (hlen : ∀ I vs x, rd I vs x → vs.length = ps.length) (hps : ps.all (fun i => Nat.blt i k) = true)
    (hmp : ∀ pre I I' s, ILe I I' → p pre I s → p pre I' s) (hmx : ∀ pre I I' s c, ILe I I' → px pre I s c → px pre I' s c)
    (h0 : p [] I s0) (hH : Hx s0 ++ H0 = H)
    (round : ∀ (r : Rec) (E1 : Ent) pre x vs I1 s, ILe I I1 → p pre I1 s → rd I1 vs x → ok pre x →
      SX ⟨k, []⟩ E1 I1 (putAll (ps.zip vs) L) (.any r.l (.loop r.ready) :: r.mark :: Hx s) (assign.wq (some r.l) P (RBegin P r body (RFin P E1 I r Hx p px (pre ++ [x])))))
    (hdone : ∀ D' pre I1 s, ILe I I1 → full pre → p pre I1 s → SX ⟨k, .m D' :: D⟩ E I1 L (.any D' (.deferred (some [])) :: (Hx s ++ H0)) (Q .normal))
    (hstop : ∀ D' pre I1 s c, ILe I I1 → part pre → px pre I1 s c → SX ⟨k, .m D' :: D⟩ E I1 L (.any D' (.deferred (some [])) :: (Hx s ++ H0)) (c.wq none P Q)) :
    SX ⟨k, D⟩ E I L H ((Code.rangeFunc g ps.toArray assign body).wq none P Q) := by
  subst hH
  intro a w s m
  refine wpIn_rangeFunc ?_
  intro fn _
  obtain ⟨rec, hrec⟩ : ∃ rec : Loop, rec = { state := .ready, pending := none, fn, tmps := a.tmps, params := ps.toArray, assign, body, defers := w.heap.size } := ⟨_, rfl⟩
  obtain ⟨W1, hW1⟩ : ∃ W1, (w.alloc (.deferred (some []))).alloc (.loop rec) = W1 := ⟨_, rfl⟩
  obtain ⟨r, hr⟩ : ∃ r : Rec, r = ⟨w.heap.size + 1, w.heap.size, rec, by rw [hrec], by rw [hrec]⟩ := ⟨_, rfl⟩
  have hrl : r.l = w.heap.size + 1 := by rw [hr]
  have hrD : r.D = w.heap.size := by rw [hr]
  have hrr : r.ready = rec := by rw [hr]
  have hevg : a.eval g = .func (.func gf) #[] cap.toArray := s.ev hg
  refine ⟨w.heap.size + 1, [{ target := .collected w.heap.size, args := #[] }], W1, { target := .fn (.func gf) cap.toArray, args := #[.func (.yield (w.heap.size + 1)) #[] #[]] }, W1, gf,
    #[.func (.yield (w.heap.size + 1)) #[] #[]] ++ cap.toArray, W1, ?_, ?_, fun _ _ => trivial, ?_, fun h => by simp [fen, Fence.wide] at h, ?_⟩
  · rw [← hW1, hrec]; exact run_enterLoop_outer _ _ _ _ _
  · simp only [resolve, hevg]
    simp [go_sem]
  · simp [invoke, go_sem, hcall]
  have m1 : Mem E I (.any r.D (.deferred (some [])) :: (Hx s0 ++ H0)) (w.alloc (.deferred (some []))) := by
    rw [hrD]
    exact m.new rfl ⟨rfl, Nat.le_refl _⟩ rfl (by simp) (fun k hk => Below_old w _ k hk) (heap_alloc_new w _) fun g hg => by simp only [Res.foot, Option.some.injEq] at hg; omega
  have m2 : Mem E I ((.any r.l (.loop r.ready) :: r.mark :: Hx s0) ++ H0) W1 := by
    rw [hrl, hrr, ← hW1]
    have hsz : (w.alloc (.deferred (some []))).heap.size = w.heap.size + 1 := by simp
    refine m1.new rfl ⟨rfl, Nat.le_refl _⟩ rfl (by simp) (fun k hk => Below_old _ _ k hk) ?_ fun g hg => by simp only [Res.foot, Option.some.injEq] at hg; omega
    have := heap_alloc_new (w.alloc (.deferred (some []))) (.loop rec)
    rw [hsz] at this
    exact this
  -- the rounds
  have hJm : JMono (JR I r Hx p px) := by
    rintro (_ | _) pre I1 I2 H1 hle ⟨s1, h⟩
    · obtain ⟨c, h1, h2, h3⟩ := h
      exact ⟨s1, c, h1, h2.trans hle, hmx _ _ _ _ _ hle h3⟩
    · obtain ⟨h1, h2, h3⟩ := h
      exact ⟨s1, h1, h2.trans hle, hmp _ _ _ _ hle h3⟩
  have hy : YieldsS P r.l rd ok (JR I r Hx p px) := by
    rintro pre x vs I1 H1 ⟨s1, rfl, hle, hp1⟩ hx hok w1 mw
    have hl1 : w1.heap[r.l]? = some (.loop r.ready) := mw.holds _ (List.mem_cons_self ..)
    have hI1 := round r ⟨foots (.any r.l (.loop r.ready) :: r.mark :: Hx s1), I1, w1⟩ pre x vs I1 s1 hle hp1 hx hok
    have hvl : vs.toArray.size = r.ready.params.size := by rw [hrr, hrec]; simp [hlen _ _ _ hx]
    unfold After
    rw [run_yield (P := P) hl1 hvl]
    refine roundIn_of_wpIn trivial ?_
    have st1 : St ⟨k, []⟩ { tmps := ((r.ready.params.zip vs.toArray).foldl (fun tmps x => tmps.setIfInBounds x.1 x.2) r.ready.tmps), defers := [] } (putAll (ps.zip vs) L) := by
      have h0 : St ⟨k, []⟩ { a with defers := [] } L := ⟨s.size, rfl, s.get⟩
      have h1 := h0.putAll (ps.zip vs) (fun q hq => by
        have h2 := List.all_eq_true.1 hps q.1 (List.of_mem_zip hq).1
        simpa [Nat.blt_eq] using h2)
      have e : (r.ready.params.zip vs.toArray).foldl (fun tmps x => tmps.setIfInBounds x.1 x.2) r.ready.tmps = (ps.zip vs).foldl (fun t p => t.setIfInBounds p.1 p.2) a.tmps := by
        rw [hrr, hrec]
        simp
      rw [e]
      exact h1
    have m1 := Mem.call (E := ⟨foots (.any r.l (.loop r.ready) :: r.mark :: Hx s1), I1, w1⟩) (Hc := .any r.l (.loop r.ready) :: r.mark :: Hx s1) (H0 := []) (by simpa using mw)
    have h3 := hI1 _ _ st1 m1
    have e2 : r.ready.assign = assign := by rw [hrr, hrec]
    have e3 : r.ready.body = body := by rw [hrr, hrec]
    rw [e2, e3]
    exact h3
  have hf := (hit r.l (JR I r Hx p px) I _ (ILe.refl I) hJm hy ⟨s0, rfl, ILe.refl I, h0⟩).go W1 m2.call
  unfold After at hf
  rw [hcall] at hf
  have hargs : #[.func (.yield (w.heap.size + 1)) #[] #[]] ++ cap.toArray = (Value.func (.yield r.l) #[] #[] :: cap).toArray := by rw [hrl]; simp
  rw [hargs]
  refine callsIn_fen (Calls.mono hf ?_)
  rintro e w2 ⟨v, I', H', rfl, hm', b, pre, hJ, hfp⟩
  have hb := m2.back hm'
  have hsame : ∀ _ : Unit, St ⟨k, .m r.D :: D⟩ { a with defers := [{ target := .collected w.heap.size, args := #[] }] ++ a.defers } L := fun _ => ⟨s.size, by rw [hrD]; show _ :: a.defers = _; rw [s.defers]; rfl, s.get⟩
  cases b with
  | true =>
    obtain ⟨s2, rfl, hle, hp2⟩ := hJ
    have hl2 : w2.heap[w.heap.size + 1]? = some (.loop r.ready) := by rw [← hrl]; exact hb.holds _ (List.mem_cons_self ..)
    refine ⟨none, _, by have := run_endLoop (P := P) hl2 (by rw [r.hs]; simp); rw [r.hp] at this; exact this, ?_⟩
    rw [← hrl]
    have m3 := (step_loop (o' := { r.ready with state := .exhausted, pending := none }) hb).drop
    exact hdone r.D pre I' s2 hle hfp hp2 _ _ (hsame ()) m3
  | false =>
    obtain ⟨s2, c, rfl, hle, hp2⟩ := hJ
    have hl2 : w2.heap[w.heap.size + 1]? = some (.loop (r.done c)) := by rw [← hrl]; exact hb.holds _ (List.mem_cons_self ..)
    refine ⟨some c, _, by have := run_endLoop (P := P) hl2 (by simp [Rec.done]); exact this, ?_⟩
    rw [← hrl]
    have m3 := (step_loop (o' := { r.done c with state := .exhausted }) hb).drop
    exact hstop r.D pre I' s2 c hle hfp hp2 _ _ (hsame ()) m3
end
end Go.Sx

/- Loops and meetings of ways with four and five things that turn; yield with blocks of one's own in front. -/
set_option linter.all false
namespace Go.Sx
open Go
section
variable {P : Program} {ρ : Option Nat} {n : Sz} {E : Ent} {I I' : IMap} {L : LL} {H : List Res} {K : Act → World → Prop} {Q : Exit → Act → World → Prop} {ops : Array Oper} {N : Act → World → Prop}
variable {α β γ δ ε : Type}
def NextS4 (n : Sz) (E : Ent) (Ix : α → β → γ → δ → IMap) (Lx : α → β → γ → δ → LL) (Hx : α → β → γ → δ → List Res) (p : α → β → γ → δ → Prop) (μ : α → β → γ → δ → Nat) (x : α) (y : β) (z : γ) (t : δ) : Act → World → Prop :=
  fun a w => ∃ x' y' z' t', p x' y' z' t' ∧ μ x' y' z' t' < μ x y z t ∧ St n a (Lx x' y' z' t') ∧ Mem E (Ix x' y' z' t') (Hx x' y' z' t') w
theorem c_loop4 (x0 : α) (y0 : β) (z0 : γ) (t0 : δ) (Ix : α → β → γ → δ → IMap) (Lx : α → β → γ → δ → LL) (Hx : α → β → γ → δ → List Res) (p : α → β → γ → δ → Prop) (μ : α → β → γ → δ → Nat) {c : Code}
    (h0 : p x0 y0 z0 t0) (hI : Ix x0 y0 z0 t0 = I) (hL : Sub (Lx x0 y0 z0 t0) L) (hH : Hx x0 y0 z0 t0 = H)
    (round : ∀ x y z t, p x y z t → SX n E (Ix x y z t) (Lx x y z t) (Hx x y z t) (c.wq ρ P (Exit.then (NextS4 n E Ix Lx Hx p μ x y z t) Q))) : SX n E I L H ((Code.loop c).wq ρ P Q) :=
  c_loop (α := α × β × γ × δ) (x0, y0, z0, t0) (fun q => Ix q.1 q.2.1 q.2.2.1 q.2.2.2) (fun q => Lx q.1 q.2.1 q.2.2.1 q.2.2.2) (fun q => Hx q.1 q.2.1 q.2.2.1 q.2.2.2) (fun q => p q.1 q.2.1 q.2.2.1 q.2.2.2) (fun q => μ q.1 q.2.1 q.2.2.1 q.2.2.2) h0 hI hL hH
    fun ⟨x, y, z, t⟩ hp => sx_mono (round x y z t hp) fun a w h => cwq_mono (fun e a w q => by
      cases e with
      | normal => obtain ⟨x', y', z', t', h1, h2, h3, h4⟩ := q; exact ⟨(x', y', z', t'), h1, h2, h3, h4⟩
      | _ => exact q) h
theorem q_next4 {Ix : α → β → γ → δ → IMap} {Lx : α → β → γ → δ → LL} {Hx : α → β → γ → δ → List Res} {p : α → β → γ → δ → Prop} {μ : α → β → γ → δ → Nat} {x : α} {y : β} {z : γ} {t : δ} (x' : α) (y' : β) (z' : γ) (t' : δ) (hp : p x' y' z' t') (hμ : μ x' y' z' t' < μ x y z t)
    (hI : Ix x' y' z' t' = I) (hL : Sub (Lx x' y' z' t') L) (hH : Hx x' y' z' t' = H) : SX n E I L H (NextS4 n E Ix Lx Hx p μ x y z t) :=
  fun a w s m => ⟨x', y', z', t', hp, hμ, s.sub hL, by rw [hI, hH]; exact m⟩
def NextS5 (n : Sz) (E : Ent) (Ix : α → β → γ → δ → ε → IMap) (Lx : α → β → γ → δ → ε → LL) (Hx : α → β → γ → δ → ε → List Res) (p : α → β → γ → δ → ε → Prop) (μ : α → β → γ → δ → ε → Nat) (x : α) (y : β) (z : γ) (t : δ) (u : ε) : Act → World → Prop :=
  fun a w => ∃ x' y' z' t' u', p x' y' z' t' u' ∧ μ x' y' z' t' u' < μ x y z t u ∧ St n a (Lx x' y' z' t' u') ∧ Mem E (Ix x' y' z' t' u') (Hx x' y' z' t' u') w
theorem c_loop5 (x0 : α) (y0 : β) (z0 : γ) (t0 : δ) (u0 : ε) (Ix : α → β → γ → δ → ε → IMap) (Lx : α → β → γ → δ → ε → LL) (Hx : α → β → γ → δ → ε → List Res) (p : α → β → γ → δ → ε → Prop) (μ : α → β → γ → δ → ε → Nat) {c : Code}
    (h0 : p x0 y0 z0 t0 u0) (hI : Ix x0 y0 z0 t0 u0 = I) (hL : Sub (Lx x0 y0 z0 t0 u0) L) (hH : Hx x0 y0 z0 t0 u0 = H)
    (round : ∀ x y z t u, p x y z t u → SX n E (Ix x y z t u) (Lx x y z t u) (Hx x y z t u) (c.wq ρ P (Exit.then (NextS5 n E Ix Lx Hx p μ x y z t u) Q))) : SX n E I L H ((Code.loop c).wq ρ P Q) :=
  c_loop (α := α × β × γ × δ × ε) (x0, y0, z0, t0, u0) (fun q => Ix q.1 q.2.1 q.2.2.1 q.2.2.2.1 q.2.2.2.2) (fun q => Lx q.1 q.2.1 q.2.2.1 q.2.2.2.1 q.2.2.2.2) (fun q => Hx q.1 q.2.1 q.2.2.1 q.2.2.2.1 q.2.2.2.2) (fun q => p q.1 q.2.1 q.2.2.1 q.2.2.2.1 q.2.2.2.2) (fun q => μ q.1 q.2.1 q.2.2.1 q.2.2.2.1 q.2.2.2.2) h0 hI hL hH
    fun ⟨x, y, z, t, u⟩ hp => sx_mono (round x y z t u hp) fun a w h => cwq_mono (fun e a w q => by
      cases e with
      | normal => obtain ⟨x', y', z', t', u', h1, h2, h3, h4⟩ := q; exact ⟨(x', y', z', t', u'), h1, h2, h3, h4⟩
      | _ => exact q) h
theorem q_next5 {Ix : α → β → γ → δ → ε → IMap} {Lx : α → β → γ → δ → ε → LL} {Hx : α → β → γ → δ → ε → List Res} {p : α → β → γ → δ → ε → Prop} {μ : α → β → γ → δ → ε → Nat} {x : α} {y : β} {z : γ} {t : δ} {u : ε} (x' : α) (y' : β) (z' : γ) (t' : δ) (u' : ε) (hp : p x' y' z' t' u') (hμ : μ x' y' z' t' u' < μ x y z t u)
    (hI : Ix x' y' z' t' u' = I) (hL : Sub (Lx x' y' z' t' u') L) (hH : Hx x' y' z' t' u' = H) : SX n E I L H (NextS5 n E Ix Lx Hx p μ x y z t u) :=
  fun a w s m => ⟨x', y', z', t', u', hp, hμ, s.sub hL, by rw [hI, hH]; exact m⟩
end
section
variable {P : Program} {n : Sz} {E : Ent} {I : IMap} {L : LL} {Q : Exit → Act → World → Prop} {ops : Array Oper} {K : Act → World → Prop} {d ty : Nat} {pos : String} {af : Array Edge}
variable {α : Type} {l : Nat} {rd : IMap → List Value → α → Prop} {ok : List α → α → Prop} {J : Bool → List α → IMap → List Res → Prop} {Hc : List Res} {fo : Operand} {as_ : List Operand} {ats : Array TypeId} {vs : List Value} {pre : List α} {r1 r2 r3 r4 r5 : Res}
theorem o_yield1 (x : α) (hy : YieldsS P l rd ok J) (hJ : J true pre I Hc) (hr : rd I vs x) (hk : ok pre x) (hf : ev L fo = some (.func (.yield l) #[] #[])) (ha : evs L as_ = some vs) (hd : Nat.blt d n.sz = true)
    (k : ∀ b I' Hc', ILe I I' → J b (pre ++ [x]) I' Hc' → SX n E I' ((d, .bool b) :: L) (r1 :: Hc') K) : SX n E I L (r1 :: Hc) (one P ops Q ⟨some d, .call { callee := .value fo, args := as_.toArray, argTypes := ats }, ty, pos, af, none⟩ K) :=
  o_yield (H := [r1]) hy hJ hr hk hf ha hd k
theorem o_yield2 (x : α) (hy : YieldsS P l rd ok J) (hJ : J true pre I Hc) (hr : rd I vs x) (hk : ok pre x) (hf : ev L fo = some (.func (.yield l) #[] #[])) (ha : evs L as_ = some vs) (hd : Nat.blt d n.sz = true)
    (k : ∀ b I' Hc', ILe I I' → J b (pre ++ [x]) I' Hc' → SX n E I' ((d, .bool b) :: L) (r1 :: r2 :: Hc') K) : SX n E I L (r1 :: r2 :: Hc) (one P ops Q ⟨some d, .call { callee := .value fo, args := as_.toArray, argTypes := ats }, ty, pos, af, none⟩ K) :=
  o_yield (H := [r1, r2]) hy hJ hr hk hf ha hd k
theorem o_yield3 (x : α) (hy : YieldsS P l rd ok J) (hJ : J true pre I Hc) (hr : rd I vs x) (hk : ok pre x) (hf : ev L fo = some (.func (.yield l) #[] #[])) (ha : evs L as_ = some vs) (hd : Nat.blt d n.sz = true)
    (k : ∀ b I' Hc', ILe I I' → J b (pre ++ [x]) I' Hc' → SX n E I' ((d, .bool b) :: L) (r1 :: r2 :: r3 :: Hc') K) : SX n E I L (r1 :: r2 :: r3 :: Hc) (one P ops Q ⟨some d, .call { callee := .value fo, args := as_.toArray, argTypes := ats }, ty, pos, af, none⟩ K) :=
  o_yield (H := [r1, r2, r3]) hy hJ hr hk hf ha hd k
end
section
variable {P : Program} {n : Sz} {E : Ent} {I I' : IMap} {L : LL} {H : List Res} {Q : Exit → Act → World → Prop} {ops : Array Oper} {K : Act → World → Prop} {w0 : World}
variable {d ty : Nat} {pos : String} {af : Array Edge} {fo : Operand} {as_ : List Operand} {ats : Array TypeId} {f : FuncId} {args : List Value} {r : Res} {X : List Nat}
/-- a resource goes in, a value and grown memory come out -/
def FnD (P : Program) (f : FuncId) (args : Array Value) (I : IMap) (r : Res) (p : Value → IMap → Prop) : Prop := FnH P f args I [r] fun u I' H' => p u I' ∧ H' = []
theorem o_callD {p : Value → IMap → Prop} (hc : FnD P f args.toArray I r p) (h : callArgs L fo as_ = some (f, args)) (hd : Nat.blt d n.sz = true) (k : ∀ v I', ILe I I' → p v I' → SX n E I' ((d, v) :: L) H K) :
    SX n E I L (r :: H) (one P ops Q ⟨some d, .call { callee := .value fo, args := as_.toArray, argTypes := ats }, ty, pos, af, none⟩ K) :=
  o_callH (Hc := [r]) hc h hd fun v I' H' hI hp => by obtain ⟨h1, rfl⟩ := hp; exact k v I' hI h1
theorem q_d {v : Value} {p : Value → IMap → Prop} (h : p v I) : SX n E I L H fun _ w => Post E (fun u' I' H' => p u' I' ∧ H' = []) (.returned v) w := q_i h
theorem q_it {α : Type} {J : Bool → List α → IMap → List Res → Prop} {full part : List α → Prop} {v : Value} (b : Bool) (pre : List α) (hJ : J b pre I H) (hf : if b then full pre else part pre) :
    SX n E I L H fun _ w => Post E (fun _ I' H' => ∃ b pre, J b pre I' H' ∧ (if b then full pre else part pre)) (.returned v) w := q_post (fun _ m => m) ⟨b, pre, hJ, hf⟩
end
section
variable {n : Sz} {E : Ent} {I : IMap} {L : LL} {H : List Res} {K : Act → World → Prop} {a b r1 r2 r3 r4 r5 r6 r7 r8 r9 : Res}
theorem sx_exp1 (h : SX n E I L [a, b, r1] K) : SX n E I L (a :: b :: [r1]) K := h
theorem sx_app1 (h : SX n E I L (a :: r1 :: H) K) : SX n E I L (a :: ([r1] ++ H)) K := h
theorem sx_exp2 (h : SX n E I L [a, b, r1, r2] K) : SX n E I L (a :: b :: [r1, r2]) K := h
theorem sx_app2 (h : SX n E I L (a :: r1 :: r2 :: H) K) : SX n E I L (a :: ([r1, r2] ++ H)) K := h
theorem sx_exp3 (h : SX n E I L [a, b, r1, r2, r3] K) : SX n E I L (a :: b :: [r1, r2, r3]) K := h
theorem sx_app3 (h : SX n E I L (a :: r1 :: r2 :: r3 :: H) K) : SX n E I L (a :: ([r1, r2, r3] ++ H)) K := h
theorem sx_exp5 (h : SX n E I L [a, b, r1, r2, r3, r4, r5] K) : SX n E I L (a :: b :: [r1, r2, r3, r4, r5]) K := h
theorem sx_app5 (h : SX n E I L (a :: r1 :: r2 :: r3 :: r4 :: r5 :: H) K) : SX n E I L (a :: ([r1, r2, r3, r4, r5] ++ H)) K := h
end
theorem sx_roweq {n : Sz} {E : Ent} {I : IMap} {L : LL} {H : List Res} {K : Act → World → Prop} {v : Value} {t k m : Nat} {xs ys : List Value} (h : xs = ys) (hk : SX n E I L (.row v t k m ys :: H) K) : SX n E I L (.row v t k m xs :: H) K := h ▸ hk
section
variable {P : Program} {n : Sz} {E : Ent} {I : IMap} {L : LL} {H : List Res} {d ty tx tyy : Nat} {pos : String} {af : Array Edge} {x y : Operand}
theorem v_rem {i j : Nat} (hx : ev L x = some (.int .i64 ((i : Nat) : Int))) (hy : ev L y = some (.int .i64 ((j : Nat) : Int))) (hj : 0 < j) (hb : i ≤ 9223372036854775807) : OV P n E I L H ⟨some d, .binOp .rem tx x y tyy, ty, pos, af, none⟩ (.int .i64 ((i % j : Nat) : Int)) := fun a w s _ => by
  have h1 : (j : Int) ≠ 0 := by omega
  have h2 : Int.tmod (i : Int) (j : Int) = ((i % j : Nat) : Int) := by rw [Int.tmod_eq_emod_of_nonneg (by omega)]; simp
  have h3 : i % j ≤ i := Nat.mod_le _ _
  simp only [execOp, s.ev hx, s.ev hy, eqGuard_at_int, binOp_rem, Op.intDiv, Sem.run_bind]
  simp [h1, h2]
  intro h0
  omega
end
end Go.Sx

/- The course of events in plain Lean: states one after the other; deleting in place. -/
set_option linter.all false
namespace Go.Sx
open Go
theorem idxF_ge {α : Type} (p : α → Bool) (l : List α) : -1 ≤ idxF p l := by
  cases h : l.findIdx? p with
  | none => have : idxF p l = -1 := by simp [idxF, h]
            omega
  | some k => have : idxF p l = (k : Int) := by simp [idxF, h]
              omega
theorem idxF_pos {α : Type} {p : α → Bool} {l : List α} {i : Nat} (h : idxF p l = (i : Int)) (hi : i < l.length) : p l[i] = true ∧ ∀ j x, j < i → l[j]? = some x → p x = false := by
  cases hf : l.findIdx? p with
  | none => have : idxF p l = -1 := by simp [idxF, hf]
            omega
  | some k =>
    have : idxF p l = (k : Int) := by simp [idxF, hf]
    obtain rfl : k = i := by omega
    rw [List.findIdx?_eq_some_iff_getElem] at hf
    obtain ⟨h1, h2, h3⟩ := hf
    exact ⟨h2, fun j x hj hx => by obtain ⟨hlt, rfl⟩ := List.getElem?_eq_some_iff.1 hx; simpa using h3 j hj⟩
/-- what the iterator of states hands to the loop -/
def rdR2 (I : IMap) (vs : List Value) (x : Res2) : Prop := ∃ w, vs = [.agg #[w], .int .i64 x.2] ∧ RdS I w x.1
/-- what lies in front of a place that is written, what is read behind it -/
structure Del (p : Evt → Bool) (l m : List Evt) (i j : Nat) : Prop where
  len : m.length = l.length
  le : i ≤ j
  hj : j ≤ l.length
  fst : m.take i = (l.take j).filter fun x => !p x
  rest : m.drop j = l.drop j
theorem Del.start {p : Evt → Bool} {l : List Evt} {i : Nat} (hi : i < l.length) (hp : p l[i] = true) (hn : ∀ j x, j < i → l[j]? = some x → p x = false) : Del p l l i (i + 1) := by
  refine ⟨rfl, by omega, by omega, ?_, rfl⟩
  rw [← take_succ_of hi, List.filter_append]
  have h1 : (l.take i).filter (fun x => !p x) = l.take i := by
    rw [List.filter_eq_self]
    intro x hx
    obtain ⟨j, hj, rfl⟩ := List.getElem_of_mem hx
    simp only [List.length_take] at hj
    rw [List.getElem_take, hn j _ (by omega) (List.getElem?_eq_getElem (by omega))]
    rfl
  rw [h1]
  simp [hp]
theorem Del.at_ {p : Evt → Bool} {l m : List Evt} {i j : Nat} (h : Del p l m i j) (hj : j < l.length) : m[j]'(by rw [h.len]; exact hj) = l[j] := by
  have h1 : (m.drop j)[0]? = (l.drop j)[0]? := by rw [h.rest]
  rw [List.getElem?_drop, List.getElem?_drop, List.getElem?_eq_getElem (by rw [h.len]; simpa using hj), List.getElem?_eq_getElem (by simpa using hj)] at h1
  simpa using h1
theorem Del.skip {p : Evt → Bool} {l m : List Evt} {i j : Nat} (h : Del p l m i j) (hj : j < l.length) (hp : p l[j] = true) : Del p l m i (j + 1) := by
  refine ⟨h.len, by have := h.le; omega, by omega, ?_, ?_⟩
  · rw [h.fst, ← take_succ_of hj, List.filter_append]; simp [hp]
  · have := congrArg (List.drop 1) h.rest; simpa [List.drop_drop] using this
theorem Del.keep {p : Evt → Bool} {l m : List Evt} {i j : Nat} (h : Del p l m i j) (hj : j < l.length) (hp : p l[j] = false) : Del p l (m.set i l[j]) (i + 1) (j + 1) := by
  have hl := h.len
  have hle := h.le
  refine ⟨by simp [hl], by omega, by omega, ?_, ?_⟩
  · rw [List.take_succ_eq_append_getElem (by simp; omega), List.take_set_of_le (Nat.le_refl _), h.fst, ← take_succ_of hj, List.filter_append]
    simp [hp]
  · rw [List.drop_set_of_lt (by omega)]
    have := congrArg (List.drop 1) h.rest; simpa [List.drop_drop] using this
/-- the states after the events, until one is not possible -/
def statesF (c : List Kind) : List Part → List Evt → List Res2
  | _, [] => []
  | s, e :: r => applyF c s e :: (if (applyF c s e).2 = 0 then statesF c (applyF c s e).1 r else [])
theorem states_len (c : List Kind) : ∀ (l : List Evt) (s : List Part), (statesF c s l).length ≤ l.length
  | [], _ => Nat.le_refl _
  | e :: r, s => by
    simp only [statesF, List.length_cons]
    split
    · have := states_len c r (applyF c s e).1; omega
    · simp
abbrev Res3 := List Part × Int × Int
/-- the state after all, or where it stops -/
def runGo (c : List Kind) : List Part → Int → List Evt → Res3
  | s, _, [] => (s, -1, 0)
  | s, i, e :: r => if (applyF c s e).2 = 0 then runGo c (applyF c s e).1 (i + 1) r else ([], i, (applyF c s e).2)
def runF (c : List Kind) (l : List Evt) : Res3 := if validC c = false then ([], -1, 1) else runGo c [] 0 (sortF l)
def atF11 (c : List Kind) (l : List Evt) (day : Int) : Res3 := runF c (l.filter fun e => !decide (e.day > day))
def lastS (s : List Part) (pre : List Res2) : List Part := (pre.getLast?.map (·.1)).getD s
theorem run_full {c : List Kind} : ∀ (l : List Evt) (s : List Part) (i : Int), (∀ x ∈ statesF c s l, x.2 = 0) → runGo c s i l = (lastS s (statesF c s l), -1, 0)
  | [], s, i, _ => rfl
  | e :: r, s, i, h => by
    have h1 : (applyF c s e).2 = 0 := h _ (by simp [statesF])
    simp only [runGo, statesF, if_pos h1]
    rw [run_full r _ _ (fun x hx => h x (by simp only [statesF, if_pos h1]; exact List.mem_cons_of_mem _ hx))]
    congr 1
    cases hs : statesF c (applyF c s e).1 r with
    | nil => simp [lastS]
    | cons y t =>
      obtain ⟨z, hz⟩ : ∃ z, (y :: t).getLast? = some z := ⟨_, List.getLast?_eq_some_getLast (by simp)⟩
      simp [lastS, List.getLast?_cons_cons, hz]
theorem run_stop {c : List Kind} : ∀ (l : List Evt) (s : List Part) (i : Int) (pre rest : List Res2) (x : Res2), statesF c s l = pre ++ x :: rest → (∀ y ∈ pre, y.2 = 0) → x.2 ≠ 0 → runGo c s i l = ([], i + (pre.length : Nat), x.2)
  | [], s, i, pre, rest, x, h, _, _ => by simp [statesF] at h
  | e :: r, s, i, pre, rest, x, h, hp, hx => by
    simp only [statesF] at h
    cases pre with
    | nil =>
      simp only [List.nil_append, List.cons.injEq] at h
      simp only [runGo]
      rw [h.1, if_neg hx]
      simp
    | cons y t =>
      simp only [List.cons_append, List.cons.injEq] at h
      obtain ⟨h1, h2⟩ := h
      have h3 : y.2 = 0 := hp y (by simp)
      rw [h1] at h2
      rw [if_pos h3] at h2
      simp only [runGo, h1, if_pos h3]
      rw [run_stop r y.1 (i + 1) t rest x h2 (fun z hz => hp z (by simp [hz])) hx]
      simp only [List.length_cons, Prod.mk.injEq, true_and, and_true]
      omega
/-- a round of the iterator -/
structure StAt (c : List Kind) (l : List Evt) (i : Nat) (st : List Part) : Prop where
  le : i ≤ (statesF c [] l).length
  rest : (statesF c [] l).drop i = statesF c st (l.drop i)
theorem StAt.zero (c : List Kind) (l : List Evt) : StAt c l 0 [] := ⟨Nat.zero_le _, rfl⟩
theorem StAt.step {c : List Kind} {l : List Evt} {i : Nat} {st : List Part} (h : StAt c l i st) (hi : i < l.length) :
    (statesF c [] l).take i ++ [applyF c st l[i]] = (statesF c [] l).take (i + 1) ∧ i < (statesF c [] l).length ∧ ((applyF c st l[i]).2 = 0 → StAt c l (i + 1) (applyF c st l[i]).1) ∧ ((applyF c st l[i]).2 ≠ 0 → (statesF c [] l).take (i + 1) = statesF c [] l) := by
  have h1 := h.rest
  rw [List.drop_eq_getElem_cons hi] at h1
  simp only [statesF] at h1
  have hlt : i < (statesF c [] l).length := by
    rcases Nat.lt_or_ge i (statesF c [] l).length with h2 | h2
    · exact h2
    · rw [List.drop_eq_nil_of_le h2] at h1; cases h1
  rw [List.drop_eq_getElem_cons hlt] at h1
  simp only [List.cons.injEq] at h1
  refine ⟨?_, hlt, fun h0 => ⟨hlt, ?_⟩, fun h0 => ?_⟩
  · rw [← h1.1, take_succ_of hlt]
  · rw [h1.2, if_pos h0]
  · refine List.take_of_length_le ?_
    have h2 := h1.2
    rw [if_neg h0] at h2
    simpa using h2
theorem StAt.last {c : List Kind} {l : List Evt} {i : Nat} {st : List Part} (h : StAt c l i st) (hi : l.length ≤ i) : (statesF c [] l).take i = statesF c [] l := by
  have h1 := h.rest
  rw [List.drop_eq_nil_of_le hi] at h1
  exact List.take_of_length_le (by simpa [statesF] using h1)
/-! small names stay small -/
theorem SmF.nil : SmF [] := fun _ h => by cases h
theorem putL_mem {α : Type} {nm : α → ByteArray} {l : List α} {x y : α} (h : y ∈ putL nm l x) : y = x ∨ y ∈ l := by
  unfold putL at h
  split at h
  · rcases List.mem_or_eq_of_mem_set h with h | h
    · exact .inr h
    · exact .inl h
  · rcases List.mem_append.1 h with h | h
    · exact .inr (List.mem_of_mem_take h)
    · rcases List.mem_cons.1 h with h | h
      · exact .inl h
      · exact .inr (List.mem_of_mem_drop h)
theorem putR_sm {l : List Part} {p : Part} (h : SmF l) (hp : SmP p) : SmF (putR l p).1 := fun q hq => by
  rcases putL_mem (show q ∈ putL Part.name l p from hq) with rfl | hq
  · exact hp
  · exact h q hq
theorem applyF_sm {c : List Kind} {l : List Part} {e : Evt} (h : SmF l) (he : SmE e) : SmF (applyF c l e).1 := by
  have hz : SmP zPart := ⟨(by show (0 : Nat) ≤ _; omega), fun q hq => by simp [zPart] at hq⟩
  have hp : SmP (partP l e) := by
    unfold partP
    cases hf : findP l e.part with
    | none => exact hz
    | some p => exact h p (find_mem hf)
  have hn : SmP (noted e (partP l e)) := ⟨hp.1, fun q hq => by
    rcases putL_mem (show q ∈ putL Prp.key (partP l e).props ⟨e.key, e.value⟩ from hq) with rfl | hq
    · exact he.2.2.2.2.1
    · exact hp.2 q hq⟩
  have hnew : SmP (newP e) := ⟨he.1, fun q hq => by simp [newP] at hq⟩
  have hfail : ∀ k, SmF (failR k).1 := fun k => SmF.nil
  unfold applyF
  split
  · exact hfail 1
  · split
    · unfold applyMake
      repeat' split
      all_goals first
        | exact hfail _
        | exact putR_sm h hnew
    · unfold applyRest
      split
      · exact hfail _
      · split
        · exact hfail _
        · unfold applyOp applyFit applyRemove applyRun applyNote applyScrap
          repeat' split
          all_goals first
            | exact hfail _
            | exact putR_sm h hp
            | exact putR_sm h hn
            | exact putR_sm h ⟨hp.1, hp.2⟩
end Go.Sx

/- What the laws of the course rest on, in plain Lean. -/
set_option linter.all false
namespace Go.Sx
open Go
theorem fewE_sm {l : List Evt} {n : Int} (h : fewE l n = true) : (∀ e ∈ l, SmE e) ∧ ((l.length : Nat) : Int) ≤ n := by
  simp only [fewE, Bool.and_eq_true, decide_eq_true_eq] at h
  refine ⟨fun e he => ?_, h.2⟩
  obtain ⟨_, h1⟩ := allP_mem h.1 he
  simp only [shortE, Bool.and_eq_true, decide_eq_true_eq] at h1
  refine ⟨?_, ?_, ?_, ?_, ?_, ?_⟩ <;> unfold Sm <;> omega
theorem fewC_sm {c : List Kind} (h : fewC c = true) : SmC c := by
  simp only [fewC, Bool.and_eq_true, Bool.not_eq_true', decide_eq_false_iff_not] at h
  intro k hk
  obtain ⟨_, h1⟩ := allP_mem h.2 hk
  simp only [fewKind, Bool.and_eq_true, Bool.not_eq_true', Bool.or_eq_false_iff, decide_eq_false_iff_not] at h1
  refine ⟨by unfold Sm; omega, fun s hs => ?_⟩
  obtain ⟨_, h2⟩ := allP_mem h1.2 hs
  simp only [fewSlot, Bool.and_eq_true, Bool.not_eq_true', Bool.or_eq_false_iff, decide_eq_false_iff_not] at h2
  refine ⟨by unfold Sm; omega, fun q hq => ?_⟩
  obtain ⟨_, h3⟩ := allP_mem h2.2 hq
  simp only [Bool.not_eq_true', decide_eq_false_iff_not] at h3
  unfold Sm; omega
/-! the example -/
end Go.Sx

/- The laws of the course in plain Lean. -/
set_option linter.all false
namespace Go.Sx
open Go
/-! the order -/
section
variable {α : Type} [Day α]
theorem sortF_of {l m : List α} (hs : Srtd m) (h : ∀ d : Int, m.filter (fun e => decide (Day.day e = d)) = l.filter (fun e => decide (Day.day e = d))) : sortF l = m :=
  stb_one _ _ (sortF_srt l) hs fun d => by rw [sortF_filter, h]
/-- the earlier ones, the later ones -/
theorem sortF_part (l : List α) (p : α → Bool) (h : ∀ x ∈ l, ∀ y ∈ l, p x = true → p y = false → Day.day x ≤ Day.day y) (hd : ∀ x ∈ l, ∀ y ∈ l, Day.day x = Day.day y → p x = p y) :
    sortF l = sortF (l.filter p) ++ sortF (l.filter fun x => !p x) := by
  refine sortF_of ?_ fun d => ?_
  · rw [Srtd, List.pairwise_append]
    refine ⟨sortF_srt _, sortF_srt _, fun x hx y hy => ?_⟩
    rw [sortF_mem, List.mem_filter] at hx hy
    exact h x hx.1 y hy.1 hx.2 (by simpa using hy.2)
  · rw [List.filter_append, sortF_filter, sortF_filter, List.filter_filter, List.filter_filter]
    by_cases hp : ∃ x ∈ l, Day.day x = d ∧ p x = true
    · obtain ⟨x, hx, hxd, hxp⟩ := hp
      have e1 : l.filter (fun a => decide (Day.day a = d) && p a) = l.filter fun a => decide (Day.day a = d) := by
        apply List.filter_congr
        intro y hy
        by_cases hyd : Day.day y = d
        · simp [hyd, ← hd x hx y hy (by omega), hxp]
        · simp [hyd]
      have e2 : l.filter (fun a => decide (Day.day a = d) && !p a) = [] := by
        rw [List.filter_eq_nil_iff]
        intro y hy
        by_cases hyd : Day.day y = d
        · simp [← hd x hx y hy (by omega), hxp]
        · simp [hyd]
      rw [e1, e2, List.append_nil]
    · have e1 : l.filter (fun a => decide (Day.day a = d) && p a) = [] := by
        rw [List.filter_eq_nil_iff]
        intro y hy hc
        simp only [Bool.and_eq_true, decide_eq_true_eq] at hc
        exact hp ⟨y, hy, hc.1, hc.2⟩
      have e2 : l.filter (fun a => decide (Day.day a = d) && !p a) = l.filter fun a => decide (Day.day a = d) := by
        apply List.filter_congr
        intro y hy
        by_cases hyd : Day.day y = d
        · have : p y = false := by
            cases h : p y
            · rfl
            · exact absurd ⟨y, hy, hyd, h⟩ hp
          simp [hyd, this]
        · simp [hyd]
      rw [e1, e2, List.nil_append]
/-- where the elements of a day begin -/
def Beg (s : List α) (a : Nat) : Prop := ∀ j x y, j < a → s[j]? = some x → s[a]? = some y → Day.day x < Day.day y
theorem Beg.zero (s : List α) : Beg s 0 := fun j x y h => absurd h (Nat.not_lt_zero j)
end
/-! running on -/
theorem runF_eq {c : List Kind} (hc : validC c = true) (l : List Evt) : runF c l = runGo c [] 0 (sortF l) := by unfold runF; rw [if_neg (by simp [hc])]
/-- the course of the events up to a day, of those behind it -/
def upD (l : List Evt) (day : Int) : List Evt := l.filter fun e => !decide (e.day > day)
def laD (l : List Evt) (day : Int) : List Evt := l.filter fun e => decide (e.day > day)
theorem sort_day (l : List Evt) (day : Int) : sortF l = sortF (upD l day) ++ sortF (laD l day) := by
  have h := sortF_part l (fun e => !decide (e.day > day)) (fun x _ y _ hx hy => by
    simp only [Bool.not_eq_true', decide_eq_false_iff_not, Bool.not_eq_false', decide_eq_true_eq] at hx hy
    show x.day ≤ y.day; omega) (fun x _ y _ h => by
    have : x.day = y.day := h
    simp only [this])
  rw [h, upD, laD]
  congr 2
  apply List.filter_congr
  intro x _
  simp
theorem at_eq (c : List Kind) (l : List Evt) (day : Int) : atF11 c l day = runF c (upD l day) := rfl
/-! what a loop gathers -/
/-! both catalogs -/
theorem name_same (s : ByteArray) : nameOk s = nameRef s := by
  rw [Bool.eq_iff_iff]
  simp only [nameOk, nameRef, Bool.and_eq_true, Bool.not_eq_true', decide_eq_false_iff_not, decide_eq_true_eq, charsTo, wordsTo, List.all_eq_true, List.mem_range, nameChar, isWord, Bool.or_eq_true]
  have he : s = ⟨#[]⟩ ↔ s.size = 0 := by
    constructor
    · rintro rfl; rfl
    · intro h
      cases s with | mk d => congr 1; exact Array.eq_empty_of_size_eq_zero h
  constructor
  · rintro ⟨h1, h2, h3⟩
    have hp : 0 < s.size := by rcases Nat.eq_zero_or_pos s.size with h | h; · exact absurd (he.2 h) h2
                               · exact h
    refine ⟨fun i hi => ?_, ⟨by omega, h3⟩, ?_⟩
    · rcases h1 i hi with h | ⟨_, h | h⟩
      · exact .inl (.inl h)
      · exact .inl (.inr h)
      · exact .inr h
    · rcases h1 0 hp with h | ⟨h, _⟩
      · exact h
      · exact absurd rfl h
  · rintro ⟨h1, ⟨h2, h3⟩, h4⟩
    refine ⟨fun i hi => ?_, fun h => by have := he.1 h; omega, h3⟩
    by_cases h0 : i = 0
    · subst h0; exact .inl h4
    · rcases h1 i hi with (h | h) | h
      · exact .inl h
      · exact .inr ⟨h0, .inl h⟩
      · exact .inr ⟨h0, .inr h⟩
end Go.Sx

/- Lists in strict order of a name: what putting one in does. -/
set_option linter.all false
namespace Go.Sx
open Go
section
variable {α : Type} {nm : α → ByteArray}
def Inc (nm : α → ByteArray) (l : List α) : Prop := l.Pairwise fun x y => sLt (nm x) (nm y) = true
theorem inc_of {l : List α} (h : Srt nm l) : Inc nm l := by
  rw [Inc, List.pairwise_iff_getElem]
  exact fun i j hi hj hij => h i j hj hij
/-- a list parted at a name -/
structure Cut (nm : α → ByteArray) (s : ByteArray) (a b : List α) : Prop where
  lo : ∀ y ∈ a, sLt (nm y) s = true
  hi : ∀ y ∈ b, sLt s (nm y) = true
theorem cut_of (l : List α) (s : ByteArray) (h : Inc nm l) : (∃ a b, l = a ++ b ∧ Cut nm s a b) ∨ ∃ a y b, l = a ++ y :: b ∧ nm y = s ∧ Cut nm s a b := by
  induction l with
  | nil => exact .inl ⟨[], [], rfl, fun _ h => (by cases h), fun _ h => (by cases h)⟩
  | cons x r ih =>
    have h' := List.pairwise_cons.1 h
    cases hx : sLt (nm x) s with
    | true =>
      rcases ih h'.2 with ⟨a, b, rfl, hc⟩ | ⟨a, y, b, rfl, hy, hc⟩
      · exact .inl ⟨x :: a, b, rfl, fun y hy => by rcases List.mem_cons.1 hy with rfl | hy; exact hx; exact hc.lo y hy, hc.hi⟩
      · exact .inr ⟨x :: a, y, b, rfl, hy, fun y hy => by rcases List.mem_cons.1 hy with rfl | hy; exact hx; exact hc.lo y hy, hc.hi⟩
    | false =>
      by_cases he : nm x = s
      · subst he
        exact .inr ⟨[], x, r, rfl, rfl, fun _ h => (by cases h), fun y hy => h'.1 y hy⟩
      · have hs : sLt s (nm x) = true := by
          cases hs : sLt s (nm x) with
          | true => rfl
          | false => exact absurd (sLt_tri hx hs) he
        exact .inl ⟨[], x :: r, rfl, fun _ h => (by cases h), fun y hy => by
          rcases List.mem_cons.1 hy with rfl | hy
          · exact hs
          · exact sLt_trans hs (h'.1 y hy)⟩
theorem pos_cut {a b : List α} {s : ByteArray} (hc : Cut nm s a b) : posF nm (a ++ b) s = a.length := by
  refine pos_eq (by simp) (fun q x hq hx => ?_) fun q x hq hx => ?_
  · rw [List.getElem?_append_left hq] at hx
    exact hc.lo x (List.mem_of_getElem? hx)
  · rw [List.getElem?_append_right hq] at hx
    exact sLt_asymm (hc.hi x (List.mem_of_getElem? hx))
theorem pos_cut1 {a b : List α} {y : α} {s : ByteArray} (hc : Cut nm s a b) (hy : nm y = s) : posF nm (a ++ y :: b) s = a.length := by
  refine pos_eq (by simp) (fun q x hq hx => ?_) fun q x hq hx => ?_
  · rw [List.getElem?_append_left hq] at hx
    exact hc.lo x (List.mem_of_getElem? hx)
  · rw [List.getElem?_append_right hq] at hx
    rcases List.mem_cons.1 (List.mem_of_getElem? hx) with rfl | hx
    · rw [hy]; exact sLt_irrefl s
    · exact sLt_asymm (hc.hi x hx)
theorem at_cut {a b : List α} {s : ByteArray} (hc : Cut nm s a b) : atF nm (a ++ b) s = false := by
  unfold atF
  rw [pos_cut hc]
  cases b with
  | nil => simp
  | cons y r =>
    rw [List.getElem?_append_right (Nat.le_refl _), Nat.sub_self]
    simp only [List.getElem?_cons_zero, decide_eq_false_iff_not]
    rintro rfl
    have := hc.hi y (by simp)
    rw [sLt_irrefl] at this; cases this
theorem at_cut1 {a b : List α} {y : α} {s : ByteArray} (hc : Cut nm s a b) (hy : nm y = s) : atF nm (a ++ y :: b) s = true := by
  unfold atF
  rw [pos_cut1 hc hy, List.getElem?_append_right (Nat.le_refl _), Nat.sub_self]
  simp [hy]
theorem put_cut {a b : List α} {x : α} (hc : Cut nm (nm x) a b) : putL nm (a ++ b) x = a ++ x :: b := by
  unfold putL
  rw [at_cut hc, pos_cut hc, if_neg (by decide)]
  simp
theorem put_cut1 {a b : List α} {x y : α} (hc : Cut nm (nm x) a b) (hy : nm y = nm x) : putL nm (a ++ y :: b) x = a ++ x :: b := by
  unfold putL
  rw [at_cut1 hc hy, pos_cut1 hc hy, if_pos rfl]
  simp
theorem inc_mid {a b : List α} {x : α} (ha : Inc nm a) (hb : Inc nm b) (hc : Cut nm (nm x) a b) : Inc nm (a ++ x :: b) := by
  rw [Inc, List.pairwise_append, List.pairwise_cons]
  exact ⟨ha, ⟨hc.hi, hb⟩, fun y hy z hz => by
    rcases List.mem_cons.1 hz with rfl | hz
    · exact hc.lo y hy
    · exact sLt_trans (hc.lo y hy) (hc.hi z hz)⟩
theorem put_inc {l : List α} (x : α) (h : Inc nm l) : Inc nm (putL nm l x) := by
  rcases cut_of l (nm x) h with ⟨a, b, rfl, hc⟩ | ⟨a, y, b, rfl, hy, hc⟩
  · rw [put_cut hc]
    rw [Inc, List.pairwise_append] at h
    exact inc_mid h.1 h.2.1 hc
  · rw [put_cut1 hc hy]
    rw [Inc, List.pairwise_append, List.pairwise_cons] at h
    exact inc_mid h.1 h.2.1.2 hc
theorem cut_ne {a b : List α} {s : ByteArray} (hc : Cut nm s a b) {y : α} (hy : y ∈ a ∨ y ∈ b) : nm y ≠ s := by
  rintro rfl
  rcases hy with hy | hy
  · have := hc.lo y hy; rw [sLt_irrefl] at this; cases this
  · have := hc.hi y hy; rw [sLt_irrefl] at this; cases this
theorem put_mem {l : List α} {x z : α} (h : Inc nm l) : z ∈ putL nm l x ↔ z = x ∨ (z ∈ l ∧ nm z ≠ nm x) := by
  rcases cut_of l (nm x) h with ⟨a, b, rfl, hc⟩ | ⟨a, y, b, rfl, hy, hc⟩
  · rw [put_cut hc]
    simp only [List.mem_append, List.mem_cons]
    constructor
    · rintro (h | h | h)
      · exact .inr ⟨.inl h, cut_ne hc (.inl h)⟩
      · exact .inl h
      · exact .inr ⟨.inr h, cut_ne hc (.inr h)⟩
    · rintro (h | ⟨h | h, _⟩)
      · exact .inr (.inl h)
      · exact .inl h
      · exact .inr (.inr h)
  · rw [put_cut1 hc hy]
    simp only [List.mem_append, List.mem_cons]
    constructor
    · rintro (h | h | h)
      · exact .inr ⟨.inl h, cut_ne hc (.inl h)⟩
      · exact .inl h
      · exact .inr ⟨.inr (.inr h), cut_ne hc (.inr h)⟩
    · rintro (h | ⟨h | h | h, hn⟩)
      · exact .inr (.inl h)
      · exact .inl h
      · subst h; exact absurd hy hn
      · exact .inr (.inr h)
theorem inc_uniq {l : List α} (h : Inc nm l) {x y : α} (hx : x ∈ l) (hy : y ∈ l) (he : nm x = nm y) : x = y := by
  obtain ⟨i, hi, rfl⟩ := List.getElem_of_mem hx
  obtain ⟨j, hj, rfl⟩ := List.getElem_of_mem hy
  rw [Inc, List.pairwise_iff_getElem] at h
  rcases Nat.lt_trichotomy i j with hij | rfl | hij
  · have := h i j hi hj hij; rw [he, sLt_irrefl] at this; cases this
  · rfl
  · have := h j i hj hi hij; rw [he, sLt_irrefl] at this; cases this
theorem inc_ext : ∀ {l m : List α}, Inc nm l → Inc nm m → (∀ x, x ∈ l ↔ x ∈ m) → l = m
  | [], [], _, _, _ => rfl
  | [], y :: m, _, _, h => by have := (h y).2 (by simp); cases this
  | x :: l, [], _, _, h => by have := (h x).1 (by simp); cases this
  | x :: l, y :: m, h1, h2, h => by
    have h1' := List.pairwise_cons.1 h1
    have h2' := List.pairwise_cons.1 h2
    have hxy : x = y := by
      rcases List.mem_cons.1 ((h x).1 (by simp)) with e | hx
      · exact e
      · rcases List.mem_cons.1 ((h y).2 (by simp)) with e | hy
        · exact e.symm
        · have a := h2'.1 x hx
          have b := h1'.1 y hy
          have := sLt_trans a b
          rw [sLt_irrefl] at this; cases this
    subst hxy
    congr 1
    refine inc_ext h1'.2 h2'.2 fun z => ?_
    have hz := h z
    simp only [List.mem_cons] at hz
    constructor
    · intro hzl
      rcases hz.1 (.inr hzl) with rfl | hm
      · have := h1'.1 z hzl; rw [sLt_irrefl] at this; cases this
      · exact hm
    · intro hzm
      rcases hz.2 (.inr hzm) with rfl | hm
      · have := h2'.1 z hzm; rw [sLt_irrefl] at this; cases this
      · exact hm
theorem put_comm {l : List α} {x y : α} (h : Inc nm l) (hn : nm x ≠ nm y) : putL nm (putL nm l x) y = putL nm (putL nm l y) x := by
  refine inc_ext (put_inc y (put_inc x h)) (put_inc x (put_inc y h)) fun z => ?_
  rw [put_mem (put_inc x h), put_mem h, put_mem (put_inc y h), put_mem h]
  constructor
  · rintro (rfl | ⟨rfl | ⟨h1, h2⟩, h3⟩)
    · exact .inr ⟨.inl rfl, fun e => hn e.symm⟩
    · exact .inl rfl
    · exact .inr ⟨.inr ⟨h1, h3⟩, h2⟩
  · rintro (rfl | ⟨rfl | ⟨h1, h2⟩, h3⟩)
    · exact .inr ⟨.inl rfl, hn⟩
    · exact .inl rfl
    · exact .inr ⟨.inr ⟨h1, h3⟩, h2⟩
theorem put_len {l : List α} {x : α} (h : Inc nm l) : (putL nm l x).length = if atF nm l (nm x) = true then l.length else l.length + 1 := by
  rcases cut_of l (nm x) h with ⟨a, b, rfl, hc⟩ | ⟨a, y, b, rfl, hy, hc⟩
  · rw [put_cut hc, at_cut hc]; simp; omega
  · rw [put_cut1 hc hy, at_cut1 hc hy]; simp
theorem find_inc {l : List α} (h : Inc nm l) {x : α} (hx : x ∈ l) : l.find? (fun y => decide (nm y = nm x)) = some x := by
  cases hf : l.find? fun y => decide (nm y = nm x) with
  | none =>
    rw [List.find?_eq_none] at hf
    have := hf x hx
    simp at this
  | some y =>
    have h1 := List.mem_of_find?_eq_some hf
    have h2 := List.find?_some hf
    rw [inc_uniq h h1 hx (by simpa using h2)]
theorem find_iff {l : List α} (h : Inc nm l) {s : ByteArray} {x : α} : l.find? (fun y => decide (nm y = s)) = some x ↔ x ∈ l ∧ nm x = s := by
  constructor
  · intro hf
    exact ⟨List.mem_of_find?_eq_some hf, by simpa using List.find?_some hf⟩
  · rintro ⟨hx, rfl⟩; exact find_inc h hx
theorem find_none {l : List α} {s : ByteArray} : l.find? (fun y => decide (nm y = s)) = none ↔ ∀ x ∈ l, nm x ≠ s := by
  rw [List.find?_eq_none]; simp
theorem put_find {l : List α} {x : α} (h : Inc nm l) (s : ByteArray) : (putL nm l x).find? (fun y => decide (nm y = s)) = if nm x = s then some x else l.find? fun y => decide (nm y = s) := by
  have h1 := put_inc x h
  split
  · rename_i e; subst e; exact find_inc h1 ((put_mem h).2 (.inl rfl))
  · rename_i e
    cases hf : l.find? fun y => decide (nm y = s) with
    | none =>
      rw [find_none] at hf ⊢
      intro z hz
      rcases (put_mem h).1 hz with rfl | ⟨hz, _⟩
      · exact e
      · exact hf z hz
    | some y =>
      rw [find_iff h] at hf
      rw [find_iff h1]
      exact ⟨(put_mem h).2 (.inr ⟨hf.1, fun e' => e (e'.symm.trans hf.2)⟩), hf.2⟩
theorem at_find {l : List α} (h : Inc nm l) (s : ByteArray) : atF nm l s = (l.find? fun y => decide (nm y = s)).isSome := by
  rcases cut_of l s h with ⟨a, b, rfl, hc⟩ | ⟨a, y, b, rfl, hy, hc⟩
  · rw [at_cut hc]
    have : (a ++ b).find? (fun y => decide (nm y = s)) = none := find_none.2 fun x hx => cut_ne hc (List.mem_append.1 hx)
    rw [this]; rfl
  · rw [at_cut1 hc hy]
    have : (a ++ y :: b).find? (fun y => decide (nm y = s)) = some y := (find_iff h).2 ⟨by simp, hy⟩
    rw [this]; rfl
end
end Go.Sx

/- What the references of catalog, event, fleet and course compute, in plain Lean: the same as_ the program. -/
set_option linter.all false
namespace Go.Sx
open Go
/-! events -/
def ivlR (i : Ivl) : Bool := (decide (0 ≤ i.low) && decide (i.low ≤ i.high)) && decide (i.high ≤ 1000000)
theorem ivlR_eq (i : Ivl) : ivlR i = ivlOk i := by
  unfold ivlR ivlOk; rw [Bool.eq_iff_iff]; simp
def useR (u : Use) : Bool := (ivlR u.km && ivlR u.cycles) && ivlR u.load
theorem useR_eq (u : Use) : useR u = useTo u 3 := by
  simp only [useR, useTo, ivlR_eq]
  simp [List.range_succ, useAt, Bool.and_assoc]
def baseR (e : Evt) : Evt := ⟨e.op, e.day, e.part, nil8, nil8, nil8, nil8, nil8, zUse⟩
def keepR (e : Evt) : Evt :=
  if e.op = 1 then { baseR e with kind := e.kind } else if e.op = 2 then { baseR e with into := e.into, slot := e.slot } else if e.op = 4 then { baseR e with use := e.use } else if e.op = 6 then { baseR e with key := e.key, value := e.value } else baseR e
def goodR (e : Evt) : Bool :=
  if e.op = 1 then nameRef e.kind else if e.op = 2 then (nameRef e.into && nameRef e.slot) && !decide (e.into = e.part) else if e.op = 4 then useR e.use else if e.op = 6 then (nameRef e.key && decide ((1 : Int) ≤ (e.value.size : Nat))) && decide (((e.value.size : Nat) : Int) ≤ 200) else true
def evBadR (e : Evt) : Bool := (((decide (e.op < 1) || decide (7 < e.op)) || decide (e.day < 0)) || decide (40000 < e.day)) || !nameRef e.part
def validER (e : Evt) : Bool := !evBadR e && (goodR e && decide (keepR e = e))
theorem size_nil {s : ByteArray} : s = nil8 ↔ s.size = 0 := by
  constructor
  · rintro rfl; rfl
  · intro h
    cases s with | mk d => congr 1; exact Array.eq_empty_of_size_eq_zero h
theorem one_le (s : ByteArray) : decide ((1 : Int) ≤ (s.size : Nat)) = !decide (s = nil8) := by
  rw [← decide_not, decide_eq_decide, size_nil]; omega
theorem le_not (a b : Int) : decide (a ≤ b) = !decide (b < a) := by
  rw [← decide_not, decide_eq_decide]; omega
theorem evBadR_eq (e : Evt) : evBadR e = evBad e := by
  unfold evBadR evBad
  rw [name_same]
  congr 3
  rw [Bool.eq_iff_iff, Bool.or_eq_true, decide_eq_true_eq, decide_eq_true_eq, decide_eq_true_eq, wordOf_empty]
  omega
theorem keep_rest (e : Evt) : decide (keepR e = e) = decide (restOf e = zEvt) := by
  rw [decide_eq_decide]
  unfold keepR restOf baseR zEvt
  obtain ⟨op, day, part, kind, into, slot, key, value, use⟩ := e
  by_cases h1 : op = 1
  · subst h1; simp [eq_comm]
  by_cases h2 : op = 2
  · subst h2; simp [eq_comm]
  by_cases h4 : op = 4
  · subst h4; simp [eq_comm]
  by_cases h6 : op = 6
  · subst h6; simp [eq_comm]
  · simp [h1, h2, h4, h6, eq_comm]
theorem good_op (e : Evt) : goodR e = (!opBad e && !((namesOf e).any fun s => !nameOk s)) := by
  unfold goodR opBad namesOf
  by_cases h1 : e.op = 1
  · simp [h1, name_same]
  by_cases h2 : e.op = 2
  · simp [h2, name_same, Bool.and_comm]
  by_cases h4 : e.op = 4
  · simp [h4, useR_eq]
  by_cases h6 : e.op = 6
  · rw [if_neg h1, if_neg h2, if_neg h4, if_pos h6, if_neg h2, if_pos h6, if_neg h1, if_neg h2, if_pos h6, one_le, le_not]
    simp only [List.any_cons, List.any_nil, name_same]
    cases nameRef e.key <;> cases decide (e.value = nil8) <;> cases decide ((200 : Int) < (e.value.size : Nat)) <;> rfl
  · simp [h1, h2, h4, h6]
theorem validER_eq (e : Evt) : validER e = validE e := by
  unfold validER validE
  rw [evBadR_eq, good_op, keep_rest]
  cases evBad e <;> cases opBad e <;> cases decide (restOf e = zEvt) <;> cases (namesOf e).any fun s => !nameOk s <;> rfl
/-! fleets -/
/-! putting in -/
section
variable {α : Type} (nm : α → ByteArray) (x : α)
variable {nm x}
end
section
variable {α : Type} {nm : α → ByteArray} {x : α} {l : List α} {i : Nat} {out : List α} {b : Bool}
end
/-! the course -/
end Go.Sx

/- Reports and choices: what they are in Lean, how they lie in memory. -/
set_option linter.all false
namespace Go.Sx
open Go
structure Rep where
  options : List Evt
  doubtful : Bool
  deriving DecidableEq
def Rep.cells (r : Rep) (s : Value) : List Value := [s, .bool r.doubtful]
instance : Enc Rep where
  k := 2
  rd I vs x := ∃ s, vs = x.cells s ∧ RdS I s x.options
  len h := by obtain ⟨ks, rfl, _⟩ := h; rfl
  mono hI h := by obtain ⟨ks, rfl, h⟩ := h; exact ⟨ks, rfl, h.le hI⟩
  one h := by obtain ⟨ks, rfl, h⟩ := h; obtain ⟨A, c, rfl, _⟩ := h; rfl
instance : Enc UInt8 where
  k := 1
  rd _ vs x := vs = [.int .u8 x.toNat]
  len h := by rw [h]; rfl
  mono _ h := h
  one h := by rw [h]; rfl
/-- an event that is picked, and the report that picks it -/
structure Pkd where
  e : Evt
  rep : Int
  lo : 0 ≤ e.day
  hi : e.day ≤ 40000
def Pkd.cells (p : Pkd) : List Value := p.e.cells ++ [ci p.rep]
instance : Enc Pkd where
  k := 15
  rd _ vs x := vs = x.cells
  len h := by rw [h]; rfl
  mono _ h := h
  one h := by rw [h]; rfl
instance : Day Pkd := ⟨fun p => p.e.day, Pkd.cells, 15, fun _ => rfl⟩
/-! reports -/
def optFine (pre : List Evt) (e : Evt) : Bool := !(hit id pre e || !validE e)
def validRep (r : Rep) : Bool := !(decide (((r.options.length : Nat) : Int) = 0) || decide ((4 : Int) < (r.options.length : Nat))) && allP optFine r.options r.options.length
def chs (r : Rep) : Int := if validRep r = false then 0 else if r.doubtful = true then ((r.options.length : Nat) : Int) + 1 else ((r.options.length : Nat) : Int)
theorem validRep_e {r : Rep} (h : validRep r = true) : ∀ e ∈ r.options, validE e = true := by
  intro e he
  simp only [validRep, Bool.and_eq_true] at h
  obtain ⟨pre, h1⟩ := allP_mem h.2 he
  simp only [optFine, Bool.not_eq_true', Bool.or_eq_false_iff, Bool.not_eq_false'] at h1
  exact h1.2
theorem validE_day {e : Evt} (h : validE e = true) : 0 ≤ e.day ∧ e.day ≤ 40000 := by
  simp only [validE, Bool.and_eq_true, Bool.not_eq_true'] at h
  have h1 := h.1.1.1
  simp only [evBad, Bool.or_eq_false_iff, decide_eq_false_iff_not] at h1
  omega
/-! numbers for reports -/
/-- of what is at an index of both lists -/
def at2 {β : Type} (f : Rep → Int → β) (l : List Rep) (ch : List Int) (i : Nat) : Option β := match l[i]?, ch[i]? with | some r, some k => some (f r k) | _, _ => none
theorem at2_eq {β : Type} {f : Rep → Int → β} {l : List Rep} {ch : List Int} {i : Nat} (h1 : i < l.length) (h2 : i < ch.length) : at2 f l ch i = some (f l[i] ch[i]) := by
  simp [at2, h1, h2]
def allTo (f : Rep → Int → Bool) (l : List Rep) (ch : List Int) (n : Nat) : Bool := (List.range n).all fun i => (at2 f l ch i).getD true
theorem allTo_succ {f : Rep → Int → Bool} {l : List Rep} {ch : List Int} {i : Nat} (h : allTo f l ch i = true) (h1 : i < l.length) (h2 : i < ch.length) (hf : f l[i] ch[i] = true) : allTo f l ch (i + 1) = true :=
  all_succ h (by simp [at2_eq h1 h2, hf])
theorem allTo_not {f : Rep → Int → Bool} {l : List Rep} {ch : List Int} {i n : Nat} (hn : i < n) (h1 : i < l.length) (h2 : i < ch.length) (hf : f l[i] ch[i] = false) : allTo f l ch n = false :=
  all_not (p := fun i => (at2 f l ch i).getD true) hn (by simp [at2_eq h1 h2, hf])
theorem allTo_at {f : Rep → Int → Bool} {l : List Rep} {ch : List Int} {n i : Nat} (h : allTo f l ch n = true) (hi : i < n) (h1 : i < l.length) (h2 : i < ch.length) : f l[i] ch[i] = true := by
  rw [allTo, List.all_eq_true] at h
  have := h i (List.mem_range.2 hi)
  simpa [at2_eq h1 h2] using this
def chFine (least : Int) (r : Rep) (k : Int) : Bool := !((decide (chs r = 0) || decide (k < least)) || decide (chs r ≤ k))
def givenF (c : List Kind) (l : List Rep) (ch : List Int) (least : Int) : Bool := !(!validC c || !decide (((ch.length : Nat) : Int) = (l.length : Nat))) && allTo (chFine least) l ch l.length
/-- the option that a number picks, if it is before a day -/
def optAt (day : Int) (r : Rep) (k : Int) : Option Evt := if 0 ≤ k then (match r.options[k.toNat]? with | some e => if e.day < day then some e else none | none => none) else none
def pkd (day : Int) (l : List Rep) (ch : List Int) (i : Nat) : Option Pkd := match (at2 (optAt day) l ch i).join with
  | some e => if h : 0 ≤ e.day ∧ e.day ≤ 40000 then some ⟨e, i, h.1, h.2⟩ else none
  | none => none
def pickF (day : Int) (l : List Rep) (ch : List Int) (n : Nat) : List Pkd := (List.range n).filterMap (pkd day l ch)
theorem pick_succ (day : Int) (l : List Rep) (ch : List Int) (i : Nat) : pickF day l ch (i + 1) = pickF day l ch i ++ (pkd day l ch i).toList := by
  rw [pickF, List.range_succ, List.filterMap_append, pickF]
  congr 1
/-- the course of what is picked -/
def followGo (c : List Kind) : List Part → List Pkd → Int × Int
  | _, [] => (-1, 0)
  | st, p :: r => if (applyF c st p.e).2 = 0 then followGo c (applyF c st p.e).1 r else (p.rep, (applyF c st p.e).2)
def followF (c : List Kind) (l : List Rep) (ch : List Int) (day : Int) : Int × Int := followGo c [] (sortF (pickF day l ch l.length))
def failsF (c : List Kind) (l : List Rep) (ch : List Int) : Int × Int := if givenF c l ch 0 = false then (-1, 1) else followF c l ch 40001
def isF (c : List Kind) (l : List Rep) (ch : List Int) : Bool := decide ((failsF c l ch).2 = 0)
/-- the days of what is open -/
def openDays (l : List Rep) (ch : List Int) (n : Nat) : List Int := (List.range n).flatMap fun i => (at2 (fun r k => if k < 0 then r.options.map Evt.day else []) l ch i).getD []
def leastF (l : List Int) : Int := l.foldl (fun a d => if d < a then d else a) 40001
def falseF (c : List Kind) (l : List Rep) (ch : List Int) : Bool := if givenF c l ch (-1) = false then false else !decide ((followF c l ch (leastF (openDays l ch l.length))).2 = 0)
end Go.Sx

/- How reports and bytes that come in are read. -/
set_option linter.all false
namespace Go.Sx
open Go
def OkRp (r : Rep) : Prop := ∀ e ∈ r.options, OkE e
section
variable {P : Program} {t : TypeId}
theorem opens_rep {tb tk : TypeId} (hf : fieldsK P t = some [(tk, 0, 1), (tb, 1, 1)]) (hc : P.cellsOf t = 2) (hk : Opens P tk (List Evt) (fun l => ∀ x ∈ l, OkE x)) (hb : Opens P tb Bool (fun _ => True)) : Opens P t Rep OkRp := by
  intro H enc w base spare held fuel cs x h
  obtain ⟨hl, hall⟩ := trod_fields hf h
  rw [hc] at hl
  obtain ⟨a0, r0_, rfl, l0_⟩ := len_cons hl
  obtain ⟨a1, r1_, rfl, l1_⟩ := len_cons l0_
  obtain rfl := len_nil l1_
  obtain ⟨n0, y0, h0⟩ := hall (tk, 0, 1) (by simp)
  obtain ⟨x0, e0, g0⟩ := hk enc w base spare held n0 _ y0 h0
  obtain ⟨v0, e0, r0⟩ := e0
  have e0 : [a0] = [v0] := e0
  cases e0
  obtain ⟨n1, y1, h1⟩ := hall (tb, 1, 1) (by simp)
  obtain ⟨x1, e1, g1⟩ := hb enc w base spare held n1 _ y1 h1
  have e1 : [a1] = [.bool x1] := e1
  cases e1
  exact ⟨⟨x0, x1⟩, ⟨_, rfl, r0⟩, g0⟩
theorem u8_nat {n : Int} (h : (Lit.int .u8 n).wf = true) : ∃ a : Nat, n = (a : Int) ∧ a < 256 := by
  have h2 : 0 ≤ n ∧ n ≤ 255 := by
    simp only [Lit.wf, Bool.and_eq_true, decide_eq_true_eq] at h
    simpa [IntKind.min, IntKind.max, IntKind.signed, IntKind.bits] using h
  exact ⟨n.toNat, by omega, by omega⟩
end
end Go.Sx

/- Runs of steps of a walk that need no word of their own. -/
set_option linter.all false
namespace Go.Sx
open Go
/-- so many steps lie ahead -/
structure HN (n : Nat) (g : Prop) : Prop where
  out : g
theorem HN.z {s : Prop} (h : HN 0 s) : s := h.out
theorem HN.p {s : Prop} {n : Nat} (h : HN (n + 1) s) : HN n s := ⟨h.out⟩
/-- a fact of the program, found by its left side -/
class Has {α : Type} (a : Option α) (b : outParam α) : Prop where
  eq : a = some b
theorem he {α : Type} {a : Option α} {b : α} [h : Has a b] : a = some b := h.eq
theorem sb {L L' : LL} (h : Sub L' L := by repeat (first | exact trivial | refine ⟨rfl, ?_⟩)) : Sub L' L := h
section
variable {P : Program} {ρ : Option Nat} {n : Sz} {E : Ent} {I I' : IMap} {L L' : LL} {H H' : List Res} {K K' : Act → World → Prop} {Q : Exit → Act → World → Prop} {ops : Array Oper}
theorem cb {c : Operand} {x y : Code} {b : Bool} {p q : Prop} (hc : ev L c = some (.bool b)) (ht : b = true → p → SX n E I L H (x.wq ρ P Q)) (hf : b = false → q → SX n E I L H (y.wq ρ P Q))
    (e1 : b = true → p := by first | (intro h; simp only [bO] at h; exact h) | exact fun h => h) (e2 : b = false → q := by first | (intro h; simp only [bO] at h; exact h) | exact fun h => h) :
    SX n E I L H ((Code.cond c x y).wq ρ P Q) := c_cond hc (fun h => ht h (e1 h)) (fun h => hf h (e2 h))
theorem sxb {v : Bool} {p q : Prop} (t : Nat) (h : look L t = some (.bool v)) (h1 : v = true → p → SX n E I L H K) (h2 : v = false → q → SX n E I L H K)
    (e1 : v = true → p := by first | (intro h; simp only [bO] at h; exact h) | exact fun h => h) (e2 : v = false → q := by first | (intro h; simp only [bO] at h; exact h) | exact fun h => h) : SX n E I L H K := sx_split t h (fun h => h1 h (e1 h)) (fun h => h2 h (e2 h))
variable {d ty : Nat} {pos : String} {af : Array Edge} {x y z : Operand} {tt tx tyy q : Nat} {v : Value}
theorem pr_move (h : OV P n E I L H ⟨some d, .move x, ty, pos, af, none⟩ v) : OV P n E I L H ⟨some d, .move x, ty, pos, af, none⟩ v := h
theorem pr_assign (h : OV P n E I L H ⟨some d, .assign x, ty, pos, af, none⟩ v) : OV P n E I L H ⟨some d, .assign x, ty, pos, af, none⟩ v := h
theorem pr_fieldAddr (h : OV P n E I L H ⟨some d, .fieldAddr tt x q, ty, pos, af, none⟩ v) : OV P n E I L H ⟨some d, .fieldAddr tt x q, ty, pos, af, none⟩ v := h
theorem pr_load (h : OV P n E I L H ⟨some d, .load tt x, ty, pos, af, none⟩ v) : OV P n E I L H ⟨some d, .load tt x, ty, pos, af, none⟩ v := h
theorem pr_field (h : OV P n E I L H ⟨some d, .field tt x q, ty, pos, af, none⟩ v) : OV P n E I L H ⟨some d, .field tt x q, ty, pos, af, none⟩ v := h
theorem pr_extract (h : OV P n E I L H ⟨some d, .extract x q, ty, pos, af, none⟩ v) : OV P n E I L H ⟨some d, .extract x q, ty, pos, af, none⟩ v := h
theorem pr_not (h : OV P n E I L H ⟨some d, .unOp .not tt x, ty, pos, af, none⟩ v) : OV P n E I L H ⟨some d, .unOp .not tt x, ty, pos, af, none⟩ v := h
theorem pr_nil (h : OV P n E I L H ⟨some d, .nilCheck x, ty, pos, af, none⟩ v) : OV P n E I L H ⟨some d, .nilCheck x, ty, pos, af, none⟩ v := h
theorem pr_pick (h : OV P n E I L H ⟨some d, .pick x y z, ty, pos, af, none⟩ v) : OV P n E I L H ⟨some d, .pick x y z, ty, pos, af, none⟩ v := h
theorem pr_lss (h : OV P n E I L H ⟨some d, .binOp .lss tx x y tyy, ty, pos, af, none⟩ v) : OV P n E I L H ⟨some d, .binOp .lss tx x y tyy, ty, pos, af, none⟩ v := h
theorem pr_leq (h : OV P n E I L H ⟨some d, .binOp .leq tx x y tyy, ty, pos, af, none⟩ v) : OV P n E I L H ⟨some d, .binOp .leq tx x y tyy, ty, pos, af, none⟩ v := h
theorem pr_gtr (h : OV P n E I L H ⟨some d, .binOp .gtr tx x y tyy, ty, pos, af, none⟩ v) : OV P n E I L H ⟨some d, .binOp .gtr tx x y tyy, ty, pos, af, none⟩ v := h
theorem pr_geq (h : OV P n E I L H ⟨some d, .binOp .geq tx x y tyy, ty, pos, af, none⟩ v) : OV P n E I L H ⟨some d, .binOp .geq tx x y tyy, ty, pos, af, none⟩ v := h
theorem pr_eql (h : OV P n E I L H ⟨some d, .binOp .eql tx x y tyy, ty, pos, af, none⟩ v) : OV P n E I L H ⟨some d, .binOp .eql tx x y tyy, ty, pos, af, none⟩ v := h
theorem pr_neq (h : OV P n E I L H ⟨some d, .binOp .neq tx x y tyy, ty, pos, af, none⟩ v) : OV P n E I L H ⟨some d, .binOp .neq tx x y tyy, ty, pos, af, none⟩ v := h
theorem pr_add (h : OV P n E I L H ⟨some d, .binOp .add tx x y tyy, ty, pos, af, none⟩ v) : OV P n E I L H ⟨some d, .binOp .add tx x y tyy, ty, pos, af, none⟩ v := h
theorem pr_sub (h : OV P n E I L H ⟨some d, .binOp .sub tx x y tyy, ty, pos, af, none⟩ v) : OV P n E I L H ⟨some d, .binOp .sub tx x y tyy, ty, pos, af, none⟩ v := h
theorem pr_len (h : OV P n E I L H ⟨some d, .call { callee := .builtin .len, args := #[x], argTypes := #[tx] }, ty, pos, af, none⟩ v) : OV P n E I L H ⟨some d, .call { callee := .builtin .len, args := #[x], argTypes := #[tx] }, ty, pos, af, none⟩ v := h
/-- the rule of an operation that only computes -/
theorem va {o : Oper} (h : OV P n E I L H o v := by
    first
      | ((with_unfolding_none refine' pr_move ?_); rotate_left; exact v_move rfl)
      | ((with_unfolding_none refine' pr_assign ?_); rotate_left; exact v_assign rfl)
      | ((with_unfolding_none refine' pr_fieldAddr ?_); rotate_left; exact v_fieldAddr he rfl)
      | ((with_unfolding_none refine' pr_load ?_); rotate_left; (first | exact v_ld m0 he rfl rfl | exact v_ld m1 he rfl rfl | exact v_ld m2 he rfl rfl | exact v_ld m3 he rfl rfl | exact v_ld m4 he rfl rfl | exact v_ld m5 he rfl rfl | exact v_ld m6 he rfl rfl | exact v_ldw m0 he rfl rfl | exact v_ldw m1 he rfl rfl | exact v_ldw m2 he rfl rfl | exact v_ldw m3 he rfl rfl | exact v_ldw m4 he rfl rfl | exact v_ldw m5 he rfl rfl | exact v_ldw m6 he rfl rfl))
      | ((with_unfolding_none refine' pr_pick ?_); rotate_left; (first | exact v_and_f rfl rfl | exact v_or_t rfl rfl | exact v_and_t rfl rfl rfl | exact v_or_f rfl rfl rfl | exact v_and_f (by assumption) rfl | exact v_or_t (by assumption) rfl | exact v_and_t (by assumption) rfl rfl | exact v_or_f (by assumption) rfl rfl))
      | ((with_unfolding_none refine' pr_lss ?_); rotate_left; (first | exact v_lss rfl rfl | exact v_slss rfl rfl))
      | ((with_unfolding_none refine' pr_len ?_); rotate_left; (first | exact v_len_slice he rfl | exact v_len_str he rfl))
      | ((with_unfolding_none refine' pr_extract ?_); rotate_left; exact v_extract rfl rfl)
      | ((with_unfolding_none refine' pr_not ?_); rotate_left; exact v_not rfl)
      | ((with_unfolding_none refine' pr_eql ?_); rotate_left; (first | exact v_eql rfl rfl | exact v_seql rfl rfl))
      | ((with_unfolding_none refine' pr_neq ?_); rotate_left; (first | exact v_neq rfl rfl | exact v_sneq rfl rfl))
      | ((with_unfolding_none refine' pr_leq ?_); rotate_left; (first | exact v_leq rfl rfl | exact v_sleq rfl rfl))
      | ((with_unfolding_none refine' pr_gtr ?_); rotate_left; (first | exact v_gtr rfl rfl | exact v_sgtr rfl rfl))
      | ((with_unfolding_none refine' pr_geq ?_); rotate_left; (first | exact v_geq rfl rfl | exact v_sgeq rfl rfl))
      | ((with_unfolding_none refine' pr_add ?_); rotate_left; exact v_add rfl rfl ⟨by omega, by omega⟩)
      | ((with_unfolding_none refine' pr_sub ?_); rotate_left; exact v_sub rfl rfl ⟨by omega, by omega⟩)
      | ((with_unfolding_none refine' pr_nil ?_); rotate_left; exact v_nilCheck rfl)
      | ((with_unfolding_none refine' pr_field ?_); rotate_left; (first | exact v_field he rfl rfl | exact v_fielda _ he rfl rfl))) : OV P n E I L H o v := h
theorem o_va {rest : List Oper} {op : Op} {v : Value} (hd : Nat.blt d n.sz = true) (h : OV P n E I L H ⟨some d, op, ty, pos, af, none⟩ v) (k : SX n E I ((d, v) :: L) H (wpL P ops Q rest)) : SX n E I L H (wpL P ops Q (⟨some d, op, ty, pos, af, none⟩ :: rest)) := o_v hd h k
theorem o_ya {rest : List Oper} {op : Op} {j : Nat} {b : Bool} {v : Value} {t : Nat} {c : Bool} (ht : (ops[j]?).bind (·.dst) = some t) (hb : look L t = some (.bool c)) (hv : c = b) (hd : Nat.blt d n.sz = true) (h : OV P n E I L H ⟨some d, op, ty, pos, af, none⟩ v) (k : SX n E I ((d, v) :: L) H (wpL P ops Q rest)) : SX n E I L H (wpL P ops Q (⟨some d, op, ty, pos, af, some (j, b)⟩ :: rest)) := o_cons (o_yes ht hb hv (o_val hd h k))
theorem o_na {rest : List Oper} {op : Op} {j : Nat} {b : Bool} {t : Nat} {c : Bool} (ht : (ops[j]?).bind (·.dst) = some t) (hb : look L t = some (.bool c)) (hv : c = !b) (hd : Nat.blt d n.sz = true) (k : SX n E I ((d, undef) :: L) H (wpL P ops Q rest)) : SX n E I L H (wpL P ops Q (⟨some d, op, ty, pos, af, some (j, b)⟩ :: rest)) := o_cons (o_no ht hb hv hd k)
theorem o_na' {rest : List Oper} {op : Op} {j : Nat} {b : Bool} {t : Nat} {c : Bool} (ht : (ops[j]?).bind (·.dst) = some t) (hb : look L t = some (.bool c)) (hv : c = !b) (k : SX n E I L H (wpL P ops Q rest)) : SX n E I L H (wpL P ops Q (⟨none, op, ty, pos, af, some (j, b)⟩ :: rest)) := o_cons (o_no' ht hb hv k)
theorem o_ua {rest : List Oper} {op : Op} {j : Nat} {b : Bool} {t : Nat} (ht : (ops[j]?).bind (·.dst) = some t) (hb : look L t = some undef) (hd : Nat.blt d n.sz = true) (k : SX n E I ((d, undef) :: L) H (wpL P ops Q rest)) : SX n E I L H (wpL P ops Q (⟨some d, op, ty, pos, af, some (j, b)⟩ :: rest)) := o_cons (o_nou ht hb hd k)
/-- so many steps -/
theorem go {g s : Prop} (n : Nat) (hs : s) (h : HN n s → g := by
    intro h
    repeat (first
      | exact HN.z h
      | replace h := HN.p h; first
        | ((with_unfolding_none refine' o_va ?_ ?_ ?_); rotate_left; exact rfl; exact va)
        | with_unfolding_none refine q_then ?_
        | with_unfolding_none refine o_nil ?_
        | with_unfolding_none refine c_seq ?_
        | with_unfolding_none refine c_region ?_
        | with_unfolding_none refine c_skip ?_
        | with_unfolding_none refine q_then_ret ?_
        | with_unfolding_none refine c_ret ?_
        | with_unfolding_none refine c_block ?_
        | with_unfolding_none refine q_block ?_
        | with_unfolding_none refine q_then_exit ?_
        | with_unfolding_none refine q_block_ret ?_
        | with_unfolding_none refine c_exit ?_
        | with_unfolding_none refine q_block_eq ?_
        | ((with_unfolding_none refine' o_na ?_ ?_ ?_ ?_ ?_); rotate_left 2; exact rfl; exact rfl; (first | exact rfl | assumption); exact rfl)
        | ((with_unfolding_none refine' o_ua ?_ ?_ ?_ ?_); rotate_left; exact rfl; exact rfl; exact rfl)
        | ((with_unfolding_none refine' o_na' ?_ ?_ ?_ ?_); rotate_left 2; exact rfl; exact rfl; (first | exact rfl | assumption))
        | ((with_unfolding_none refine' o_ya ?_ ?_ ?_ ?_ ?_ ?_); rotate_left 3; exact rfl; exact rfl; (first | exact rfl | assumption); exact rfl; exact va)
        | ((with_unfolding_none refine q_block_ne ?_ ?_); exact rfl)
        | with_unfolding_none refine o_cons ?_)) : g := h ⟨hs⟩
end
end Go.Sx

/- Walks, printed by a program out of the code of the functions: each theorem is a contract of one function. -/
namespace Go.Proofs.YtdapmfkbpnjkmaaGreat
open Go Go.Sx
set_option linter.all false
set_option maxRecDepth 20000
set_option maxHeartbeats 4000000
instance T.arr_265 : Has (arrK Tryz.prog 265) (256, 5, 1) := ⟨by kernel_rfl⟩
instance T.elt_33 : Has (eltK Tryz.prog 33) (9, 1) := ⟨by kernel_rfl⟩
instance T.ty_265 : Has (tyK Tryz.prog 265) (true, 256) := ⟨by kernel_rfl⟩
instance T.ty_5 : Has (tyK Tryz.prog 5) (false, 1) := ⟨by kernel_rfl⟩
instance T.ty_9 : Has (tyK Tryz.prog 9) (false, 1) := ⟨by kernel_rfl⟩
instance T.und_3 : Has (Tryz.prog.underlying 3) (.int .i64) := ⟨by kernel_rfl⟩
instance T.und_33 : Has (Tryz.prog.underlying 33) (.slice 9) := ⟨by kernel_rfl⟩
instance T.und_5 : Has (Tryz.prog.underlying 5) (.int .u8) := ⟨by kernel_rfl⟩
instance T.und_9 : Has (Tryz.prog.underlying 9) (.string) := ⟨by kernel_rfl⟩
instance T.zero_265 : Has (zeroK Tryz.prog 265) [.int .u8 0, .int .u8 0, .int .u8 0, .int .u8 0, .int .u8 0, .int .u8 0, .int .u8 0, .int .u8 0, .int .u8 0, .int .u8 0, .int .u8 0, .int .u8 0, .int .u8 0, .int .u8 0, .int .u8 0, .int .u8 0, .int .u8 0, .int .u8 0, .int .u8 0, .int .u8 0, .int .u8 0, .int .u8 0, .int .u8 0, .int .u8 0, .int .u8 0, .int .u8 0, .int .u8 0, .int .u8 0, .int .u8 0, .int .u8 0, .int .u8 0, .int .u8 0, .int .u8 0, .int .u8 0, .int .u8 0, .int .u8 0, .int .u8 0, .int .u8 0, .int .u8 0, .int .u8 0, .int .u8 0, .int .u8 0, .int .u8 0, .int .u8 0, .int .u8 0, .int .u8 0, .int .u8 0, .int .u8 0, .int .u8 0, .int .u8 0, .int .u8 0, .int .u8 0, .int .u8 0, .int .u8 0, .int .u8 0, .int .u8 0, .int .u8 0, .int .u8 0, .int .u8 0, .int .u8 0, .int .u8 0, .int .u8 0, .int .u8 0, .int .u8 0, .int .u8 0, .int .u8 0, .int .u8 0, .int .u8 0, .int .u8 0, .int .u8 0, .int .u8 0, .int .u8 0, .int .u8 0, .int .u8 0, .int .u8 0, .int .u8 0, .int .u8 0, .int .u8 0, .int .u8 0, .int .u8 0, .int .u8 0, .int .u8 0, .int .u8 0, .int .u8 0, .int .u8 0, .int .u8 0, .int .u8 0, .int .u8 0, .int .u8 0, .int .u8 0, .int .u8 0, .int .u8 0, .int .u8 0, .int .u8 0, .int .u8 0, .int .u8 0, .int .u8 0, .int .u8 0, .int .u8 0, .int .u8 0, .int .u8 0, .int .u8 0, .int .u8 0, .int .u8 0, .int .u8 0, .int .u8 0, .int .u8 0, .int .u8 0, .int .u8 0, .int .u8 0, .int .u8 0, .int .u8 0, .int .u8 0, .int .u8 0, .int .u8 0, .int .u8 0, .int .u8 0, .int .u8 0, .int .u8 0, .int .u8 0, .int .u8 0, .int .u8 0, .int .u8 0, .int .u8 0, .int .u8 0, .int .u8 0, .int .u8 0, .int .u8 0, .int .u8 0, .int .u8 0, .int .u8 0, .int .u8 0, .int .u8 0, .int .u8 0, .int .u8 0, .int .u8 0, .int .u8 0, .int .u8 0, .int .u8 0, .int .u8 0, .int .u8 0, .int .u8 0, .int .u8 0, .int .u8 0, .int .u8 0, .int .u8 0, .int .u8 0, .int .u8 0, .int .u8 0, .int .u8 0, .int .u8 0, .int .u8 0, .int .u8 0, .int .u8 0, .int .u8 0, .int .u8 0, .int .u8 0, .int .u8 0, .int .u8 0, .int .u8 0, .int .u8 0, .int .u8 0, .int .u8 0, .int .u8 0, .int .u8 0, .int .u8 0, .int .u8 0, .int .u8 0, .int .u8 0, .int .u8 0, .int .u8 0, .int .u8 0, .int .u8 0, .int .u8 0, .int .u8 0, .int .u8 0, .int .u8 0, .int .u8 0, .int .u8 0, .int .u8 0, .int .u8 0, .int .u8 0, .int .u8 0, .int .u8 0, .int .u8 0, .int .u8 0, .int .u8 0, .int .u8 0, .int .u8 0, .int .u8 0, .int .u8 0, .int .u8 0, .int .u8 0, .int .u8 0, .int .u8 0, .int .u8 0, .int .u8 0, .int .u8 0, .int .u8 0, .int .u8 0, .int .u8 0, .int .u8 0, .int .u8 0, .int .u8 0, .int .u8 0, .int .u8 0, .int .u8 0, .int .u8 0, .int .u8 0, .int .u8 0, .int .u8 0, .int .u8 0, .int .u8 0, .int .u8 0, .int .u8 0, .int .u8 0, .int .u8 0, .int .u8 0, .int .u8 0, .int .u8 0, .int .u8 0, .int .u8 0, .int .u8 0, .int .u8 0, .int .u8 0, .int .u8 0, .int .u8 0, .int .u8 0, .int .u8 0, .int .u8 0, .int .u8 0, .int .u8 0, .int .u8 0, .int .u8 0, .int .u8 0, .int .u8 0, .int .u8 0, .int .u8 0, .int .u8 0, .int .u8 0, .int .u8 0, .int .u8 0, .int .u8 0, .int .u8 0, .int .u8 0, .int .u8 0, .int .u8 0, .int .u8 0, .int .u8 0, .int .u8 0, .int .u8 0, .int .u8 0, .int .u8 0, .int .u8 0, .int .u8 0, .int .u8 0] := ⟨by kernel_rfl⟩
theorem letter05 (I : IMap) (c : UInt8) :
    FnV Tryz.prog 230 #[.int .u8 (c.toNat : Int)] I (.bool (isLetter c)) := by
 refine enter Tryz.func230 Tryz.call230 rfl Tryz.ntmps230 rfl (fun w0 => ?_)
 refine go 10 ?_
 refine sxb 5 rfl (fun h5 p5 => ?_) (fun h5 p5 => ?_)
 ·refine go 4 ?_
  refine sxb 9 rfl (fun h9 p9 => ?_) (fun h9 p9 => ?_)
  ·refine go 11 ?_
   refine fin1 rfl rfl ?_
   exact q_v (by simp [isLetter, h5, h9])
  ·refine go 3 ?_
   refine sxb 12 rfl (fun h12 p12 => ?_) (fun h12 p12 => ?_)
   ·refine go 8 ?_
    refine fin1 rfl rfl ?_
    exact q_v (by simp [isLetter, h5, h9, h12])
   ·refine go 8 ?_
    refine fin1 rfl rfl ?_
    exact q_v (by simp [isLetter, h5, h9, h12])
 ·refine go 7 ?_
  refine sxb 12 rfl (fun h12 p12 => ?_) (fun h12 p12 => ?_)
  ·refine go 8 ?_
   refine fin1 rfl rfl ?_
   exact q_v (by simp [isLetter, h5, h12])
  ·refine go 8 ?_
   refine fin1 rfl rfl ?_
   exact q_v (by simp [isLetter, h5, h12])

theorem digit05 (I : IMap) (c : UInt8) :
    FnV Tryz.prog 283 #[.int .u8 (c.toNat : Int)] I (.bool (isDigit c)) := by
 refine enter Tryz.func283 Tryz.call283 rfl Tryz.ntmps283 rfl (fun w0 => ?_)
 refine go 10 ?_
 refine sxb 5 rfl (fun h5 p5 => ?_) (fun h5 p5 => ?_)
 ·refine go 7 ?_
  refine fin1 rfl rfl ?_
  exact q_v (by simp [isDigit, h5])
 ·refine go 7 ?_
  refine fin1 rfl rfl ?_
  exact q_v (by simp [isDigit, h5])

theorem word05 (I : IMap) (c : UInt8) :
    FnV Tryz.prog 229 #[.int .u8 (c.toNat : Int)] I (.bool (isWord c)) := by
 refine enter Tryz.func229 Tryz.call229 rfl Tryz.ntmps229 rfl (fun w0 => ?_)
 refine go 9 ?_
 refine o_callV (letter05 _ c) rfl rfl ?_
 refine go 1 ?_
 refine sxb 5 rfl (fun h5 p5 => ?_) (fun h5 p5 => ?_)
 ·refine go 11 ?_
  refine fin1 rfl rfl ?_
  exact q_v (by simp [isWord, h5])
 ·refine go 2 ?_
  refine o_yes rfl rfl h5 (o_callV (digit05 _ c) rfl rfl ?_)
  refine go 2 ?_
  refine sxb 9 rfl (fun h9 p9 => ?_) (fun h9 p9 => ?_)
  ·refine go 7 ?_
   refine fin1 rfl rfl ?_
   exact q_v (by simp [isWord, h5, h9])
  ·refine go 7 ?_
   refine fin1 rfl rfl ?_
   exact q_v (by simp [isWord, h5, h9])

theorem name05 (I : IMap) (s : ByteArray) (hs : s.size ≤ 9223372036854775807) :
    FnV Tryz.prog 167 #[.string s] I (.bool (nameRef s)) := by
 refine enter Tryz.func167 Tryz.call167 rfl Tryz.ntmps167 rfl (fun w0 => ?_)
 refine go 12 ?_
 refine c_loop (α := Nat) 0 (fun i => I)
  (fun i => [(0, .string s), (3, .int .i64 (i : Int))])
  (fun i => [])
  (fun i => i ≤ s.size ∧ wordsTo s i = true)
  (fun i => s.size - i) ⟨Nat.zero_le _, rfl⟩ rfl sb rfl ?_
 intro i ⟨hi, hn⟩
 refine go 9 ?_
 refine cb rfl (fun h7 p7 => ?_) (fun h7 p7 => ?_)
 ·refine go 8 ?_
  refine o_v rfl (v_sidx he rfl rfl i (by omega) (by omega)) ?_
  refine go 1 ?_
  refine o_callV (word05 _ _) rfl rfl ?_
  refine go 3 ?_
  refine cb rfl (fun h14 p14 => ?_) (fun h14 p14 => ?_)
  ·refine go 11 ?_
   refine fin1 rfl rfl ?_
   exact q_v (by simp [nameRef, words_not (show i < s.size by omega) p14])
  ·refine go 9 ?_
   exact q_next (i + 1) ⟨by omega, words_succ hn p14⟩ (by omega) rfl sb rfl
 ·refine go 11 ?_
  refine sxb 18 rfl (fun h18 p18 => ?_) (fun h18 p18 => ?_)
  ·refine go 5 ?_
   refine sxb 23 rfl (fun h23 p23 => ?_) (fun h23 p23 => ?_)
   ·refine go 1 ?_
    refine o_cons (o_yes rfl rfl h23 (o_val rfl (v_sidx he rfl rfl 0 (by omega) (by omega)) ?_))
    refine go 1 ?_
    refine o_yes rfl rfl h23 (o_callV (letter05 _ _) rfl rfl ?_)
    refine go 5 ?_
    refine fin1 rfl rfl ?_
    exact q_v (by have e : i = s.size := (by omega); subst e; simp only [nameRef, hn, h7, h18, h23, bS])
   ·refine go 8 ?_
    refine fin1 rfl rfl ?_
    exact q_v (by have e : i = s.size := (by omega); subst e; simp only [nameRef, hn, h7, h18, h23, bS])
  ·refine go 13 ?_
   refine fin1 rfl rfl ?_
   exact q_v (by have e : i = s.size := (by omega); subst e; simp only [nameRef, hn, h7, h18, bS])

theorem ext_IndexByteString (args : Array Value) (w : World) : (callFunc 334 args).run Tryz.prog w = ((Extern.BytealgIndexByte.indexByte args).run Tryz.prog w).andThen fun v w' => .ok (.value v) w' := by
  have h1 : Extern.findNext Tryz.f334 = none := by kernel_rfl
  have h2 : Extern.find Tryz.f334 = some Extern.BytealgIndexByte.indexByte := by kernel_rfl
  have h3 : (Tryz.f334.name == "runtime.NumGoroutine") = false := by kernel_rfl
  have h4 : Tryz.f334.body.isNone = true := rfl
  simp only [callFunc, Sem.run_bind, run_program, Result.andThen_ok, Tryz.func334, h3, h4, h1, h2]
  simp
theorem indexByteString (I : IMap) (s : ByteArray) (c : UInt8) : FnV Tryz.prog 334 #[.string s, .int .u8 (c.toNat : Int)] I (.int .i64 (Lib.indexByte s.data.toList c)) := by
  refine ⟨fun w m => ?_⟩
  unfold After
  rw [ext_IndexByteString, Lib.run_indexByteString]
  exact ⟨_, I, [], rfl, m, by simp, rfl, rfl⟩

theorem indexByteLite (I : IMap) (s : ByteArray) (c : UInt8) :
    FnV Tryz.prog 305 #[.string s, .int .u8 (c.toNat : Int)] I (.int .i64 (Lib.indexByte s.data.toList c)) := by
 refine enter Tryz.func305 Tryz.call305 rfl Tryz.ntmps305 rfl (fun w0 => ?_)
 refine go 10 ?_
 refine o_callV (indexByteString I s c) rfl rfl ?_
 refine go 4 ?_
 refine fin1 rfl rfl ?_
 exact q_v rfl

theorem indexByte (I : IMap) (s : ByteArray) (c : UInt8) :
    FnV Tryz.prog 248 #[.string s, .int .u8 (c.toNat : Int)] I (.int .i64 (Lib.indexByte s.data.toList c)) := by
 refine enter Tryz.func248 Tryz.call248 rfl Tryz.ntmps248 rfl (fun w0 => ?_)
 refine go 10 ?_
 refine o_callV (indexByteLite I s c) rfl rfl ?_
 refine go 4 ?_
 refine fin1 rfl rfl ?_
 exact q_v rfl

theorem classes (I : IMap) :
    FnV Tryz.prog 199 #[] I (.agg clsTab.toArray) := by
 refine enter Tryz.func199 Tryz.call199 rfl Tryz.ntmps199 rfl (fun w0 => ?_)
 refine go 3 ?_
 refine o_alloc he rfl (fun g0 => ?_)
 refine go 5 ?_
 refine o_alloc he rfl (fun g1 => ?_)
 refine go 9 ?_
 refine c_loop (α := Nat) 0 (fun i => I)
  (fun i => [(1, .pointer (some ⟨g1, 0, none⟩)), (0, .pointer (some ⟨g0, 0, none⟩)), (4, .int .i64 (i : Int))])
  (fun i => [.blk g1 265 (clsRow i), .blk g0 265 (clsRow 0)])
  (fun i => i ≤ 256)
  (fun i => 256 - i) (by omega) rfl sb rfl ?_
 intro i hi
 refine go 6 ?_
 refine cb rfl (fun h5 p5 => ?_) (fun h5 p5 => ?_)
 ·have hlt : i < 256 := by omega
  have hb : ((i.toUInt8.toNat : Nat) : Int) = (i : Int) := by simp; omega
  refine go 3 ?_
  refine c_cut (I' := I) (L' := [(1, .pointer (some ⟨g1, 0, none⟩)), (0, .pointer (some ⟨g0, 0, none⟩)), (4, .int .i64 (i : Int))]) (H' := [.blk g1 265 (clsRow (i + 1)), .blk g0 265 (clsRow 0)]) ?_ ?_
  ·refine go 10 ?_
   refine o_v rfl (v_conv he he rfl (m := ((i.toUInt8.toNat : Nat) : Int)) (by rw [hb]; exact wrap_u8 i hlt)) ?_
   refine go 5 ?_
   refine c_cutL (L' := [(1, .pointer (some ⟨g1, 0, none⟩)), (0, .pointer (some ⟨g0, 0, none⟩)), (4, .int .i64 (i : Int)), (2, .int .i64 (i : Int)), (3, .int .u8 (i.toUInt8.toNat : Int)), (9, .bool (clsLow i.toUInt8 || clsUp i.toUInt8))]) ?_ ?_
   ·refine go 1 ?_
    refine c_cutL (L' := [(1, .pointer (some ⟨g1, 0, none⟩)), (0, .pointer (some ⟨g0, 0, none⟩)), (4, .int .i64 (i : Int)), (2, .int .i64 (i : Int)), (3, .int .u8 (i.toUInt8.toNat : Int)), (9, .bool (clsLow i.toUInt8))]) ?_ ?_
    ·refine go 4 ?_
     refine sxb 12 rfl (fun h12 p12 => ?_) (fun h12 p12 => ?_)
     ·refine go 6 ?_
      exact q_cut ⟨rfl, rfl, rfl, rfl, rfl, (congrArg (fun b => some (Value.bool b)) (by simp only [clsLow, h5, h12, bS])), trivial⟩ rfl rfl
     ·refine go 6 ?_
      exact q_cut ⟨rfl, rfl, rfl, rfl, rfl, (congrArg (fun b => some (Value.bool b)) (by simp only [clsLow, h5, h12, bS])), trivial⟩ rfl rfl
    ·refine cb rfl (fun h9 p9 => ?_) (fun h9 p9 => ?_)
     ·refine go 2 ?_
      exact q_cut ⟨rfl, rfl, rfl, rfl, rfl, (congrArg (fun b => some (Value.bool b)) (by simp only [clsUp, h9, bS])), trivial⟩ rfl rfl
     ·refine go 4 ?_
      refine sxb 18 rfl (fun h18 p18 => ?_) (fun h18 p18 => ?_)
      ·refine go 6 ?_
       exact q_cut ⟨rfl, rfl, rfl, rfl, rfl, (congrArg (fun b => some (Value.bool b)) (by simp only [clsUp, h9, h18, bS])), trivial⟩ rfl rfl
      ·refine go 6 ?_
       exact q_cut ⟨rfl, rfl, rfl, rfl, rfl, (congrArg (fun b => some (Value.bool b)) (by simp only [clsUp, h9, h18, bS])), trivial⟩ rfl rfl
   ·refine cb rfl (fun h9 p9 => ?_) (fun h9 p9 => ?_)
    ·refine go 2 ?_
     refine o_v rfl (v_aidx he rfl rfl i (by omega) (by omega)) ?_
     refine go 1 ?_
     refine o_st1 he rfl rfl rfl (by rw [clsRow_len, Nat.blt_eq]; omega) ?_
     refine go 4 ?_
     exact q_cut sb (congrArg (fun r => [Res.blk g1 _ r, _]) (clsRow_st i hlt _ (clsOf_3 h9))) rfl
    ·refine go 1 ?_
     refine c_cutL (L' := [(1, .pointer (some ⟨g1, 0, none⟩)), (0, .pointer (some ⟨g0, 0, none⟩)), (4, .int .i64 (i : Int)), (2, .int .i64 (i : Int)), (3, .int .u8 (i.toUInt8.toNat : Int)), (24, .bool (isDigit i.toUInt8))]) ?_ ?_
     ·refine go 4 ?_
      refine sxb 27 rfl (fun h27 p27 => ?_) (fun h27 p27 => ?_)
      ·refine go 6 ?_
       exact q_cut ⟨rfl, rfl, rfl, rfl, rfl, (congrArg (fun b => some (Value.bool b)) (by simp only [isDigit, h9, h27, bS])), trivial⟩ rfl rfl
      ·refine go 6 ?_
       exact q_cut ⟨rfl, rfl, rfl, rfl, rfl, (congrArg (fun b => some (Value.bool b)) (by simp only [isDigit, h9, h27, bS])), trivial⟩ rfl rfl
     ·refine cb rfl (fun h24 p24 => ?_) (fun h24 p24 => ?_)
      ·refine go 2 ?_
       refine o_v rfl (v_aidx he rfl rfl i (by omega) (by omega)) ?_
       refine go 1 ?_
       refine o_st1 he rfl rfl rfl (by rw [clsRow_len, Nat.blt_eq]; omega) ?_
       refine go 4 ?_
       exact q_cut sb (congrArg (fun r => [Res.blk g1 _ r, _]) (clsRow_st i hlt _ (clsOf_4 h9 h24))) rfl
      ·refine go 4 ?_
       refine o_callV (indexByte I _ i.toUInt8) rfl rfl ?_
       refine go 4 ?_
       refine cb rfl (fun h33 p33 => ?_) (fun h33 p33 => ?_)
       ·refine go 2 ?_
        refine o_v rfl (v_aidx he rfl rfl i (by omega) (by omega)) ?_
        refine go 1 ?_
        refine o_st1 he rfl rfl rfl (by rw [clsRow_len, Nat.blt_eq]; omega) ?_
        refine go 4 ?_
        exact q_cut sb (congrArg (fun r => [Res.blk g1 _ r, _]) (clsRow_st i hlt _ (clsOf_1 h9 h24 h33))) rfl
       ·refine go 4 ?_
        refine o_callV (indexByte I _ i.toUInt8) rfl rfl ?_
        refine go 4 ?_
        refine cb rfl (fun h39 p39 => ?_) (fun h39 p39 => ?_)
        ·refine go 2 ?_
         refine o_v rfl (v_aidx he rfl rfl i (by omega) (by omega)) ?_
         refine go 1 ?_
         refine o_st1 he rfl rfl rfl (by rw [clsRow_len, Nat.blt_eq]; omega) ?_
         refine go 4 ?_
         exact q_cut sb (congrArg (fun r => [Res.blk g1 _ r, _]) (clsRow_st i hlt _ (clsOf_6 h9 h24 h33 h39))) rfl
        ·refine go 4 ?_
         exact q_cut sb (congrArg (fun r => [Res.blk g1 _ r, _]) (clsRow_skip i hlt (clsOf_0 h9 h24 h33 h39)).symm) rfl
  ·refine go 5 ?_
   exact q_next (i + 1) (by omega) (by omega) rfl sb rfl
 ·refine go 7 ?_
  refine o_v rfl (v_aidx he rfl rfl 35 rfl (by omega)) ?_
  refine go 1 ?_
  refine o_st1 he rfl rfl rfl (by simp only [List.length_set, clsRow_len]; rfl) ?_
  refine o_v rfl (v_aidx he rfl rfl 95 rfl (by omega)) ?_
  refine go 1 ?_
  refine o_st1 he rfl rfl rfl (by simp only [List.length_set, clsRow_len]; rfl) ?_
  refine o_v rfl (v_aidx he rfl rfl 34 rfl (by omega)) ?_
  refine go 1 ?_
  refine o_st1 he rfl rfl rfl (by simp only [List.length_set, clsRow_len]; rfl) ?_
  refine go 6 ?_
  refine bring1 ?_
  refine o_stw _ he rfl rfl rfl rfl rfl rfl ?_
  refine go 3 ?_
  refine fin1 rfl ⟨_, _, _, rfl, m0, .inr ⟨_, he, rfl, rfl⟩⟩ ?_
  have e : i = 256 := (by omega)
  subst e
  exact q_v rfl

theorem lexName (I : IMap) (s : ByteArray) (hs : s.size ≤ 9223372036854775807) :
    FnV Tryz.prog 126 #[.string s] I (.bool (nameOk s)) := by
 refine enter Tryz.func126 Tryz.call126 rfl Tryz.ntmps126 rfl (fun w0 => ?_)
 refine go 8 ?_
 refine o_callV (classes _) rfl rfl ?_
 refine go 1 ?_
 refine o_alloc he rfl (fun g3 => ?_)
 refine go 1 ?_
 refine o_stw _ he rfl rfl rfl rfl rfl rfl ?_
 refine go 11 ?_
 refine c_loop (α := Nat) 0 (fun i => I)
  (fun i => [(0, .string s), (3, .pointer (some ⟨g3, 0, none⟩)), (8, .int .i64 (s.size : Int)), (9, .int .i64 (i : Int))])
  (fun i => [.blk g3 265 clsTab])
  (fun i => i ≤ s.size ∧ charsTo s i = true)
  (fun i => s.size - i) ⟨Nat.zero_le _, rfl⟩ rfl sb rfl ?_
 intro i ⟨hi, hn⟩
 refine go 6 ?_
 refine cb rfl (fun h10 p10 => ?_) (fun h10 p10 => ?_)
 ·refine go 14 ?_
  refine o_v rfl (v_sidx he rfl rfl i (by omega) (by omega)) ?_
  refine o_v rfl (v_aidx he rfl rfl (s[i]!).toNat rfl (s[i]!).toNat_lt) ?_
  refine o_v rfl (v_ld m0 he rfl (by rw [show 0 + (s[i]!).toNat * 1 = (s[i]!).toNat from by omega]; exact clsTab_at _)) ?_
  refine go 8 ?_
  refine sxb 19 rfl (fun h19 p19 => ?_) (fun h19 p19 => ?_)
  ·refine go 3 ?_
   refine sxb 22 rfl (fun h22 p22 => ?_) (fun h22 p22 => ?_)
   ·refine go 10 ?_
    refine c_true rfl ?_
    refine go 11 ?_
    refine fin1 rfl rfl ?_
    exact q_v (by simp only [nameOk, chars_not (show i < s.size by omega) (show nameChar s i = false by simp only [nameChar, ← (cls_is _).1, ← (cls_is _).2.1, ← (cls_is _).2.2]; simp_all), bS])
   ·refine go 3 ?_
    refine sxb 25 rfl (fun h25 p25 => ?_) (fun h25 p25 => ?_)
    ·refine go 7 ?_
     refine cb rfl (fun h30 p30 => ?_) (fun h30 p30 => ?_)
     ·refine go 11 ?_
      refine fin1 rfl rfl ?_
      exact q_v (by simp only [nameOk, chars_not (show i < s.size by omega) (show nameChar s i = false by simp only [nameChar, ← (cls_is _).1, ← (cls_is _).2.1, ← (cls_is _).2.2]; simp_all), bS])
     ·refine go 8 ?_
      exact q_next (i + 1) ⟨by omega, chars_succ hn (by simp only [nameChar, ← (cls_is _).1, ← (cls_is _).2.1, ← (cls_is _).2.2]; simp_all)⟩ (by omega) rfl sb rfl
    ·refine go 7 ?_
     refine c_false rfl ?_
     refine go 8 ?_
     exact q_next (i + 1) ⟨by omega, chars_succ hn (by simp only [nameChar, ← (cls_is _).1, ← (cls_is _).2.1, ← (cls_is _).2.2]; simp_all)⟩ (by omega) rfl sb rfl
  ·refine go 13 ?_
   refine c_false rfl ?_
   refine go 8 ?_
   exact q_next (i + 1) ⟨by omega, chars_succ hn (by simp only [nameChar, ← (cls_is _).1, ← (cls_is _).2.1, ← (cls_is _).2.2]; simp_all)⟩ (by omega) rfl sb rfl
 ·refine go 10 ?_
  refine sxb 34 rfl (fun h34 p34 => ?_) (fun h34 p34 => ?_)
  ·refine go 8 ?_
   refine fin1 rfl rfl ?_
   have e : i = s.size := (by omega)
   subst e
   exact q_v (by simp only [nameOk, hn, h10, h34, bS])
  ·refine go 8 ?_
   refine fin1 rfl rfl ?_
   have e : i = s.size := (by omega)
   subst e
   exact q_v (by simp only [nameOk, hn, h10, h34, bS])

end Go.Proofs.YtdapmfkbpnjkmaaGreat

/- Walks, printed by a program out of the code of the functions: each theorem is a contract of one function. -/
namespace Go.Proofs.YtdapmfkbpnjkmaaGreat
open Go Go.Sx
set_option linter.all false
set_option maxRecDepth 20000
set_option maxHeartbeats 4000000
instance T.by_9 : Has (bytesK Tryz.prog 9) ([.string ⟨#[]⟩], 1, 16) := ⟨by kernel_rfl⟩
instance T.elt_166 : Has (eltK Tryz.prog 166) (170, 3) := ⟨by kernel_rfl⟩
instance T.elt_22 : Has (eltK Tryz.prog 22) (168, 3) := ⟨by kernel_rfl⟩
instance T.elt_51 : Has (eltK Tryz.prog 51) (48, 14) := ⟨by kernel_rfl⟩
instance T.elt_62 : Has (eltK Tryz.prog 62) (96, 14) := ⟨by kernel_rfl⟩
instance T.fld_168_0 : Has (fldK Tryz.prog 168 0) (0, false, 1) := ⟨by kernel_rfl⟩
instance T.fld_168_1 : Has (fldK Tryz.prog 168 1) (1, false, 1) := ⟨by kernel_rfl⟩
instance T.fld_168_2 : Has (fldK Tryz.prog 168 2) (2, false, 1) := ⟨by kernel_rfl⟩
instance T.fld_170_0 : Has (fldK Tryz.prog 170 0) (0, false, 1) := ⟨by kernel_rfl⟩
instance T.fld_170_1 : Has (fldK Tryz.prog 170 1) (1, false, 1) := ⟨by kernel_rfl⟩
instance T.fld_170_2 : Has (fldK Tryz.prog 170 2) (2, false, 1) := ⟨by kernel_rfl⟩
instance T.fld_24_0 : Has (fldK Tryz.prog 24 0) (0, false, 1) := ⟨by kernel_rfl⟩
theorem T.mixed : Tryz.prog.follows .mixedOrders = true := by kernel_rfl
instance T.pl_168 : Has (plK Tryz.prog 168) [(0, 1), (1, 1), (2, 1)] := ⟨by kernel_rfl⟩
instance T.pl_170 : Has (plK Tryz.prog 170) [(0, 1), (1, 1), (2, 1)] := ⟨by kernel_rfl⟩
instance T.pl_24 : Has (plK Tryz.prog 24) [(0, 1)] := ⟨by kernel_rfl⟩
instance T.ty_166 : Has (tyK Tryz.prog 166) (false, 1) := ⟨by kernel_rfl⟩
instance T.ty_168 : Has (tyK Tryz.prog 168) (true, 3) := ⟨by kernel_rfl⟩
instance T.ty_170 : Has (tyK Tryz.prog 170) (true, 3) := ⟨by kernel_rfl⟩
instance T.ty_22 : Has (tyK Tryz.prog 22) (false, 1) := ⟨by kernel_rfl⟩
instance T.ty_24 : Has (tyK Tryz.prog 24) (true, 1) := ⟨by kernel_rfl⟩
instance T.ty_283 : Has (tyK Tryz.prog 283) (false, 1) := ⟨by kernel_rfl⟩
instance T.ty_3 : Has (tyK Tryz.prog 3) (false, 1) := ⟨by kernel_rfl⟩
instance T.ty_33 : Has (tyK Tryz.prog 33) (false, 1) := ⟨by kernel_rfl⟩
instance T.ty_331 : Has (tyK Tryz.prog 331) (false, 1) := ⟨by kernel_rfl⟩
instance T.ty_4 : Has (tyK Tryz.prog 4) (false, 1) := ⟨by kernel_rfl⟩
instance T.ty_48 : Has (tyK Tryz.prog 48) (true, 14) := ⟨by kernel_rfl⟩
instance T.ty_96 : Has (tyK Tryz.prog 96) (true, 14) := ⟨by kernel_rfl⟩
instance T.und_166 : Has (Tryz.prog.underlying 166) (.slice 170) := ⟨by kernel_rfl⟩
instance T.und_184 : Has (Tryz.prog.underlying 184) (.map 9 4) := ⟨by kernel_rfl⟩
instance T.und_22 : Has (Tryz.prog.underlying 22) (.slice 168) := ⟨by kernel_rfl⟩
instance T.und_51 : Has (Tryz.prog.underlying 51) (.slice 48) := ⟨by kernel_rfl⟩
instance T.und_62 : Has (Tryz.prog.underlying 62) (.slice 96) := ⟨by kernel_rfl⟩
instance T.zero_168 : Has (zeroK Tryz.prog 168) [.string ⟨#[]⟩, .bool false, .slice none 0 0] := ⟨by kernel_rfl⟩
instance T.zero_170 : Has (zeroK Tryz.prog 170) [.string ⟨#[]⟩, .slice none 0 0, .int .i64 0] := ⟨by kernel_rfl⟩
instance T.zero_24 : Has (zeroK Tryz.prog 24) [.slice none 0 0] := ⟨by kernel_rfl⟩
instance T.zero_9 : Has (zeroK Tryz.prog 9) [.string ⟨#[]⟩] := ⟨by kernel_rfl⟩
instance T.zv_4 : Has (zvK Tryz.prog 4) (.bool false) := ⟨by kernel_rfl⟩
theorem isNaN_int (I : IMap) (x : Int) :
    FnV Tryz.prog 210 #[.int .i64 x] I (.bool false) := by
 refine enter Tryz.func210 Tryz.call210 rfl Tryz.ntmps210 rfl (fun w0 => ?_)
 refine go 14 ?_
 refine fin1 rfl rfl ?_
 exact q_v (by simp)

theorem isNaN_string (I : IMap) (x : ByteArray) :
    FnV Tryz.prog 109 #[.string x] I (.bool false) := by
 refine enter Tryz.func109 Tryz.call109 rfl Tryz.ntmps109 rfl (fun w0 => ?_)
 refine go 14 ?_
 refine fin1 rfl rfl ?_
 exact q_v (by simp)

theorem compare_int (I : IMap) (x y : Int) :
    FnV Tryz.prog 143 #[.int .i64 x, .int .i64 y] I (.int .i64 (cmpI x y)) := by
 refine enter Tryz.func143 Tryz.call143 rfl Tryz.ntmps143 rfl (fun w0 => ?_)
 refine go 9 ?_
 refine o_callV (isNaN_int I x) rfl rfl ?_
 refine go 7 ?_
 refine o_callV (isNaN_int I y) rfl rfl ?_
 refine go 9 ?_
 refine c_false rfl ?_
 refine go 8 ?_
 refine c_false rfl ?_
 refine go 10 ?_
 refine cb rfl (fun h16 p16 => ?_) (fun h16 p16 => ?_)
 ·refine go 7 ?_
  refine fin1 rfl rfl ?_
  exact q_v (by unfold cmpI; simp only [p16, if_true])
 ·refine go 10 ?_
  refine cb rfl (fun h19 p19 => ?_) (fun h19 p19 => ?_)
  ·refine go 7 ?_
   refine fin1 rfl rfl ?_
   exact q_v (by unfold cmpI; simp only [p16, p19, if_true, if_false])
  ·refine go 8 ?_
   refine fin1 rfl rfl ?_
   exact q_v (by unfold cmpI; simp only [p16, p19, if_false])

theorem compare_string (I : IMap) (x y : ByteArray) :
    FnV Tryz.prog 57 #[.string x, .string y] I (.int .i64 (cmpS x y)) := by
 refine enter Tryz.func57 Tryz.call57 rfl Tryz.ntmps57 rfl (fun w0 => ?_)
 refine go 9 ?_
 refine o_callV (isNaN_string I x) rfl rfl ?_
 refine go 7 ?_
 refine o_callV (isNaN_string I y) rfl rfl ?_
 refine go 9 ?_
 refine c_false rfl ?_
 refine go 8 ?_
 refine c_false rfl ?_
 refine go 10 ?_
 refine cb rfl (fun h16 p16 => ?_) (fun h16 p16 => ?_)
 ·refine go 7 ?_
  refine fin1 rfl rfl ?_
  exact q_v (by unfold cmpS; rw [if_pos h16])
 ·refine go 10 ?_
  refine cb rfl (fun h19 p19 => ?_) (fun h19 p19 => ?_)
  ·refine go 7 ?_
   refine fin1 rfl rfl ?_
   exact q_v (by unfold cmpS; rw [if_neg (by rw [h16]; decide), if_pos h19])
  ·refine go 8 ?_
   refine fin1 rfl rfl ?_
   exact q_v (by unfold cmpS; rw [if_neg (by rw [h16]; decide), if_neg (by rw [h19]; decide)])

theorem indexFunc_Kind (I : IMap) (v : Value) (l : List Kind) (hv : RdS I v l) (f : FuncId) (cs : List Value) (p : Kind → Bool) (hp : ∀ x ∈ l, ∀ vs, Enc.rd I vs x → FnV Tryz.prog f ([Value.agg vs.toArray] ++ cs).toArray I (.bool (p x))) :
    FnV Tryz.prog 265 #[v, .func (.func f) #[] cs.toArray] I (.int .i64 (idxF p l)) := by
 obtain ⟨A, c, rfl, hA, hc, hm⟩ := hv
 refine enter Tryz.func265 Tryz.call265 rfl Tryz.ntmps265 rfl (fun w0 => ?_)
 refine go 14 ?_
 refine c_loop (α := Nat) 0 (fun i => I)
  (fun i => [(0, .slice A l.length c), (1, .func (.func f) #[] cs.toArray), (7, .int .i64 (l.length : Int)), (8, .int .i64 (i : Int))])
  (fun i => [])
  (fun i => i ≤ l.length ∧ ∀ j x, j < i → l[j]? = some x → p x = false)
  (fun i => l.length - i) ⟨Nat.zero_le _, fun j x hj => absurd hj (Nat.not_lt_zero j)⟩ rfl sb rfl ?_
 intro i ⟨hi, hn⟩
 refine go 6 ?_
 refine cb rfl (fun h9 p9 => ?_) (fun h9 p9 => ?_)
 ·have hlt : i < l.length := by omega
  refine go 15 ?_
  obtain ⟨b14, o14, w14, e14, c14, r14⟩ := RdA.at_ hA (i := i) hlt
  refine o_v rfl (v_idx he rfl rfl e14 (i) (by omega) hlt) ?_
  refine o_v rfl (v_ldIa he rfl c14 (Enc.len r14)) ?_
  refine go 1 ?_
  refine o_callV (hp _ (List.getElem_mem hlt) _ r14) rfl rfl ?_
  refine go 2 ?_
  refine cb rfl (fun h16 p16 => ?_) (fun h16 p16 => ?_)
  ·refine go 12 ?_
   refine fin1 rfl rfl ?_
   exact q_v (congrArg (Value.int .i64) (idxF_found hlt p16 hn).symm)
  ·refine go 8 ?_
   exact q_next (i + 1) ⟨by omega, idx_next hn hlt p16⟩ (by omega) rfl sb rfl
 ·refine go 11 ?_
  refine fin1 rfl rfl ?_
  exact q_v (congrArg (Value.int .i64) (idxF_none (fun j x hj => hn j x (by omega))).symm)

theorem indexFunc_Slot (I : IMap) (v : Value) (l : List Slot) (hv : RdS I v l) (f : FuncId) (cs : List Value) (p : Slot → Bool) (hp : ∀ x ∈ l, ∀ vs, Enc.rd I vs x → FnV Tryz.prog f ([Value.agg vs.toArray] ++ cs).toArray I (.bool (p x))) :
    FnV Tryz.prog 319 #[v, .func (.func f) #[] cs.toArray] I (.int .i64 (idxF p l)) := by
 obtain ⟨A, c, rfl, hA, hc, hm⟩ := hv
 refine enter Tryz.func319 Tryz.call319 rfl Tryz.ntmps319 rfl (fun w0 => ?_)
 refine go 14 ?_
 refine c_loop (α := Nat) 0 (fun i => I)
  (fun i => [(0, .slice A l.length c), (1, .func (.func f) #[] cs.toArray), (7, .int .i64 (l.length : Int)), (8, .int .i64 (i : Int))])
  (fun i => [])
  (fun i => i ≤ l.length ∧ ∀ j x, j < i → l[j]? = some x → p x = false)
  (fun i => l.length - i) ⟨Nat.zero_le _, fun j x hj => absurd hj (Nat.not_lt_zero j)⟩ rfl sb rfl ?_
 intro i ⟨hi, hn⟩
 refine go 6 ?_
 refine cb rfl (fun h9 p9 => ?_) (fun h9 p9 => ?_)
 ·have hlt : i < l.length := by omega
  refine go 15 ?_
  obtain ⟨b14, o14, w14, e14, c14, r14⟩ := RdA.at_ hA (i := i) hlt
  refine o_v rfl (v_idx he rfl rfl e14 (i) (by omega) hlt) ?_
  refine o_v rfl (v_ldIa he rfl c14 (Enc.len r14)) ?_
  refine go 1 ?_
  refine o_callV (hp _ (List.getElem_mem hlt) _ r14) rfl rfl ?_
  refine go 2 ?_
  refine cb rfl (fun h16 p16 => ?_) (fun h16 p16 => ?_)
  ·refine go 12 ?_
   refine fin1 rfl rfl ?_
   exact q_v (congrArg (Value.int .i64) (idxF_found hlt p16 hn).symm)
  ·refine go 8 ?_
   exact q_next (i + 1) ⟨by omega, idx_next hn hlt p16⟩ (by omega) rfl sb rfl
 ·refine go 11 ?_
  refine fin1 rfl rfl ?_
  exact q_v (congrArg (Value.int .i64) (idxF_none (fun j x hj => hn j x (by omega))).symm)

theorem indexFunc_Part (I : IMap) (v : Value) (l : List Part) (hv : RdS I v l) (f : FuncId) (cs : List Value) (p : Part → Bool) (hp : ∀ x ∈ l, ∀ vs, Enc.rd I vs x → FnV Tryz.prog f ([Value.agg vs.toArray] ++ cs).toArray I (.bool (p x))) :
    FnV Tryz.prog 219 #[v, .func (.func f) #[] cs.toArray] I (.int .i64 (idxF p l)) := by
 obtain ⟨A, c, rfl, hA, hc, hm⟩ := hv
 refine enter Tryz.func219 Tryz.call219 rfl Tryz.ntmps219 rfl (fun w0 => ?_)
 refine go 14 ?_
 refine c_loop (α := Nat) 0 (fun i => I)
  (fun i => [(0, .slice A l.length c), (1, .func (.func f) #[] cs.toArray), (7, .int .i64 (l.length : Int)), (8, .int .i64 (i : Int))])
  (fun i => [])
  (fun i => i ≤ l.length ∧ ∀ j x, j < i → l[j]? = some x → p x = false)
  (fun i => l.length - i) ⟨Nat.zero_le _, fun j x hj => absurd hj (Nat.not_lt_zero j)⟩ rfl sb rfl ?_
 intro i ⟨hi, hn⟩
 refine go 6 ?_
 refine cb rfl (fun h9 p9 => ?_) (fun h9 p9 => ?_)
 ·have hlt : i < l.length := by omega
  refine go 15 ?_
  obtain ⟨b14, o14, w14, e14, c14, r14⟩ := RdA.at_ hA (i := i) hlt
  refine o_v rfl (v_idx he rfl rfl e14 (i) (by omega) hlt) ?_
  refine o_v rfl (v_ldIa he rfl c14 (Enc.len r14)) ?_
  refine go 1 ?_
  refine o_callV (hp _ (List.getElem_mem hlt) _ r14) rfl rfl ?_
  refine go 2 ?_
  refine cb rfl (fun h16 p16 => ?_) (fun h16 p16 => ?_)
  ·refine go 12 ?_
   refine fin1 rfl rfl ?_
   exact q_v (congrArg (Value.int .i64) (idxF_found hlt p16 hn).symm)
  ·refine go 8 ?_
   exact q_next (i + 1) ⟨by omega, idx_next hn hlt p16⟩ (by omega) rfl sb rfl
 ·refine go 11 ?_
  refine fin1 rfl rfl ?_
  exact q_v (congrArg (Value.int .i64) (idxF_none (fun j x hj => hn j x (by omega))).symm)

theorem containsFunc_Part (I : IMap) (v : Value) (l : List Part) (hv : RdS I v l) (f : FuncId) (cs : List Value) (p : Part → Bool) (hp : ∀ x ∈ l, ∀ vs, Enc.rd I vs x → FnV Tryz.prog f ([Value.agg vs.toArray] ++ cs).toArray I (.bool (p x))) :
    FnV Tryz.prog 151 #[v, .func (.func f) #[] cs.toArray] I (.bool (l.any p)) := by
 refine enter Tryz.func151 Tryz.call151 rfl Tryz.ntmps151 rfl (fun w0 => ?_)
 refine go 10 ?_
 refine o_callV (indexFunc_Part I v l hv f cs p hp) rfl rfl ?_
 refine go 5 ?_
 refine fin1 rfl rfl ?_
 exact q_v (congrArg Value.bool (idxF_any p l))

theorem indexFunc_Evt (I : IMap) (v : Value) (l : List Evt) (hv : RdS I v l) (f : FuncId) (cs : List Value) (p : Evt → Bool) (hp : ∀ x ∈ l, ∀ vs, Enc.rd I vs x → FnV Tryz.prog f ([Value.agg vs.toArray] ++ cs).toArray I (.bool (p x))) :
    FnV Tryz.prog 140 #[v, .func (.func f) #[] cs.toArray] I (.int .i64 (idxF p l)) := by
 obtain ⟨A, c, rfl, hA, hc, hm⟩ := hv
 refine enter Tryz.func140 Tryz.call140 rfl Tryz.ntmps140 rfl (fun w0 => ?_)
 refine go 14 ?_
 refine c_loop (α := Nat) 0 (fun i => I)
  (fun i => [(0, .slice A l.length c), (1, .func (.func f) #[] cs.toArray), (7, .int .i64 (l.length : Int)), (8, .int .i64 (i : Int))])
  (fun i => [])
  (fun i => i ≤ l.length ∧ ∀ j x, j < i → l[j]? = some x → p x = false)
  (fun i => l.length - i) ⟨Nat.zero_le _, fun j x hj => absurd hj (Nat.not_lt_zero j)⟩ rfl sb rfl ?_
 intro i ⟨hi, hn⟩
 refine go 6 ?_
 refine cb rfl (fun h9 p9 => ?_) (fun h9 p9 => ?_)
 ·have hlt : i < l.length := by omega
  refine go 15 ?_
  obtain ⟨b14, o14, w14, e14, c14, r14⟩ := RdA.at_ hA (i := i) hlt
  refine o_v rfl (v_idx he rfl rfl e14 (i) (by omega) hlt) ?_
  refine o_v rfl (v_ldIa he rfl c14 (Enc.len r14)) ?_
  refine go 1 ?_
  refine o_callV (hp _ (List.getElem_mem hlt) _ r14) rfl rfl ?_
  refine go 2 ?_
  refine cb rfl (fun h16 p16 => ?_) (fun h16 p16 => ?_)
  ·refine go 12 ?_
   refine fin1 rfl rfl ?_
   exact q_v (congrArg (Value.int .i64) (idxF_found hlt p16 hn).symm)
  ·refine go 8 ?_
   exact q_next (i + 1) ⟨by omega, idx_next hn hlt p16⟩ (by omega) rfl sb rfl
 ·refine go 11 ?_
  refine fin1 rfl rfl ?_
  exact q_v (congrArg (Value.int .i64) (idxF_none (fun j x hj => hn j x (by omega))).symm)

theorem indexFunc_string (I : IMap) (v : Value) (l : List ByteArray) (hv : RdS I v l) (f : FuncId) (cs : List Value) (p : ByteArray → Bool) (hp : ∀ x ∈ l, ∀ vs, Enc.rd I vs x → FnV Tryz.prog f ([Value.string x] ++ cs).toArray I (.bool (p x))) :
    FnV Tryz.prog 200 #[v, .func (.func f) #[] cs.toArray] I (.int .i64 (idxF p l)) := by
 obtain ⟨A, c, rfl, hA, hc, hm⟩ := hv
 refine enter Tryz.func200 Tryz.call200 rfl Tryz.ntmps200 rfl (fun w0 => ?_)
 refine go 14 ?_
 refine c_loop (α := Nat) 0 (fun i => I)
  (fun i => [(0, .slice A l.length c), (1, .func (.func f) #[] cs.toArray), (7, .int .i64 (l.length : Int)), (8, .int .i64 (i : Int))])
  (fun i => [])
  (fun i => i ≤ l.length ∧ ∀ j x, j < i → l[j]? = some x → p x = false)
  (fun i => l.length - i) ⟨Nat.zero_le _, fun j x hj => absurd hj (Nat.not_lt_zero j)⟩ rfl sb rfl ?_
 intro i ⟨hi, hn⟩
 refine go 6 ?_
 refine cb rfl (fun h9 p9 => ?_) (fun h9 p9 => ?_)
 ·have hlt : i < l.length := by omega
  refine go 15 ?_
  obtain ⟨b14, o14, w14, e14, c14, r14⟩ := RdA.at_ hA (i := i) hlt
  obtain rfl := r14
  refine o_v rfl (v_idx he rfl rfl e14 (i) (by omega) hlt) ?_
  refine o_v rfl (v_ldI he rfl (c14 0 _ rfl)) ?_
  refine go 1 ?_
  refine o_callV (hp _ (List.getElem_mem hlt) _ rfl) rfl rfl ?_
  refine go 2 ?_
  refine cb rfl (fun h16 p16 => ?_) (fun h16 p16 => ?_)
  ·refine go 12 ?_
   refine fin1 rfl rfl ?_
   exact q_v (congrArg (Value.int .i64) (idxF_found hlt p16 hn).symm)
  ·refine go 8 ?_
   exact q_next (i + 1) ⟨by omega, idx_next hn hlt p16⟩ (by omega) rfl sb rfl
 ·refine go 11 ?_
  refine fin1 rfl rfl ?_
  exact q_v (congrArg (Value.int .i64) (idxF_none (fun j x hj => hn j x (by omega))).symm)

theorem containsFunc_string (I : IMap) (v : Value) (l : List ByteArray) (hv : RdS I v l) (f : FuncId) (cs : List Value) (p : ByteArray → Bool) (hp : ∀ x ∈ l, ∀ vs, Enc.rd I vs x → FnV Tryz.prog f ([Value.string x] ++ cs).toArray I (.bool (p x))) :
    FnV Tryz.prog 128 #[v, .func (.func f) #[] cs.toArray] I (.bool (l.any p)) := by
 refine enter Tryz.func128 Tryz.call128 rfl Tryz.ntmps128 rfl (fun w0 => ?_)
 refine go 10 ?_
 refine o_callV (indexFunc_string I v l hv f cs p hp) rfl rfl ?_
 refine go 5 ?_
 refine fin1 rfl rfl ?_
 exact q_v (congrArg Value.bool (idxF_any p l))

theorem index_string (I : IMap) (v : Value) (l : List ByteArray) (hv : RdS I v l) (s : ByteArray) :
    FnV Tryz.prog 159 #[v, .string s] I (.int .i64 (idxF (fun x => decide (s = x)) l)) := by
 obtain ⟨A, c, rfl, hA, hc, hm⟩ := hv
 refine enter Tryz.func159 Tryz.call159 rfl Tryz.ntmps159 rfl (fun w0 => ?_)
 refine go 14 ?_
 refine c_loop (α := Nat) 0 (fun i => I)
  (fun i => [(0, .slice A l.length c), (1, .string s), (7, .int .i64 (l.length : Int)), (8, .int .i64 (i : Int))])
  (fun i => [])
  (fun i => i ≤ l.length ∧ ∀ j x, j < i → l[j]? = some x → (fun x => decide (s = x)) x = false)
  (fun i => l.length - i) ⟨Nat.zero_le _, fun j x hj => absurd hj (Nat.not_lt_zero j)⟩ rfl sb rfl ?_
 intro i ⟨hi, hn⟩
 refine go 6 ?_
 refine cb rfl (fun h9 p9 => ?_) (fun h9 p9 => ?_)
 ·have hlt : i < l.length := by omega
  refine go 15 ?_
  obtain ⟨b14, o14, w14, e14, c14, r14⟩ := RdA.at_ hA (i := i) hlt
  obtain rfl := r14
  refine o_v rfl (v_idx he rfl rfl e14 (i) (by omega) hlt) ?_
  refine o_v rfl (v_ldI he rfl (c14 0 _ rfl)) ?_
  refine go 3 ?_
  refine cb rfl (fun h16 p16 => ?_) (fun h16 p16 => ?_)
  ·refine go 12 ?_
   refine fin1 rfl rfl ?_
   exact q_v (congrArg (Value.int .i64) (idxF_found (p := fun x => decide (s = x)) hlt h16 hn).symm)
  ·refine go 8 ?_
   exact q_next (i + 1) ⟨by omega, idx_next (p := fun x => decide (s = x)) hn hlt h16⟩ (by omega) rfl sb rfl
 ·refine go 11 ?_
  refine fin1 rfl rfl ?_
  exact q_v (congrArg (Value.int .i64) (idxF_none (p := fun x => decide (s = x)) (fun j x hj => hn j x (by omega))).symm)

theorem contains_string (I : IMap) (v : Value) (l : List ByteArray) (hv : RdS I v l) (s : ByteArray) :
    FnV Tryz.prog 95 #[v, .string s] I (.bool (decide (s ∈ l))) := by
 refine enter Tryz.func95 Tryz.call95 rfl Tryz.ntmps95 rfl (fun w0 => ?_)
 refine go 10 ?_
 refine o_callV (index_string I v l hv s) rfl rfl ?_
 refine go 5 ?_
 refine fin1 rfl rfl ?_
 exact q_v (congrArg Value.bool ((idxF_any _ l).trans (any_mem s l)))

theorem kindName (I : IMap) (k : Kind) (vs : List Value) (h : Enc.rd I vs k) :
    FnV Tryz.prog 218 #[.agg vs.toArray] I (.string k.name) := by
 obtain ⟨ss, rfl, hs⟩ := h
 refine enter Tryz.func218 Tryz.call218 rfl Tryz.ntmps218 rfl (fun w0 => ?_)
 refine go 3 ?_
 refine o_box _ rfl rfl rfl (fun g1 => ?_)
 refine go 11 ?_
 refine fin1 rfl rfl ?_
 exact q_v rfl

theorem slotName (I : IMap) (k : Slot) (vs : List Value) (h : Enc.rd I vs k) :
    FnV Tryz.prog 268 #[.agg vs.toArray] I (.string k.name) := by
 obtain ⟨ss, rfl, hs⟩ := h
 refine enter Tryz.func268 Tryz.call268 rfl Tryz.ntmps268 rfl (fun w0 => ?_)
 refine go 3 ?_
 refine o_box _ rfl rfl rfl (fun g1 => ?_)
 refine go 11 ?_
 refine fin1 rfl rfl ?_
 exact q_v rfl

theorem indexC_Kind (I : IMap) (k : Kind) (vs : List Value) (h : Enc.rd I vs k) (fn : FuncId) (nm : Kind → ByteArray) (s : ByteArray) (hn : FnV Tryz.prog fn #[.agg vs.toArray] I (.string (nm k))) (g1 g2 : Nat) (c1 : ICells I g1 0 [.func (.func fn) #[] #[]]) (c2 : ICells I g2 0 [.string s]) :
    FnV Tryz.prog 266 #[.agg vs.toArray, .pointer (some ⟨g1, 0, none⟩), .pointer (some ⟨g2, 0, none⟩)] I (.bool (decide (nm k = s))) := by
 have hl := Enc.len h
 refine enter Tryz.func266 Tryz.call266 rfl Tryz.ntmps266 rfl (fun w0 => ?_)
 refine go 3 ?_
 refine o_box _ rfl rfl rfl (fun g3 => ?_)
 refine go 4 ?_
 refine d_startH T.mixed ?_
 refine d_tv 0 rfl rfl (by kernel_rfl) rfl (.refl _) rfl (v_ldI he rfl (c1 0 _ rfl)) ?_
 refine d_tv 1 rfl rfl (by kernel_rfl) rfl (.refl _) rfl (v_ldw m0 he rfl hl) ?_
 refine d_tv 3 rfl rfl (by kernel_rfl) rfl (.refl _) rfl (v_ldI he rfl (c2 0 _ rfl)) ?_
 refine d_one 2 (by kernel_rfl) rfl ?_
 refine o_callV (hn) rfl rfl ?_
 refine d_on (fun _ m => m.keeps (.refl _)) ?_
 refine d_tv 4 rfl rfl (by kernel_rfl) rfl (.refl _) rfl (v_seql rfl rfl) ?_
 refine d_tv 5 rfl rfl (by kernel_rfl) rfl (.refl _) rfl (v_assign rfl) ?_
 refine d_done (by kernel_rfl) ?_
 refine go 2 ?_
 refine fin1 rfl rfl ?_
 exact q_v rfl

theorem index_Kind (I : IMap) (v : Value) (l : List Kind) (hv : RdS I v l) (fn : FuncId) (nm : Kind → ByteArray) (s : ByteArray) (hn : ∀ J, ILe I J → ∀ x ∈ l, ∀ vs, Enc.rd J vs x → FnV Tryz.prog fn #[.agg vs.toArray] J (.string (nm x))) :
    FnV Tryz.prog 217 #[v, .func (.func fn) #[] #[], .string s] I (.int .i64 (idxF (fun x => decide (nm x = s)) l)) := by
 refine enter Tryz.func217 Tryz.call217 rfl Tryz.ntmps217 rfl (fun w0 => ?_)
 refine go 3 ?_
 refine o_box _ rfl rfl rfl (fun g4 => ?_)
 refine go 1 ?_
 refine o_box _ rfl rfl rfl (fun g5 => ?_)
 refine go 6 ?_
 refine bring1 ?_
 refine sx_pub (fun Ig4 jg4 cg4 => ?_)
 refine sx_pub (fun Ig5 jg5 cg5 => ?_)
 refine o_v rfl (v_makeFunc rfl rfl) ?_
 refine go 1 ?_
 refine o_callV (indexFunc_Kind _ v l (hv.le (jg4.trans jg5)) _ [.pointer (some ⟨g4, 0, none⟩), .pointer (some ⟨g5, 0, none⟩)] (fun x => decide (nm x = s)) (fun x hx vs hr => indexC_Kind _ x vs hr fn nm s (hn _ (jg4.trans jg5) x hx vs hr) g4 g5 (cg4.le jg5) cg5)) rfl rfl ?_
 refine go 4 ?_
 refine fin1 rfl rfl ?_
 exact q_vI rfl

theorem indexC_Slot (I : IMap) (k : Slot) (vs : List Value) (h : Enc.rd I vs k) (fn : FuncId) (nm : Slot → ByteArray) (s : ByteArray) (hn : FnV Tryz.prog fn #[.agg vs.toArray] I (.string (nm k))) (g1 g2 : Nat) (c1 : ICells I g1 0 [.func (.func fn) #[] #[]]) (c2 : ICells I g2 0 [.string s]) :
    FnV Tryz.prog 320 #[.agg vs.toArray, .pointer (some ⟨g1, 0, none⟩), .pointer (some ⟨g2, 0, none⟩)] I (.bool (decide (nm k = s))) := by
 have hl := Enc.len h
 refine enter Tryz.func320 Tryz.call320 rfl Tryz.ntmps320 rfl (fun w0 => ?_)
 refine go 3 ?_
 refine o_box _ rfl rfl rfl (fun g3 => ?_)
 refine go 4 ?_
 refine d_startH T.mixed ?_
 refine d_tv 0 rfl rfl (by kernel_rfl) rfl (.refl _) rfl (v_ldI he rfl (c1 0 _ rfl)) ?_
 refine d_tv 1 rfl rfl (by kernel_rfl) rfl (.refl _) rfl (v_ldw m0 he rfl hl) ?_
 refine d_tv 3 rfl rfl (by kernel_rfl) rfl (.refl _) rfl (v_ldI he rfl (c2 0 _ rfl)) ?_
 refine d_one 2 (by kernel_rfl) rfl ?_
 refine o_callV (hn) rfl rfl ?_
 refine d_on (fun _ m => m.keeps (.refl _)) ?_
 refine d_tv 4 rfl rfl (by kernel_rfl) rfl (.refl _) rfl (v_seql rfl rfl) ?_
 refine d_tv 5 rfl rfl (by kernel_rfl) rfl (.refl _) rfl (v_assign rfl) ?_
 refine d_done (by kernel_rfl) ?_
 refine go 2 ?_
 refine fin1 rfl rfl ?_
 exact q_v rfl

theorem index_Slot (I : IMap) (v : Value) (l : List Slot) (hv : RdS I v l) (fn : FuncId) (nm : Slot → ByteArray) (s : ByteArray) (hn : ∀ J, ILe I J → ∀ x ∈ l, ∀ vs, Enc.rd J vs x → FnV Tryz.prog fn #[.agg vs.toArray] J (.string (nm x))) :
    FnV Tryz.prog 267 #[v, .func (.func fn) #[] #[], .string s] I (.int .i64 (idxF (fun x => decide (nm x = s)) l)) := by
 refine enter Tryz.func267 Tryz.call267 rfl Tryz.ntmps267 rfl (fun w0 => ?_)
 refine go 3 ?_
 refine o_box _ rfl rfl rfl (fun g4 => ?_)
 refine go 1 ?_
 refine o_box _ rfl rfl rfl (fun g5 => ?_)
 refine go 6 ?_
 refine bring1 ?_
 refine sx_pub (fun Ig4 jg4 cg4 => ?_)
 refine sx_pub (fun Ig5 jg5 cg5 => ?_)
 refine o_v rfl (v_makeFunc rfl rfl) ?_
 refine go 1 ?_
 refine o_callV (indexFunc_Slot _ v l (hv.le (jg4.trans jg5)) _ [.pointer (some ⟨g4, 0, none⟩), .pointer (some ⟨g5, 0, none⟩)] (fun x => decide (nm x = s)) (fun x hx vs hr => indexC_Slot _ x vs hr fn nm s (hn _ (jg4.trans jg5) x hx vs hr) g4 g5 (cg4.le jg5) cg5)) rfl rfl ?_
 refine go 4 ?_
 refine fin1 rfl rfl ?_
 exact q_vI rfl

theorem catFind (I : IMap) (v : Value) (l : List Kind) (hv : RdS I v l) (s : ByteArray) :
    FnE Tryz.prog 149 #[.agg #[v], .string s] I (KindIs I (findK l s)) := by
 refine enter Tryz.func149 Tryz.call149 rfl Tryz.ntmps149 rfl (fun w0 => ?_)
 refine go 3 ?_
 refine o_box _ rfl rfl rfl (fun g2 => ?_)
 refine go 1 ?_
 refine o_alloc he rfl (fun g4 => ?_)
 refine go 9 ?_
 refine o_callV (index_Kind I _ l hv _ Kind.name s (fun J hJ x _ vs hr => kindName J x vs hr)) rfl rfl ?_
 refine go 10 ?_
 refine cb rfl (fun h12 p12 => ?_) (fun h12 p12 => ?_)
 ·have hN := ((idxF_find (fun x => decide (Kind.name x = s)) l).resolve_right (by rintro ⟨i, hi, e, _⟩; omega)).2
  refine go 3 ?_
  refine o_val rfl (v_build (pl := [(0, 1), (1, 1), (2, 1)]) he he rfl rfl) ?_
  refine go 1 ?_
  refine o_stw _ he rfl rfl rfl rfl rfl rfl ?_
  refine go 5 ?_
  refine fin2 rfl ⟨_, _, _, rfl, m0, .inr ⟨_, he, rfl, rfl⟩⟩ rfl ?_
  exact q_e (KindIs.none hN)
 ·obtain ⟨i, hi, ei, hF⟩ := (idxF_find (fun x => decide (Kind.name x = s)) l).resolve_left (fun h => by omega)
  refine go 7 ?_
  obtain ⟨A, c0, rfl, hA, hc, hm⟩ := hv
  obtain ⟨b17, o17, w17, e17, c17, r17⟩ := RdA.at_ hA (i := i) hi
  obtain ⟨q17, rfl, B17, d17, rfl, hB17, hd17, hm17⟩ := r17
  refine o_v rfl (v_idx he rfl rfl e17 (i) ei hi) ?_
  refine o_v rfl (v_ldIa he rfl c17 rfl) ?_
  refine go 1 ?_
  refine o_stw _ he rfl rfl rfl rfl rfl rfl ?_
  refine go 4 ?_
  refine fin2 rfl ⟨_, _, _, rfl, m0, .inr ⟨_, he, rfl, rfl⟩⟩ rfl ?_
  exact q_e (KindIs.of hF ⟨_, rfl, B17, d17, rfl, hB17, hd17, hm17⟩)

theorem catSlot (I : IMap) (v : Value) (l : List Kind) (hv : RdS I v l) (k s : ByteArray) :
    FnE Tryz.prog 220 #[.agg #[v], .string k, .string s] I (SlotIs I (slotF l k s)) := by
 refine enter Tryz.func220 Tryz.call220 rfl Tryz.ntmps220 rfl (fun w0 => ?_)
 refine go 3 ?_
 refine o_box _ rfl rfl rfl (fun g3 => ?_)
 refine go 1 ?_
 refine o_alloc he rfl (fun g6 => ?_)
 refine go 8 ?_
 refine o_callE (catFind I _ l hv k) rfl rfl (fun v14 q14 => ?_)
 obtain ⟨vs, rfl, ss, rfl, hsl⟩ := q14
 refine go 4 ?_
 refine o_alloc he rfl (fun g8 => ?_)
 refine go 1 ?_
 refine o_stw _ he rfl rfl rfl rfl rfl (by simp [Kind.cells, hsl.one]; exact ⟨rfl, rfl⟩) ?_
 refine go 9 ?_
 refine o_callV (index_Slot I _ _ hsl _ Slot.name s (fun J hJ x _ vs hr => slotName J x vs hr)) rfl rfl ?_
 refine go 10 ?_
 refine cb rfl (fun h22 p22 => ?_) (fun h22 p22 => ?_)
 ·have hN := ((idxF_find (fun x => decide (Slot.name x = s)) ((findK l k).getD zKind).slots).resolve_right (by rintro ⟨i, hi, e, _⟩; omega)).2
  refine go 3 ?_
  refine o_val rfl (v_build (pl := [(0, 1), (1, 1), (2, 1)]) he he rfl rfl) ?_
  refine go 1 ?_
  refine bring1 ?_
  refine o_stw _ he rfl rfl rfl rfl rfl rfl ?_
  refine go 5 ?_
  refine fin2 rfl ⟨_, _, _, rfl, m0, .inr ⟨_, he, rfl, rfl⟩⟩ rfl ?_
  exact q_e (SlotIs.none hN)
 ·obtain ⟨i, hi, ei, hF⟩ := (idxF_find (fun x => decide (Slot.name x = s)) ((findK l k).getD zKind).slots).resolve_left (fun h => by omega)
  obtain ⟨A, c0, rfl, hA, hc, hm⟩ := hsl
  refine go 7 ?_
  obtain ⟨b27, o27, w27, e27, c27, r27⟩ := RdA.at_ hA (i := i) hi
  obtain ⟨q27, rfl, B27, d27, rfl, hB27, hd27, hm27⟩ := r27
  refine o_v rfl (v_idx he rfl rfl e27 (i) ei hi) ?_
  refine o_v rfl (v_ldIa he rfl c27 rfl) ?_
  refine go 1 ?_
  refine bring1 ?_
  refine o_stw _ he rfl rfl rfl rfl rfl rfl ?_
  refine go 4 ?_
  refine fin2 rfl ⟨_, _, _, rfl, m0, .inr ⟨_, he, rfl, rfl⟩⟩ rfl ?_
  exact q_e (SlotIs.of hF ⟨_, rfl, B27, d27, rfl, hB27, hd27, hm27⟩)

theorem catTakes (I : IMap) (v : Value) (l : List Kind) (hv : RdS I v l) (k s p : ByteArray) :
    FnV Tryz.prog 152 #[.agg #[v], .string k, .string s, .string p] I (.bool (takesF l k s p)) := by
 refine enter Tryz.func152 Tryz.call152 rfl Tryz.ntmps152 rfl (fun w0 => ?_)
 refine go 3 ?_
 refine o_box _ rfl rfl rfl (fun g4 => ?_)
 refine go 9 ?_
 refine o_callE (catSlot I _ l hv k s) rfl rfl (fun v15 q15 => ?_)
 obtain ⟨vs, rfl, ss, rfl, hsl⟩ := q15
 refine go 4 ?_
 refine o_alloc he rfl (fun g9 => ?_)
 refine go 1 ?_
 refine o_stw _ he rfl rfl rfl rfl rfl (by simp [Slot.cells, hsl.one]; exact ⟨rfl, rfl⟩) ?_
 refine go 7 ?_
 refine sxb 19 rfl (fun h19 p19 => ?_) (fun h19 p19 => ?_)
 ·refine go 4 ?_
  refine o_yes rfl rfl h19 (o_callV (contains_string I _ _ hsl p) rfl rfl ?_)
  refine go 5 ?_
  refine fin1 rfl rfl ?_
  exact q_v (congrArg Value.bool (by revert h19; unfold takesF; cases slotF l k s <;> simp))
 ·refine go 9 ?_
  refine fin1 rfl rfl ?_
  exact q_v (congrArg Value.bool (by revert h19; unfold takesF; cases slotF l k s <;> simp))

theorem catValid (I : IMap) (v : Value) (l : List Kind) (hv : RdS I v l) (hs : SmC l) :
    FnV Tryz.prog 85 #[.agg #[v]] I (.bool (validC l)) := by
 obtain ⟨A, c0, rfl, hA, hc, hm⟩ := hv
 refine enter Tryz.func85 Tryz.call85 rfl Tryz.ntmps85 rfl (fun w0 => ?_)
 refine go 3 ?_
 refine o_box _ rfl rfl rfl (fun g1 => ?_)
 refine go 6 ?_
 refine o_map0 (Value.string) he rfl (fun r14 => ?_)
 refine go 13 ?_
 refine c_loop (α := Nat) 0 (fun i => I)
  (fun i => [(1, .pointer (some ⟨g1, 0, none⟩)), (3, .map (some r14)), (16, .slice A l.length c0), (17, .int .i64 (l.length : Int)), (18, .int .i64 (i : Int))])
  (fun i => [.mp r14 (emap Value.string (kvsOf Kind.name (fun k => Value.bool (!k.vehicle)) (l.take i))), .blk g1 24 [.slice A l.length c0]])
  (fun i => i ≤ l.length ∧ allP kindFine l i = true)
  (fun i => l.length - i) ⟨Nat.zero_le _, rfl⟩ rfl sb rfl ?_
 intro i ⟨hi, hn⟩
 refine go 6 ?_
 refine cb rfl (fun h19 p19 => ?_) (fun h19 p19 => ?_)
 ·have hlt : i < l.length := by omega
  refine go 6 ?_
  obtain ⟨b20, o20, w20, e20, c20, r20⟩ := RdA.at_ hA (i := i) hlt
  obtain ⟨q20, rfl, B20, d20, rfl, hB20, hd20, hm20⟩ := r20
  refine o_v rfl (v_idx he rfl rfl e20 (i) (by omega) hlt) ?_
  refine o_v rfl (v_ldIa he rfl c20 rfl) ?_
  refine go 1 ?_
  refine o_alloc he rfl (fun g5 => ?_)
  refine go 1 ?_
  refine o_stw _ he rfl rfl rfl rfl rfl rfl ?_
  refine go 8 ?_
  refine o_v rfl (v_get2 m1 (key_string he) he he (l[i].name) rfl rfl rfl (kvs_some _ _ _ _)) ?_
  refine go 8 ?_
  refine c_cut (I' := I) (L' := [(1, .pointer (some ⟨g1, 0, none⟩)), (3, .map (some r14)), (16, .slice A l.length c0), (17, .int .i64 (l.length : Int)), (18, .int .i64 (i : Int)), (5, .pointer (some ⟨g5, 0, none⟩)), (41, .bool ((hit Kind.name (l.take i) l[i].name || !nameOk l[i].name) || decide ((12 : Int) < (l[i].slots.length : Nat))))]) (H' := [.blk g5 168 (l[i].cells (.slice B20 l[i].slots.length d20)), .mp r14 (emap Value.string (kvsOf Kind.name (fun k => Value.bool (!k.vehicle)) (l.take i))), .blk g1 24 [.slice A l.length c0]]) ?_ ?_
  ·refine go 3 ?_
   refine sxb 30 rfl (fun h30 p30 => ?_) (fun h30 p30 => ?_)
   ·refine go 13 ?_
    exact q_cut ⟨rfl, rfl, rfl, rfl, rfl, rfl, (congrArg (fun b => some (Value.bool b)) (by simp only [h19, h30, bS])), trivial⟩ rfl rfl
   ·refine go 3 ?_
    refine o_yes rfl rfl h30 (o_callV (lexName _ _ (hs _ (List.getElem_mem hlt)).1) rfl rfl ?_)
    refine go 3 ?_
    refine sxb 36 rfl (fun h36 p36 => ?_) (fun h36 p36 => ?_)
    ·refine go 7 ?_
     exact q_cut ⟨rfl, rfl, rfl, rfl, rfl, rfl, (congrArg (fun b => some (Value.bool b)) (by simp only [h19, h30, h36, bS])), trivial⟩ rfl rfl
    ·refine go 7 ?_
     exact q_cut ⟨rfl, rfl, rfl, rfl, rfl, rfl, (congrArg (fun b => some (Value.bool b)) (by simp only [h19, h30, h36, bS])), trivial⟩ rfl rfl
  ·refine cb rfl (fun h41 p41 => ?_) (fun h41 p41 => ?_)
   ·refine go 12 ?_
    refine fin1 rfl rfl ?_
    exact q_v (congrArg Value.bool (by simp only [validC, allP_not hlt (show kindFine (l.take i) l[i] = false by simp only [kindFine, h41]; rfl), bS]))
   ·refine go 5 ?_
    refine o_map0 (Value.string) he rfl (fun r42 => ?_)
    refine go 13 ?_
    refine c_loop (α := Nat) 0 (fun j => I)
     (fun j => [(1, .pointer (some ⟨g1, 0, none⟩)), (3, .map (some r14)), (16, .slice A l.length c0), (17, .int .i64 (l.length : Int)), (18, .int .i64 (i : Int)), (5, .pointer (some ⟨g5, 0, none⟩)), (8, .map (some r42)), (44, .slice B20 l[i].slots.length d20), (45, .int .i64 (l[i].slots.length : Int)), (46, .int .i64 (j : Int))])
     (fun j => [.mp r42 (emap Value.string (kvsOf Slot.name (fun _ => Value.bool true) (l[i].slots.take j))), .blk g5 168 (l[i].cells (.slice B20 l[i].slots.length d20)), .mp r14 (emap Value.string (kvsOf Kind.name (fun k => Value.bool (!k.vehicle)) (l.take i))), .blk g1 24 [.slice A l.length c0]])
     (fun j => j ≤ l[i].slots.length ∧ allP (slotFine (l.take i)) l[i].slots j = true)
     (fun j => l[i].slots.length - j) ⟨Nat.zero_le _, rfl⟩ rfl sb rfl ?_
    intro j ⟨hj, hq⟩
    refine go 6 ?_
    refine cb rfl (fun h47 p47 => ?_) (fun h47 p47 => ?_)
    ·have hltj : j < l[i].slots.length := by omega
     refine go 6 ?_
     obtain ⟨b48, o48, w48, e48, c48, r48⟩ := RdA.at_ hB20 (i := j) hltj
     obtain ⟨q48, rfl, B48, d48, rfl, hB48, hd48, hm48⟩ := r48
     refine o_v rfl (v_idx he rfl rfl e48 (j) (by omega) hltj) ?_
     refine o_v rfl (v_ldIa he rfl c48 rfl) ?_
     refine go 1 ?_
     refine o_alloc he rfl (fun g10 => ?_)
     refine go 1 ?_
     refine o_stw _ he rfl rfl rfl rfl rfl rfl ?_
     refine go 4 ?_
     refine c_cut (I' := I) (L' := [(1, .pointer (some ⟨g1, 0, none⟩)), (3, .map (some r14)), (16, .slice A l.length c0), (17, .int .i64 (l.length : Int)), (18, .int .i64 (i : Int)), (5, .pointer (some ⟨g5, 0, none⟩)), (8, .map (some r42)), (44, .slice B20 l[i].slots.length d20), (45, .int .i64 (l[i].slots.length : Int)), (46, .int .i64 (j : Int)), (10, .pointer (some ⟨g10, 0, none⟩)), (72, .bool (((hit Slot.name (l[i].slots.take j) l[i].slots[j].name || !nameOk l[i].slots[j].name) || decide (l[i].slots[j].normal < 1)) || decide ((l[i].slots[j].kinds.length : Int) < l[i].slots[j].normal)))]) (H' := [.blk g10 170 (l[i].slots[j].cells (.slice B48 l[i].slots[j].kinds.length d48)), .mp r42 (emap Value.string (kvsOf Slot.name (fun _ => Value.bool true) (l[i].slots.take j))), .blk g5 168 (l[i].cells (.slice B20 l[i].slots.length d20)), .mp r14 (emap Value.string (kvsOf Kind.name (fun k => Value.bool (!k.vehicle)) (l.take i))), .blk g1 24 [.slice A l.length c0]]) ?_ ?_
     ·refine go 4 ?_
      refine o_v rfl (v_get m1 (key_string he) he he (l[i].slots[j].name) rfl rfl (kvs_hit1 _ _ _)) ?_
      refine go 1 ?_
      refine sxb 54 rfl (fun h54 p54 => ?_) (fun h54 p54 => ?_)
      ·refine go 20 ?_
       exact q_cut ⟨rfl, rfl, rfl, rfl, rfl, rfl, rfl, rfl, rfl, rfl, rfl, (congrArg (fun b => some (Value.bool b)) (by simp only [h47, h54, bS])), trivial⟩ rfl rfl
      ·refine go 3 ?_
       refine o_yes rfl rfl h54 (o_callV (lexName _ _ ((hs _ (List.getElem_mem hlt)).2 _ (List.getElem_mem hltj)).1) rfl rfl ?_)
       refine go 3 ?_
       refine sxb 60 rfl (fun h60 p60 => ?_) (fun h60 p60 => ?_)
       ·refine go 14 ?_
        exact q_cut ⟨rfl, rfl, rfl, rfl, rfl, rfl, rfl, rfl, rfl, rfl, rfl, (congrArg (fun b => some (Value.bool b)) (by simp only [h47, h54, h60, bS])), trivial⟩ rfl rfl
       ·refine go 5 ?_
        refine sxb 65 rfl (fun h65 p65 => ?_) (fun h65 p65 => ?_)
        ·refine go 9 ?_
         exact q_cut ⟨rfl, rfl, rfl, rfl, rfl, rfl, rfl, rfl, rfl, rfl, rfl, (congrArg (fun b => some (Value.bool b)) (by simp only [h47, h54, h60, h65, bS])), trivial⟩ rfl rfl
        ·refine go 9 ?_
         exact q_cut ⟨rfl, rfl, rfl, rfl, rfl, rfl, rfl, rfl, rfl, rfl, rfl, (congrArg (fun b => some (Value.bool b)) (by simp only [h47, h54, h60, h65, bS])), trivial⟩ rfl rfl
     ·refine cb rfl (fun h72 p72 => ?_) (fun h72 p72 => ?_)
      ·refine go 17 ?_
       refine fin1 rfl rfl ?_
       exact q_v (congrArg Value.bool (by simp only [validC, allP_not hlt (show kindFine (l.take i) l[i] = false by simp only [kindFine, allP_not hltj (show slotFine (l.take i) (l[i].slots.take j) l[i].slots[j] = false by simp only [slotFine, h72]; rfl), bS]), bS]))
      ·refine go 8 ?_
       have h72n : hit Slot.name (l[i].slots.take j) l[i].slots[j].name = false := by revert h72; cases hit Slot.name (l[i].slots.take j) l[i].slots[j].name <;> simp
       refine bring1 ?_
       refine o_mapPut (kvsOf Slot.name (fun _ => Value.bool true) (l[i].slots.take (j + 1))) (key_string he) he (l[i].slots[j].name) rfl rfl rfl ((kvs_put Slot.name (fun _ => Value.bool true) (l[i].slots.take j) l[i].slots[j] (hit_none h72n)).trans (by rw [take_succ_of hltj])) ?_
       refine go 5 ?_
       refine o_map0 (Value.string) he rfl (fun r76 => ?_)
       refine go 12 ?_
       refine bring2 ?_
       refine sx_drop ?_
       refine c_loop (α := Nat) 0 (fun m => I)
        (fun m => [(1, .pointer (some ⟨g1, 0, none⟩)), (3, .map (some r14)), (16, .slice A l.length c0), (17, .int .i64 (l.length : Int)), (18, .int .i64 (i : Int)), (5, .pointer (some ⟨g5, 0, none⟩)), (8, .map (some r42)), (44, .slice B20 l[i].slots.length d20), (45, .int .i64 (l[i].slots.length : Int)), (46, .int .i64 (j : Int)), (10, .pointer (some ⟨g10, 0, none⟩)), (11, .map (some r76)), (78, .slice B48 l[i].slots[j].kinds.length d48), (79, .int .i64 (l[i].slots[j].kinds.length : Int)), (80, .int .i64 (m : Int))])
        (fun m => [.mp r76 (emap Value.string (kvsOf _root_.id (fun _ => Value.bool true) (l[i].slots[j].kinds.take m))), .mp r42 (emap Value.string (kvsOf Slot.name (fun _ => Value.bool true) (l[i].slots.take (j + 1)))), .blk g5 168 (l[i].cells (.slice B20 l[i].slots.length d20)), .mp r14 (emap Value.string (kvsOf Kind.name (fun k => Value.bool (!k.vehicle)) (l.take i))), .blk g1 24 [.slice A l.length c0]])
        (fun m => m ≤ l[i].slots[j].kinds.length ∧ allP (kindIn (l.take i)) l[i].slots[j].kinds m = true)
        (fun m => l[i].slots[j].kinds.length - m) ⟨Nat.zero_le _, rfl⟩ rfl sb rfl ?_
       intro m ⟨hmm, hr⟩
       refine go 6 ?_
       refine cb rfl (fun h81 p81 => ?_) (fun h81 p81 => ?_)
       ·have hltm : m < l[i].slots[j].kinds.length := by omega
        refine go 6 ?_
        obtain ⟨b82, o82, w82, e82, c82, r82⟩ := RdA.at_ hB48 (i := m) hltm
        obtain rfl := r82
        refine o_v rfl (v_idx he rfl rfl e82 (m) (by omega) hltm) ?_
        refine o_v rfl (v_ldI he rfl (c82 0 _ rfl)) ?_
        refine go 5 ?_
        refine c_cut (I' := I) (L' := [(1, .pointer (some ⟨g1, 0, none⟩)), (3, .map (some r14)), (16, .slice A l.length c0), (17, .int .i64 (l.length : Int)), (18, .int .i64 (i : Int)), (5, .pointer (some ⟨g5, 0, none⟩)), (8, .map (some r42)), (44, .slice B20 l[i].slots.length d20), (45, .int .i64 (l[i].slots.length : Int)), (46, .int .i64 (j : Int)), (10, .pointer (some ⟨g10, 0, none⟩)), (11, .map (some r76)), (78, .slice B48 l[i].slots[j].kinds.length d48), (79, .int .i64 (l[i].slots[j].kinds.length : Int)), (80, .int .i64 (m : Int)), (13, .string l[i].slots[j].kinds[m]), (92, .bool (hit _root_.id (l[i].slots[j].kinds.take m) l[i].slots[j].kinds[m] || !hitV Kind.name (fun k => !k.vehicle) (l.take i) l[i].slots[j].kinds[m]))]) (H' := [.mp r76 (emap Value.string (kvsOf _root_.id (fun _ => Value.bool true) (l[i].slots[j].kinds.take m))), .mp r42 (emap Value.string (kvsOf Slot.name (fun _ => Value.bool true) (l[i].slots.take (j + 1)))), .blk g5 168 (l[i].cells (.slice B20 l[i].slots.length d20)), .mp r14 (emap Value.string (kvsOf Kind.name (fun k => Value.bool (!k.vehicle)) (l.take i))), .blk g1 24 [.slice A l.length c0]]) ?_ ?_
        ·refine go 3 ?_
         refine o_v rfl (v_get m0 (key_string he) he he (l[i].slots[j].kinds[m]) rfl rfl (kvs_hit1 _root_.id _ _)) ?_
         refine go 1 ?_
         refine sxb 87 rfl (fun h87 p87 => ?_) (fun h87 p87 => ?_)
         ·refine go 7 ?_
          exact q_cut ⟨rfl, rfl, rfl, rfl, rfl, rfl, rfl, rfl, rfl, rfl, rfl, rfl, rfl, rfl, rfl, rfl, (congrArg (fun b => some (Value.bool b)) (by simp only [h81, h87, bS])), trivial⟩ rfl rfl
         ·refine go 2 ?_
          refine o_cons (o_yes rfl rfl h87 (o_val rfl (v_get m3 (key_string he) he he (l[i].slots[j].kinds[m]) rfl rfl (kvs_hit Kind.name (fun k => !k.vehicle) _ _)) ?_))
          refine go 4 ?_
          exact q_cut ⟨rfl, rfl, rfl, rfl, rfl, rfl, rfl, rfl, rfl, rfl, rfl, rfl, rfl, rfl, rfl, rfl, (congrArg (fun b => some (Value.bool b)) (by simp only [h81, h87, bS])), trivial⟩ rfl rfl
        ·refine cb rfl (fun h92 p92 => ?_) (fun h92 p92 => ?_)
         ·refine go 21 ?_
          refine fin1 rfl rfl ?_
          exact q_v (congrArg Value.bool (by simp only [validC, allP_not hlt (show kindFine (l.take i) l[i] = false by simp only [kindFine, allP_not hltj (show slotFine (l.take i) (l[i].slots.take j) l[i].slots[j] = false by simp only [slotFine, allP_not hltm (show kindIn (l.take i) (l[i].slots[j].kinds.take m) l[i].slots[j].kinds[m] = false by revert h92; simp only [kindIn]; cases hit _root_.id (l[i].slots[j].kinds.take m) l[i].slots[j].kinds[m] <;> simp), bS]), bS]), bS]))
         ·refine go 6 ?_
          have h92n : hit _root_.id (l[i].slots[j].kinds.take m) l[i].slots[j].kinds[m] = false := by revert h92; cases hit _root_.id (l[i].slots[j].kinds.take m) l[i].slots[j].kinds[m] <;> simp
          refine o_mapPut (kvsOf _root_.id (fun _ => Value.bool true) (l[i].slots[j].kinds.take (m + 1))) (key_string he) he (l[i].slots[j].kinds[m]) rfl rfl rfl ((kvs_put _root_.id (fun _ => Value.bool true) (l[i].slots[j].kinds.take m) l[i].slots[j].kinds[m] (hit_none h92n)).trans (by rw [take_succ_of hltm])) ?_
          refine go 8 ?_
          exact q_next (m + 1) ⟨by omega, allP_succ hr hltm (by revert h92; simp only [kindIn]; cases hit _root_.id (l[i].slots[j].kinds.take m) l[i].slots[j].kinds[m] <;> simp)⟩ (by omega) rfl sb rfl
       ·refine go 11 ?_
        refine sx_drop ?_
        exact q_next (j + 1) ⟨by omega, allP_succ hq hltj (by simp only [slotFine, h72, (show m = l[i].slots[j].kinds.length by omega) ▸ hr]; rfl)⟩ (by omega) rfl sb rfl
    ·refine go 13 ?_
     have h41n : hit Kind.name (l.take i) l[i].name = false := by revert h41; cases hit Kind.name (l.take i) l[i].name <;> simp
     refine bring2 ?_
     refine o_mapPut (kvsOf Kind.name (fun k => Value.bool (!k.vehicle)) (l.take (i + 1))) (key_string he) he (l[i].name) rfl rfl rfl ((kvs_put Kind.name (fun k => Value.bool (!k.vehicle)) (l.take i) l[i] (hit_none h41n)).trans (by rw [take_succ_of hlt])) ?_
     refine go 8 ?_
     refine bring1 ?_
     refine sx_drop ?_
     refine bring1 ?_
     refine sx_drop ?_
     exact q_next (i + 1) ⟨by omega, allP_succ hn hlt (by simp only [kindFine, h41, (show j = l[i].slots.length by omega) ▸ hq]; rfl)⟩ (by omega) rfl sb rfl
 ·refine go 15 ?_
  refine fin1 rfl rfl ?_
  have e : i = l.length := (by omega)
  subst e
  exact q_v (congrArg Value.bool (by simp only [validC, hn, bS]))

theorem refFew (I : IMap) (v : Value) (l : List Kind) (hv : RdS I v l) :
    FnV Tryz.prog 51 #[.agg #[v]] I (.bool (fewC l)) := by
 obtain ⟨A, c0, rfl, hA, hc, hm⟩ := hv
 refine enter Tryz.func51 Tryz.call51 rfl Tryz.ntmps51 rfl (fun w0 => ?_)
 refine go 3 ?_
 refine o_box _ rfl rfl rfl (fun g1 => ?_)
 refine go 12 ?_
 refine cb rfl (fun h10 p10 => ?_) (fun h10 p10 => ?_)
 ·refine go 7 ?_
  refine fin1 rfl rfl ?_
  exact q_v (congrArg Value.bool (by simp only [fewC, h10]; rfl))
 ·refine go 9 ?_
  refine c_loop (α := Nat) 0 (fun i => I)
   (fun i => [(1, .pointer (some ⟨g1, 0, none⟩)), (3, .int .i64 (i : Int))])
   (fun i => [.blk g1 24 [.slice A l.length c0]])
   (fun i => i ≤ l.length ∧ allP (fun _ k => fewKind k) l i = true)
   (fun i => l.length - i) ⟨Nat.zero_le _, rfl⟩ rfl sb rfl ?_
  intro i ⟨hi, hn⟩
  refine go 10 ?_
  refine cb rfl (fun h15 p15 => ?_) (fun h15 p15 => ?_)
  ·have hlt : i < l.length := by omega
   refine go 9 ?_
   obtain ⟨b21, o21, w21, e21, c21, r21⟩ := RdA.at_ hA (i := i) hlt
   obtain ⟨q21, rfl, B21, d21, rfl, hB21, hd21, hm21⟩ := r21
   refine o_v rfl (v_idx he rfl rfl e21 (i) (by omega) hlt) ?_
   refine o_v rfl (v_ldIa he rfl c21 rfl) ?_
   refine go 1 ?_
   refine o_alloc he rfl (fun g4 => ?_)
   refine go 1 ?_
   refine o_stw _ he rfl rfl rfl rfl rfl rfl ?_
   refine go 4 ?_
   refine c_cut (I' := I) (L' := [(1, .pointer (some ⟨g1, 0, none⟩)), (3, .int .i64 (i : Int)), (4, .pointer (some ⟨g4, 0, none⟩)), (32, .bool (decide ((100 : Int) < (l[i].name.size : Nat)) || decide ((15 : Int) < (l[i].slots.length : Nat))))]) (H' := [.blk g4 168 (l[i].cells (.slice B21 l[i].slots.length d21)), .blk g1 24 [.slice A l.length c0]]) ?_ ?_
   ·refine go 6 ?_
    refine sxb 27 rfl (fun h27 p27 => ?_) (fun h27 p27 => ?_)
    ·refine go 7 ?_
     exact q_cut ⟨rfl, rfl, rfl, (congrArg (fun b => some (Value.bool b)) (by simp only [h15, h27, bS])), trivial⟩ rfl rfl
    ·refine go 7 ?_
     exact q_cut ⟨rfl, rfl, rfl, (congrArg (fun b => some (Value.bool b)) (by simp only [h15, h27, bS])), trivial⟩ rfl rfl
   ·refine cb rfl (fun h32 p32 => ?_) (fun h32 p32 => ?_)
    ·refine go 12 ?_
     refine fin1 rfl rfl ?_
     exact q_v (congrArg Value.bool (by simp only [fewC, allP_not (f := fun _ k => fewKind k) hlt (show fewKind l[i] = false by simp only [fewKind, h32, bS]), bS]))
    ·refine go 8 ?_
     refine c_loop (α := Nat) 0 (fun j => I)
      (fun j => [(1, .pointer (some ⟨g1, 0, none⟩)), (3, .int .i64 (i : Int)), (4, .pointer (some ⟨g4, 0, none⟩)), (5, .int .i64 (j : Int))])
      (fun j => [.blk g4 168 (l[i].cells (.slice B21 l[i].slots.length d21)), .blk g1 24 [.slice A l.length c0]])
      (fun j => j ≤ l[i].slots.length ∧ allP (fun _ s => fewSlot s) l[i].slots j = true)
      (fun j => l[i].slots.length - j) ⟨Nat.zero_le _, rfl⟩ rfl sb rfl ?_
     intro j ⟨hj, hq⟩
     refine go 10 ?_
     refine cb rfl (fun h37 p37 => ?_) (fun h37 p37 => ?_)
     ·have hltj : j < l[i].slots.length := by omega
      refine go 6 ?_
      refine c_cut (I' := I) (L' := [(1, .pointer (some ⟨g1, 0, none⟩)), (3, .int .i64 (i : Int)), (4, .pointer (some ⟨g4, 0, none⟩)), (5, .int .i64 (j : Int)), (57, .bool (decide ((100 : Int) < (l[i].slots[j].name.size : Nat)) || decide ((15 : Int) < (l[i].slots[j].kinds.length : Nat))))]) (H' := [.blk g4 168 (l[i].cells (.slice B21 l[i].slots.length d21)), .blk g1 24 [.slice A l.length c0]]) ?_ ?_
      ·refine go 4 ?_
       obtain ⟨b43, o43, w43, e43, c43, r43⟩ := RdA.at_ hB21 (i := j) hltj
       obtain ⟨q43, rfl, B43, d43, rfl, hB43, hd43, hm43⟩ := r43
       refine o_v rfl (v_idx he rfl rfl e43 (j) (by omega) hltj) ?_
       refine go 1 ?_
       refine o_v rfl (v_ldI he rfl (c43 0 _ rfl)) ?_
       refine go 3 ?_
       refine sxb 48 rfl (fun h48 p48 => ?_) (fun h48 p48 => ?_)
       ·refine go 11 ?_
        exact q_cut ⟨rfl, rfl, rfl, rfl, (congrArg (fun b => some (Value.bool b)) (by simp only [h37, h48, bS])), trivial⟩ rfl rfl
       ·refine go 3 ?_
        obtain ⟨b52, o52, w52, e52, c52, r52⟩ := RdA.at_ hB21 (i := j) hltj
        obtain ⟨q52, rfl, B52, d52, rfl, hB52, hd52, hm52⟩ := r52
        refine o_cons (o_yes rfl rfl h48 (o_val rfl (v_idx he rfl rfl e52 (j) (by omega) hltj) ?_))
        refine go 1 ?_
        refine o_cons (o_yes rfl rfl h48 (o_val rfl (v_ldI he rfl (c52 1 _ rfl)) ?_))
        refine go 5 ?_
        exact q_cut ⟨rfl, rfl, rfl, rfl, (congrArg (fun b => some (Value.bool b)) (by simp only [h37, h48, bS])), trivial⟩ rfl rfl
      ·refine cb rfl (fun h57 p57 => ?_) (fun h57 p57 => ?_)
       ·refine go 16 ?_
        refine fin1 rfl rfl ?_
        exact q_v (congrArg Value.bool (by simp only [fewC, allP_not (f := fun _ k => fewKind k) hlt (show fewKind l[i] = false by simp only [fewKind, allP_not (f := fun _ s => fewSlot s) hltj (show fewSlot l[i].slots[j] = false by simp only [fewSlot, h57]; rfl), bS]), bS]))
       ·refine go 8 ?_
        refine c_loop (α := Nat) 0 (fun m => I)
         (fun m => [(1, .pointer (some ⟨g1, 0, none⟩)), (3, .int .i64 (i : Int)), (4, .pointer (some ⟨g4, 0, none⟩)), (5, .int .i64 (j : Int)), (6, .int .i64 (m : Int))])
         (fun m => [.blk g4 168 (l[i].cells (.slice B21 l[i].slots.length d21)), .blk g1 24 [.slice A l.length c0]])
         (fun m => m ≤ l[i].slots[j].kinds.length ∧ allP (fun _ k => !decide ((100 : Int) < ((k : ByteArray).size : Nat))) l[i].slots[j].kinds m = true)
         (fun m => l[i].slots[j].kinds.length - m) ⟨Nat.zero_le _, rfl⟩ rfl sb rfl ?_
        intro m ⟨hmm, hr⟩
        refine go 7 ?_
        obtain ⟨b62, o62, w62, e62, c62, r62⟩ := RdA.at_ hB21 (i := j) hltj
        obtain ⟨q62, rfl, B62, d62, rfl, hB62, hd62, hm62⟩ := r62
        refine o_v rfl (v_idx he rfl rfl e62 (j) (by omega) hltj) ?_
        refine go 1 ?_
        refine o_v rfl (v_ldI he rfl (c62 1 _ rfl)) ?_
        refine go 4 ?_
        refine cb rfl (fun h66 p66 => ?_) (fun h66 p66 => ?_)
        ·have hltm : m < l[i].slots[j].kinds.length := by omega
         refine go 9 ?_
         obtain ⟨b72, o72, w72, e72, c72, r72⟩ := RdA.at_ hB21 (i := j) hltj
         obtain ⟨q72, rfl, B72, d72, rfl, hB72, hd72, hm72⟩ := r72
         refine o_v rfl (v_idx he rfl rfl e72 (j) (by omega) hltj) ?_
         refine go 1 ?_
         refine o_v rfl (v_ldI he rfl (c72 1 _ rfl)) ?_
         refine go 1 ?_
         obtain ⟨b76, o76, w76, e76, c76, r76⟩ := RdA.at_ hB72 (i := m) hltm
         obtain rfl := r76
         refine o_v rfl (v_idx he rfl rfl e76 (m) (by omega) hltm) ?_
         refine o_v rfl (v_ldI he rfl (c76 0 _ rfl)) ?_
         refine go 4 ?_
         refine cb rfl (fun h79 p79 => ?_) (fun h79 p79 => ?_)
         ·refine go 19 ?_
          refine fin1 rfl rfl ?_
          exact q_v (congrArg Value.bool (by simp only [fewC, allP_not (f := fun _ k => fewKind k) hlt (show fewKind l[i] = false by simp only [fewKind, allP_not (f := fun _ s => fewSlot s) hltj (show fewSlot l[i].slots[j] = false by simp only [fewSlot, allP_not (f := fun _ k => !decide ((100 : Int) < ((k : ByteArray).size : Nat))) hltm (show (!decide ((100 : Int) < ((l[i].slots[j].kinds[m]).size : Nat))) = false by simp only [h79]; rfl), bS]), bS]), bS]))
         ·refine go 9 ?_
          exact q_next (m + 1) ⟨by omega, allP_succ hr hltm (by simp only [h79]; rfl)⟩ (by omega) rfl sb rfl
        ·refine go 12 ?_
         exact q_next (j + 1) ⟨by omega, allP_succ hq hltj (by simp only [fewSlot, h57, (show m = l[i].slots[j].kinds.length by omega) ▸ hr]; rfl)⟩ (by omega) rfl sb rfl
     ·refine go 12 ?_
      refine sx_drop ?_
      exact q_next (i + 1) ⟨by omega, allP_succ hn hlt (by simp only [fewKind, h32, (show j = l[i].slots.length by omega) ▸ hq]; rfl)⟩ (by omega) rfl sb rfl
  ·refine go 11 ?_
   refine fin1 rfl rfl ?_
   have e : i = l.length := (by omega)
   subst e
   exact q_v (congrArg Value.bool (by simp only [fewC, hn, h10]; rfl))

end Go.Proofs.YtdapmfkbpnjkmaaGreat

/- Walks, printed by a program out of the code of the functions: each theorem is a contract of one function. -/
namespace Go.Proofs.YtdapmfkbpnjkmaaGreat
open Go Go.Sx
set_option linter.all false
set_option maxRecDepth 20000
set_option maxHeartbeats 4000000
instance T.arr_199 : Has (arrK Tryz.prog 199) (3, 198, 1) := ⟨by kernel_rfl⟩
instance T.arr_264 : Has (arrK Tryz.prog 264) (8, 9, 1) := ⟨by kernel_rfl⟩
theorem T.eqg_96 : Tryz.prog.eqGuardType Tryz.prog.depth 96 = false := by kernel_rfl
instance T.fld_44_0 : Has (fldK Tryz.prog 44 0) (0, false, 1) := ⟨by kernel_rfl⟩
instance T.fld_44_1 : Has (fldK Tryz.prog 44 1) (1, false, 1) := ⟨by kernel_rfl⟩
instance T.fld_94_0 : Has (fldK Tryz.prog 94 0) (0, true, 2) := ⟨by kernel_rfl⟩
instance T.fld_94_1 : Has (fldK Tryz.prog 94 1) (2, true, 2) := ⟨by kernel_rfl⟩
instance T.fld_94_2 : Has (fldK Tryz.prog 94 2) (4, true, 2) := ⟨by kernel_rfl⟩
instance T.fld_96_0 : Has (fldK Tryz.prog 96 0) (0, false, 1) := ⟨by kernel_rfl⟩
instance T.fld_96_1 : Has (fldK Tryz.prog 96 1) (1, false, 1) := ⟨by kernel_rfl⟩
instance T.fld_96_2 : Has (fldK Tryz.prog 96 2) (2, false, 1) := ⟨by kernel_rfl⟩
instance T.fld_96_3 : Has (fldK Tryz.prog 96 3) (3, false, 1) := ⟨by kernel_rfl⟩
instance T.fld_96_4 : Has (fldK Tryz.prog 96 4) (4, false, 1) := ⟨by kernel_rfl⟩
instance T.fld_96_5 : Has (fldK Tryz.prog 96 5) (5, false, 1) := ⟨by kernel_rfl⟩
instance T.fld_96_6 : Has (fldK Tryz.prog 96 6) (6, false, 1) := ⟨by kernel_rfl⟩
instance T.fld_96_7 : Has (fldK Tryz.prog 96 7) (7, false, 1) := ⟨by kernel_rfl⟩
instance T.fld_96_8 : Has (fldK Tryz.prog 96 8) (8, true, 6) := ⟨by kernel_rfl⟩
instance T.pl_94 : Has (plK Tryz.prog 94) [(0, 2), (2, 2), (4, 2)] := ⟨by kernel_rfl⟩
instance T.pl_96 : Has (plK Tryz.prog 96) [(0, 1), (1, 1), (2, 1), (3, 1), (4, 1), (5, 1), (6, 1), (7, 1), (8, 6)] := ⟨by kernel_rfl⟩
instance T.ty_198 : Has (tyK Tryz.prog 198) (false, 1) := ⟨by kernel_rfl⟩
instance T.ty_199 : Has (tyK Tryz.prog 199) (true, 3) := ⟨by kernel_rfl⟩
instance T.ty_264 : Has (tyK Tryz.prog 264) (true, 8) := ⟨by kernel_rfl⟩
instance T.ty_94 : Has (tyK Tryz.prog 94) (true, 6) := ⟨by kernel_rfl⟩
instance T.zero_199 : Has (zeroK Tryz.prog 199) [.pointer none, .pointer none, .pointer none] := ⟨by kernel_rfl⟩
instance T.zero_264 : Has (zeroK Tryz.prog 264) [.string ⟨#[]⟩, .string ⟨#[]⟩, .string ⟨#[]⟩, .string ⟨#[]⟩, .string ⟨#[]⟩, .string ⟨#[]⟩, .string ⟨#[]⟩, .string ⟨#[]⟩] := ⟨by kernel_rfl⟩
instance T.zero_94 : Has (zeroK Tryz.prog 94) [.int .i64 0, .int .i64 0, .int .i64 0, .int .i64 0, .int .i64 0, .int .i64 0] := ⟨by kernel_rfl⟩
instance T.zero_96 : Has (zeroK Tryz.prog 96) [.int .i64 0, .int .i64 0, .string ⟨#[]⟩, .string ⟨#[]⟩, .string ⟨#[]⟩, .string ⟨#[]⟩, .string ⟨#[]⟩, .string ⟨#[]⟩, .int .i64 0, .int .i64 0, .int .i64 0, .int .i64 0, .int .i64 0, .int .i64 0] := ⟨by kernel_rfl⟩
theorem eqS_Evt (a b : Evt) : eqV Tryz.prog 9 96 (.agg a.cells.toArray) (.agg b.cells.toArray) = some (decide (a = b)) := by
  rw [← Evt.eqB_eq]
  kernel_rfl

theorem evWord (I : IMap) (op : Int) :
    FnV Tryz.prog 125 #[.int .i64 op] I (.string (wordOf op)) := by
 refine enter Tryz.func125 Tryz.call125 rfl Tryz.ntmps125 rfl (fun w0 => ?_)
 refine go 8 ?_
 refine o_val rfl (v_buildA he he rfl rfl) ?_
 refine go 1 ?_
 refine o_alloc he rfl (fun g3 => ?_)
 refine go 1 ?_
 refine o_stw _ he rfl rfl rfl rfl rfl rfl ?_
 refine go 8 ?_
 refine sxb 7 rfl (fun h7 p7 => ?_) (fun h7 p7 => ?_)
 ·refine go 5 ?_
  refine c_true rfl ?_
  refine go 7 ?_
  refine fin1 rfl rfl ?_
  exact q_v (congrArg Value.string (wordOf_out (by omega)).symm)
 ·refine go 5 ?_
  refine cb rfl (fun h10 p10 => ?_) (fun h10 p10 => ?_)
  ·refine go 7 ?_
   refine fin1 rfl rfl ?_
   exact q_v (congrArg Value.string (wordOf_out (by omega)).symm)
  ·refine go 5 ?_
   refine o_v rfl (v_aidx he rfl rfl op.toNat (by omega) (by omega)) ?_
   refine o_v rfl (v_ld m0 he rfl (by rw [show 0 + op.toNat * 1 = op.toNat from by omega]; exact wordOf_at (by omega) (by omega))) ?_
   refine go 4 ?_
   refine fin1 rfl rfl ?_
   exact q_v rfl

theorem evIvls (I : IMap) (g o : Nat) :
    FnV Tryz.prog 127 #[.pointer (some ⟨g, o, none⟩)] I (.agg #[.pointer (some ⟨g, o + 0, none⟩), .pointer (some ⟨g, o + 2, none⟩), .pointer (some ⟨g, o + 4, none⟩)]) := by
 refine enter Tryz.func127 Tryz.call127 rfl Tryz.ntmps127 rfl (fun w0 => ?_)
 refine go 3 ?_
 refine o_alloc he rfl (fun g2 => ?_)
 refine go 3 ?_
 refine d_start1 T.mixed ?_
 refine d_tv 0 rfl rfl (by kernel_rfl) rfl (.cons _ .slnil) rfl (v_move rfl) ?_
 refine d_tv 1 rfl rfl (by kernel_rfl) rfl (.cons _ .slnil) rfl (v_nilCheck rfl) ?_
 refine d_tv 2 rfl rfl (by kernel_rfl) rfl (.cons _ .slnil) rfl (v_fieldAddr he rfl) ?_
 refine d_tv 3 rfl rfl (by kernel_rfl) rfl (.cons _ .slnil) rfl (v_move rfl) ?_
 refine d_tv 4 rfl rfl (by kernel_rfl) rfl (.cons _ .slnil) rfl (v_nilCheck rfl) ?_
 refine d_tv 5 rfl rfl (by kernel_rfl) rfl (.cons _ .slnil) rfl (v_fieldAddr he rfl) ?_
 refine d_tv 6 rfl rfl (by kernel_rfl) rfl (.cons _ .slnil) rfl (v_move rfl) ?_
 refine d_tv 7 rfl rfl (by kernel_rfl) rfl (.cons _ .slnil) rfl (v_nilCheck rfl) ?_
 refine d_tv 8 rfl rfl (by kernel_rfl) rfl (.cons _ .slnil) rfl (v_fieldAddr he rfl) ?_
 refine d_one 9 (by kernel_rfl) rfl ?_
 refine o_val rfl (v_buildA he he rfl rfl) ?_
 refine d_on (fun _ m => m.keeps (.cons _ .slnil)) ?_
 refine d_one 10 (by kernel_rfl) rfl ?_
 refine o_stw _ he rfl rfl rfl rfl rfl rfl ?_
 refine d_on (fun _ m => m.keeps (.cons _ .slnil)) ?_
 refine d_done (by kernel_rfl) ?_
 refine go 2 ?_
 refine fin1 rfl ⟨_, _, _, rfl, m0, .inr ⟨_, he, rfl, rfl⟩⟩ ?_
 exact q_v rfl

theorem evValid1 (I : IMap) (s : ByteArray) (hs : Sm s) :
    FnV Tryz.prog 129 #[.string s] I (.bool (!nameOk s)) := by
 refine enter Tryz.func129 Tryz.call129 rfl Tryz.ntmps129 rfl (fun w0 => ?_)
 refine go 9 ?_
 refine o_callV (lexName _ s hs) rfl rfl ?_
 refine go 5 ?_
 refine fin1 rfl rfl ?_
 exact q_v rfl

theorem evValid (I : IMap) (e : Evt) (hs : SmE e) :
    FnV Tryz.prog 71 #[.agg e.cells.toArray] I (.bool (validE e)) := by
 refine enter Tryz.func71 Tryz.call71 rfl Tryz.ntmps71 rfl (fun w0 => ?_)
 refine go 3 ?_
 refine o_box _ rfl rfl rfl (fun g1 => ?_)
 refine go 5 ?_
 refine c_cut (I' := I) (L' := [(1, .pointer (some ⟨g1, 0, none⟩)), (26, .bool (evBad e))]) (H' := [.blk g1 96 e.cells]) ?_ ?_
 ·refine go 4 ?_
  refine o_callV (evWord _ e.op) rfl rfl ?_
  refine go 2 ?_
  refine sxb 11 rfl (fun h11 p11 => ?_) (fun h11 p11 => ?_)
  ·refine go 17 ?_
   exact q_cut ⟨rfl, (congrArg (fun b => some (Value.bool b)) (by simp only [evBad, h11, bS])), trivial⟩ rfl rfl
  ·refine go 5 ?_
   refine sxb 16 rfl (fun h16 p16 => ?_) (fun h16 p16 => ?_)
   ·refine go 12 ?_
    exact q_cut ⟨rfl, (congrArg (fun b => some (Value.bool b)) (by simp only [evBad, h11, h16, bS])), trivial⟩ rfl rfl
   ·refine go 5 ?_
    refine sxb 21 rfl (fun h21 p21 => ?_) (fun h21 p21 => ?_)
    ·refine go 7 ?_
     exact q_cut ⟨rfl, (congrArg (fun b => some (Value.bool b)) (by simp only [evBad, h11, h16, h21, bS])), trivial⟩ rfl rfl
    ·refine go 3 ?_
     refine o_yes rfl rfl h21 (o_callV (lexName _ _ hs.1) rfl rfl ?_)
     refine go 4 ?_
     exact q_cut ⟨rfl, (congrArg (fun b => some (Value.bool b)) (by simp only [evBad, h11, h16, h21, bS])), trivial⟩ rfl rfl
 ·refine cb rfl (fun h26 p26 => ?_) (fun h26 p26 => ?_)
  ·refine go 7 ?_
   refine fin1 rfl rfl ?_
   exact q_v (congrArg Value.bool (by simp only [validE, h26]; rfl))
  ·refine go 5 ?_
   refine o_buildSlice he he rfl rfl rfl rfl rfl rfl rfl (fun v27 => ?_)
   refine go 7 ?_
   refine o_alloc he rfl (fun g4 => ?_)
   refine go 1 ?_
   refine o_stw _ he rfl rfl rfl rfl rfl rfl ?_
   refine go 6 ?_
   refine o_st1 he rfl rfl rfl rfl ?_
   refine go 2 ?_
   refine o_st1 he rfl rfl rfl rfl ?_
   refine go 2 ?_
   refine o_st1 he rfl rfl rfl rfl ?_
   refine go 3 ?_
   refine c_cutx2 (Ix := (fun v3 xs => I)) (Lx := (fun v3 xs => [(3, v3), (4, .pointer (some ⟨g4, 0, none⟩))])) (Hx := (fun v3 xs => [.row v3 9 1 (namesOf e).length xs, .blk g4 96 (restOf e).cells])) (p := (fun v3 xs => Flat I xs (namesOf e) ∧ opBad e = false)) ?_ ?_
   ·refine go 13 ?_
    refine cb rfl (fun h34 p34 => ?_) (fun h34 p34 => ?_)
    ·refine go 4 ?_
     refine o_buildSlice he he rfl rfl rfl rfl rfl rfl rfl (fun v38 => ?_)
     refine go 3 ?_
     refine bring1 ?_
     refine o_st1 he rfl rfl rfl rfl ?_
     refine go 3 ?_
     refine bring2 ?_
     refine sx_drop ?_
     refine bring2 ?_
     refine sx_drop ?_
     refine bring1 ?_
     exact q_cutx2 (_) (_) ⟨(by simp only [namesOf, p26, p34, if_true, if_false]; first | exact .nil | exact .one rfl | exact .cons rfl (.one rfl)), (by simp [opBad, p26, p34, h26, h34] <;> assumption)⟩ sb (by simp only [namesOf, restOf, p26, p34, if_true, if_false]; rfl) rfl
    ·refine go 6 ?_
     refine cb rfl (fun h40 p40 => ?_) (fun h40 p40 => ?_)
     ·refine go 10 ?_
      refine cb rfl (fun h46 p46 => ?_) (fun h46 p46 => ?_)
      ·refine go 9 ?_
       refine fin1 rfl rfl ?_
       exact q_v (congrArg Value.bool (by simp [validE, opBad, p26, p34, p40, p46, h26, h34, h40, h46]))
      ·refine go 8 ?_
       refine o_buildSlice he he rfl rfl rfl rfl rfl rfl rfl (fun v51 => ?_)
       refine go 3 ?_
       refine bring1 ?_
       refine o_st1 he rfl rfl rfl rfl ?_
       refine go 2 ?_
       refine o_st1 he rfl rfl rfl rfl ?_
       refine go 3 ?_
       refine bring2 ?_
       refine sx_drop ?_
       refine bring2 ?_
       refine sx_drop ?_
       refine bring1 ?_
       exact q_cutx2 (_) (_) ⟨(by simp only [namesOf, p26, p34, p40, p46, if_true, if_false]; first | exact .nil | exact .one rfl | exact .cons rfl (.one rfl)), (by simp [opBad, p26, p34, p40, p46, h26, h34, h40, h46] <;> assumption)⟩ sb (by simp only [namesOf, restOf, p26, p34, p40, p46, if_true, if_false]; rfl) rfl
     ·refine go 6 ?_
      refine cb rfl (fun h54 p54 => ?_) (fun h54 p54 => ?_)
      ·refine go 2 ?_
       refine c_cut (I' := I) (L' := [(1, .pointer (some ⟨g1, 0, none⟩)), (3, v27), (4, .pointer (some ⟨g4, 0, none⟩)), (64, .bool (decide (e.value = nil8) || decide ((200 : Int) < (e.value.size : Nat))))]) (H' := [.row v27 9 1 0 [], .blk g1 96 e.cells, .blk g4 96 ({ e with op := 0, day := 0, part := nil8 } : Evt).cells]) ?_ ?_
       ·refine go 5 ?_
        refine sxb 59 rfl (fun h59 p59 => ?_) (fun h59 p59 => ?_)
        ·refine go 7 ?_
         refine bring2 ?_
         refine bring2 ?_
         exact q_cut ⟨rfl, rfl, rfl, (congrArg (fun b => some (Value.bool b)) (by simp only [h26, h34, h40, h54, h59, bS])), trivial⟩ rfl rfl
        ·refine go 7 ?_
         refine bring2 ?_
         refine bring2 ?_
         exact q_cut ⟨rfl, rfl, rfl, (congrArg (fun b => some (Value.bool b)) (by simp only [h26, h34, h40, h54, h59, bS])), trivial⟩ rfl rfl
       ·refine cb rfl (fun h64 p64 => ?_) (fun h64 p64 => ?_)
        ·refine go 9 ?_
         refine fin1 rfl rfl ?_
         exact q_v (congrArg Value.bool (by simp [validE, opBad, p54, h64]))
        ·refine go 6 ?_
         refine o_buildSlice he he rfl rfl rfl rfl rfl rfl rfl (fun v67 => ?_)
         refine go 3 ?_
         refine bring3 ?_
         refine o_st1 he rfl rfl rfl rfl ?_
         refine go 2 ?_
         refine o_st1 he rfl rfl rfl rfl ?_
         refine go 3 ?_
         refine bring2 ?_
         refine sx_drop ?_
         refine bring2 ?_
         refine sx_drop ?_
         refine bring1 ?_
         exact q_cutx2 (_) (_) ⟨(by simp only [namesOf, p26, p34, p40, p54, p64, if_true, if_false]; first | exact .nil | exact .one rfl | exact .cons rfl (.one rfl)), (by simp [opBad, p26, p34, p40, p54, p64, h64] <;> assumption)⟩ sb (by simp only [namesOf, restOf, p26, p34, p40, p54, p64, if_true, if_false]; rfl) rfl
      ·refine go 6 ?_
       refine cb rfl (fun h70 p70 => ?_) (fun h70 p70 => ?_)
       ·refine go 5 ?_
        refine o_callV (evIvls _ g1 8) rfl rfl ?_
        refine go 4 ?_
        refine bring1 ?_
        refine bring1 ?_
        refine bring2 ?_
        refine c_loop (α := Nat) 0 (fun i => I)
         (fun i => [(1, .pointer (some ⟨g1, 0, none⟩)), (3, v27), (4, .pointer (some ⟨g4, 0, none⟩)), (73, .agg (usePtrs g1 8).toArray), (74, .int .i64 (i : Int))])
         (fun i => [.blk g1 96 e.cells, .blk g4 96 ({ e with op := 0, day := 0, part := nil8 } : Evt).cells, .row v27 9 1 0 []])
         (fun i => i ≤ 3 ∧ useTo e.use i = true)
         (fun i => 3 - i) ⟨by omega, rfl⟩ rfl sb rfl ?_
        intro i ⟨hi, hn⟩
        refine go 6 ?_
        refine cb rfl (fun h75 p75 => ?_) (fun h75 p75 => ?_)
        ·have hlt : i < 3 := by omega
         refine go 6 ?_
         refine o_v rfl (v_vidx he he rfl rfl i rfl hlt (usePtrs_at g1 8 hlt)) ?_
         refine go 4 ?_
         refine c_cut (I' := I) (L' := [(1, .pointer (some ⟨g1, 0, none⟩)), (3, v27), (4, .pointer (some ⟨g4, 0, none⟩)), (73, .agg (usePtrs g1 8).toArray), (74, .int .i64 (i : Int)), (99, .bool (!ivlOk (useAt e.use i)))]) (H' := [.blk g1 96 e.cells, .blk g4 96 ({ e with op := 0, day := 0, part := nil8 } : Evt).cells, .row v27 9 1 0 []]) ?_ ?_
         ·refine d_startH T.mixed ?_
          refine d_tv 0 rfl rfl (by kernel_rfl) rfl (.refl _) rfl (v_move rfl) ?_
          refine d_tv 1 rfl rfl (by kernel_rfl) rfl (.refl _) rfl (v_nilCheck rfl) ?_
          refine d_tv 2 rfl rfl (by kernel_rfl) rfl (.refl _) rfl (v_fieldAddr he rfl) ?_
          refine d_tv 3 rfl rfl (by kernel_rfl) rfl (.refl _) rfl (v_ld m0 he rfl (use_low e hlt)) ?_
          refine d_tv 4 rfl rfl (by kernel_rfl) rfl (.refl _) rfl (v_lss rfl rfl) ?_
          refine d_tv 5 rfl rfl (by kernel_rfl) rfl (.refl _) rfl (v_move rfl) ?_
          refine sxb 82 rfl (fun h82 p82 => ?_) (fun h82 p82 => ?_)
          ·refine d_t 6 rfl rfl (by kernel_rfl) rfl (fun _ m => m.keeps (.refl _)) (y_no rfl rfl h82) ?_
           refine d_t 7 rfl rfl (by kernel_rfl) rfl (fun _ m => m.keeps (.refl _)) (y_no rfl rfl h82) ?_
           refine d_t 8 rfl rfl (by kernel_rfl) rfl (fun _ m => m.keeps (.refl _)) (y_no rfl rfl h82) ?_
           refine d_t 9 rfl rfl (by kernel_rfl) rfl (fun _ m => m.keeps (.refl _)) (y_no rfl rfl h82) ?_
           refine d_t 10 rfl rfl (by kernel_rfl) rfl (fun _ m => m.keeps (.refl _)) (y_no rfl rfl h82) ?_
           refine d_t 11 rfl rfl (by kernel_rfl) rfl (fun _ m => m.keeps (.refl _)) (y_no rfl rfl h82) ?_
           refine d_t 12 rfl rfl (by kernel_rfl) rfl (fun _ m => m.keeps (.refl _)) (y_no rfl rfl h82) ?_
           refine d_t 13 rfl rfl (by kernel_rfl) rfl (fun _ m => m.keeps (.refl _)) (y_no rfl rfl h82) ?_
           refine d_t 14 rfl rfl (by kernel_rfl) rfl (fun _ m => m.keeps (.refl _)) (y_no rfl rfl h82) ?_
           refine d_tv 15 rfl rfl (by kernel_rfl) rfl (.refl _) rfl (v_or_t h82 rfl) ?_
           refine d_tv 16 rfl rfl (by kernel_rfl) rfl (.refl _) rfl (v_move rfl) ?_
           refine d_t 17 rfl rfl (by kernel_rfl) rfl (fun _ m => m.keeps (.refl _)) (y_no rfl rfl rfl) ?_
           refine d_t 18 rfl rfl (by kernel_rfl) rfl (fun _ m => m.keeps (.refl _)) (y_no rfl rfl rfl) ?_
           refine d_t 19 rfl rfl (by kernel_rfl) rfl (fun _ m => m.keeps (.refl _)) (y_no rfl rfl rfl) ?_
           refine d_t 20 rfl rfl (by kernel_rfl) rfl (fun _ m => m.keeps (.refl _)) (y_no rfl rfl rfl) ?_
           refine d_t 21 rfl rfl (by kernel_rfl) rfl (fun _ m => m.keeps (.refl _)) (y_no rfl rfl rfl) ?_
           refine d_tv 22 rfl rfl (by kernel_rfl) rfl (.refl _) rfl (v_or_t rfl rfl) ?_
           refine d_done (by kernel_rfl) ?_
           refine go 1 ?_
           exact q_cut ⟨rfl, rfl, rfl, rfl, rfl, (congrArg (fun b => some (Value.bool b)) (by simp only [ivlOk, h75, h82, bS, Bool.not_not])), trivial⟩ rfl rfl
          ·refine d_t 6 rfl rfl (by kernel_rfl) rfl (fun _ m => m.keeps (.refl _)) (y_yes rfl rfl h82 (v_move rfl)) ?_
           refine d_t 7 rfl rfl (by kernel_rfl) rfl (fun _ m => m.keeps (.refl _)) (y_yes rfl rfl h82 (v_nilCheck rfl)) ?_
           refine d_t 8 rfl rfl (by kernel_rfl) rfl (fun _ m => m.keeps (.refl _)) (y_yes rfl rfl h82 (v_fieldAddr he rfl)) ?_
           refine d_t 9 rfl rfl (by kernel_rfl) rfl (fun _ m => m.keeps (.refl _)) (y_yes rfl rfl h82 (v_ld m0 he rfl (use_low e hlt))) ?_
           refine d_t 10 rfl rfl (by kernel_rfl) rfl (fun _ m => m.keeps (.refl _)) (y_yes rfl rfl h82 (v_move rfl)) ?_
           refine d_t 11 rfl rfl (by kernel_rfl) rfl (fun _ m => m.keeps (.refl _)) (y_yes rfl rfl h82 (v_nilCheck rfl)) ?_
           refine d_t 12 rfl rfl (by kernel_rfl) rfl (fun _ m => m.keeps (.refl _)) (y_yes rfl rfl h82 (v_fieldAddr he rfl)) ?_
           refine d_t 13 rfl rfl (by kernel_rfl) rfl (fun _ m => m.keeps (.refl _)) (y_yes rfl rfl h82 (v_ld m0 he rfl (use_high e hlt))) ?_
           refine d_t 14 rfl rfl (by kernel_rfl) rfl (fun _ m => m.keeps (.refl _)) (y_yes rfl rfl h82 (v_gtr rfl rfl)) ?_
           refine d_tv 15 rfl rfl (by kernel_rfl) rfl (.refl _) rfl (v_or_f h82 rfl rfl) ?_
           refine d_tv 16 rfl rfl (by kernel_rfl) rfl (.refl _) rfl (v_move rfl) ?_
           refine sxb 93 rfl (fun h93 p93 => ?_) (fun h93 p93 => ?_)
           ·refine d_t 17 rfl rfl (by kernel_rfl) rfl (fun _ m => m.keeps (.refl _)) (y_no rfl rfl h93) ?_
            refine d_t 18 rfl rfl (by kernel_rfl) rfl (fun _ m => m.keeps (.refl _)) (y_no rfl rfl h93) ?_
            refine d_t 19 rfl rfl (by kernel_rfl) rfl (fun _ m => m.keeps (.refl _)) (y_no rfl rfl h93) ?_
            refine d_t 20 rfl rfl (by kernel_rfl) rfl (fun _ m => m.keeps (.refl _)) (y_no rfl rfl h93) ?_
            refine d_t 21 rfl rfl (by kernel_rfl) rfl (fun _ m => m.keeps (.refl _)) (y_no rfl rfl h93) ?_
            refine d_tv 22 rfl rfl (by kernel_rfl) rfl (.refl _) rfl (v_or_t h93 rfl) ?_
            refine d_done (by kernel_rfl) ?_
            refine go 1 ?_
            exact q_cut ⟨rfl, rfl, rfl, rfl, rfl, (congrArg (fun b => some (Value.bool b)) (by simp only [ivlOk, h75, h82, h93, bS, Bool.not_not])), trivial⟩ rfl rfl
           ·refine d_t 17 rfl rfl (by kernel_rfl) rfl (fun _ m => m.keeps (.refl _)) (y_yes rfl rfl h93 (v_move rfl)) ?_
            refine d_t 18 rfl rfl (by kernel_rfl) rfl (fun _ m => m.keeps (.refl _)) (y_yes rfl rfl h93 (v_nilCheck rfl)) ?_
            refine d_t 19 rfl rfl (by kernel_rfl) rfl (fun _ m => m.keeps (.refl _)) (y_yes rfl rfl h93 (v_fieldAddr he rfl)) ?_
            refine d_t 20 rfl rfl (by kernel_rfl) rfl (fun _ m => m.keeps (.refl _)) (y_yes rfl rfl h93 (v_ld m0 he rfl (use_high e hlt))) ?_
            refine d_t 21 rfl rfl (by kernel_rfl) rfl (fun _ m => m.keeps (.refl _)) (y_yes rfl rfl h93 (v_gtr rfl rfl)) ?_
            refine d_tv 22 rfl rfl (by kernel_rfl) rfl (.refl _) rfl (v_or_f h93 rfl rfl) ?_
            refine d_done (by kernel_rfl) ?_
            refine go 1 ?_
            exact q_cut ⟨rfl, rfl, rfl, rfl, rfl, (congrArg (fun b => some (Value.bool b)) (by simp only [ivlOk, h75, h82, h93, bS, Bool.not_not])), trivial⟩ rfl rfl
         ·refine cb rfl (fun h99 p99 => ?_) (fun h99 p99 => ?_)
          ·refine go 13 ?_
           refine fin1 rfl rfl ?_
           exact q_v (congrArg Value.bool (by simp [validE, opBad, p70, use_not hlt (by simpa using h99)]))
          ·refine go 8 ?_
           exact q_next (i + 1) ⟨by omega, use_succ hn (by simpa using h99)⟩ (by omega) rfl sb rfl
        ·have hU : useTo e.use 3 = true := (show i = 3 by omega) ▸ hn
         refine go 7 ?_
         refine o_val rfl (v_build (pl := [(0, 2), (2, 2), (4, 2)]) he he rfl rfl) ?_
         refine go 2 ?_
         refine bring1 ?_
         refine o_st _ _ he rfl rfl rfl rfl rfl rfl rfl ?_
         refine go 3 ?_
         refine bring1 ?_
         refine sx_drop ?_
         refine bring1 ?_
         exact q_cutx2 (_) (_) ⟨(by simp only [namesOf, p26, p34, p40, p54, p70, p75, if_true, if_false]; first | exact .nil | exact .one rfl | exact .cons rfl (.one rfl)), (by simp [opBad, p26, p34, p40, p54, p70, p75, h75] <;> assumption)⟩ sb (by simp only [namesOf, restOf, p26, p34, p40, p54, p70, p75, if_true, if_false]; rfl) rfl
       ·refine go 3 ?_
        refine bring2 ?_
        refine sx_drop ?_
        refine bring1 ?_
        exact q_cutx2 (_) (_) ⟨(by simp only [namesOf, p26, p34, p40, p54, p70, if_true, if_false]; first | exact .nil | exact .one rfl | exact .cons rfl (.one rfl)), (by simp [opBad, p26, p34, p40, p54, p70, h26, h34, h40, h54, h70] <;> assumption)⟩ sb (by simp only [namesOf, restOf, p26, p34, p40, p54, p70, if_true, if_false]; rfl) rfl
   ·intro v3 xs ⟨hF, hO⟩
    refine go 4 ?_
    refine o_val rfl (v_build (pl := [(0, 1), (1, 1), (2, 1), (3, 1), (4, 1), (5, 1), (6, 1), (7, 1), (8, 6)]) he he rfl rfl) ?_
    refine o_v rfl (v_steql T.eqg_96 (eqS_Evt (restOf e) zEvt) rfl rfl) ?_
    refine go 1 ?_
    refine sxb 106 rfl (fun h106 p106 => ?_) (fun h106 p106 => ?_)
    ·refine go 2 ?_
     refine o_yes rfl rfl h106 (o_lendV m0 rfl rfl (hF) (fun I2 hI2 hR => containsFunc_string I2 _ _ hR _ [] (fun s => !nameOk s) (fun x hx vs hr => by cases hr; exact evValid1 I2 x (names_sm hs hx))) rfl rfl ?_)
     refine go 6 ?_
     refine fin1 rfl rfl ?_
     exact q_v (congrArg Value.bool (by simp only [validE, h26, hO, h106, bS]))
    ·refine go 8 ?_
     refine fin1 rfl rfl ?_
     exact q_v (congrArg Value.bool (by simp only [validE, h26, hO, h106, bS]))

theorem evNames (I : IMap) (e : Evt) (hs : SmE e) :
    FnI Tryz.prog 197 #[.agg e.cells.toArray] I (fun u J => RdS J u (namesE e)) := by
 refine enter Tryz.func197 Tryz.call197 rfl Tryz.ntmps197 rfl (fun w0 => ?_)
 refine go 3 ?_
 refine o_box _ rfl rfl rfl (fun g1 => ?_)
 refine go 9 ?_
 refine o_callV (evValid _ e hs) rfl rfl ?_
 refine go 4 ?_
 refine cb rfl (fun h3 p3 => ?_) (fun h3 p3 => ?_)
 ·refine go 8 ?_
  refine fin1 rfl rfl ?_
  exact q_i (by simp only [namesE, show validE e = false by simpa using h3, if_true]; exact RdS.nil')
 ·refine go 8 ?_
  refine cb rfl (fun h7 p7 => ?_) (fun h7 p7 => ?_)
  ·refine go 6 ?_
   refine o_v rfl (v_smin rfl rfl) ?_
   refine go 4 ?_
   refine o_v rfl (v_smax rfl rfl) ?_
   refine go 1 ?_
   refine o_buildSlice he he rfl rfl rfl rfl rfl rfl rfl (fun v21 => ?_)
   refine sx_pubrow (l := [minS e.part e.into, maxS e.part e.into]) rfl rfl (.cons rfl (.one rfl)) (fun I21 j21 R21 => ?_)
   refine go 6 ?_
   refine fin1 rfl rfl ?_
   exact q_i (by simp only [namesE, p3, p7, if_true, if_false, Bool.true_eq_false]; exact R21)
  ·refine go 8 ?_
   refine o_buildSlice he he rfl rfl rfl rfl rfl rfl rfl (fun v24 => ?_)
   refine sx_pubrow (l := [e.part]) rfl rfl (.one rfl) (fun I24 j24 R24 => ?_)
   refine go 4 ?_
   refine fin1 rfl rfl ?_
   exact q_i (by simp only [namesE, p3, p7, if_true, if_false, Bool.true_eq_false]; exact R24)

theorem refShort (I : IMap) (e : Evt) :
    FnV Tryz.prog 232 #[.agg e.cells.toArray] I (.bool (shortE e)) := by
 refine enter Tryz.func232 Tryz.call232 rfl Tryz.ntmps232 rfl (fun w0 => ?_)
 refine go 3 ?_
 refine o_box _ rfl rfl rfl (fun g1 => ?_)
 refine go 10 ?_
 refine sxb 7 rfl (fun h7 p7 => ?_) (fun h7 p7 => ?_)
 ·refine go 6 ?_
  refine sxb 13 rfl (fun h13 p13 => ?_) (fun h13 p13 => ?_)
  ·refine go 6 ?_
   refine sxb 19 rfl (fun h19 p19 => ?_) (fun h19 p19 => ?_)
   ·refine go 6 ?_
    refine sxb 25 rfl (fun h25 p25 => ?_) (fun h25 p25 => ?_)
    ·refine go 6 ?_
     refine sxb 31 rfl (fun h31 p31 => ?_) (fun h31 p31 => ?_)
     ·refine go 9 ?_
      refine fin1 rfl rfl ?_
      exact q_v (congrArg Value.bool (by simp only [shortE, h7, h13, h19, h25, h31, bS]))
     ·refine go 9 ?_
      refine fin1 rfl rfl ?_
      exact q_v (congrArg Value.bool (by simp only [shortE, h7, h13, h19, h25, h31, bS]))
    ·refine go 15 ?_
     refine fin1 rfl rfl ?_
     exact q_v (congrArg Value.bool (by simp only [shortE, h7, h13, h19, h25, bS]))
   ·refine go 21 ?_
    refine fin1 rfl rfl ?_
    exact q_v (congrArg Value.bool (by simp only [shortE, h7, h13, h19, bS]))
  ·refine go 27 ?_
   refine fin1 rfl rfl ?_
   exact q_v (congrArg Value.bool (by simp only [shortE, h7, h13, bS]))
 ·refine go 33 ?_
  refine fin1 rfl rfl ?_
  exact q_v (congrArg Value.bool (by simp only [shortE, h7, bS]))

theorem refFewE (I : IMap) (v : Value) (l : List Evt) (hv : RdS I v l) (n : Int) :
    FnV Tryz.prog 171 #[v, .int .i64 n] I (.bool (fewE l n)) := by
 obtain ⟨A, c0, rfl, hA, hc, hm⟩ := hv
 refine enter Tryz.func171 Tryz.call171 rfl Tryz.ntmps171 rfl (fun w0 => ?_)
 refine go 12 ?_
 refine c_loop (α := Nat) 0 (fun i => I)
  (fun i => [(0, .slice A l.length c0), (1, .int .i64 n), (5, .int .i64 (i : Int))])
  (fun i => [])
  (fun i => i ≤ l.length ∧ allP (fun _ e => shortE e) l i = true)
  (fun i => l.length - i) ⟨Nat.zero_le _, rfl⟩ rfl sb rfl ?_
 intro i ⟨hi, hn⟩
 refine go 8 ?_
 refine sxb 10 rfl (fun h10 p10 => ?_) (fun h10 p10 => ?_)
 ·have hlt : i < l.length := by omega
  refine go 6 ?_
  refine cb rfl (fun h14 p14 => ?_) (fun h14 p14 => ?_)
  ·have hlt : i < l.length := by omega
   refine go 8 ?_
   obtain ⟨b19, o19, w19, e19, c19, r19⟩ := RdA.at_ hA (i := i) hlt
   obtain rfl := r19
   refine o_v rfl (v_idx he rfl rfl e19 (i) (by omega) hlt) ?_
   refine o_v rfl (v_ldIa he rfl c19 rfl) ?_
   refine go 1 ?_
   refine o_callV (refShort _ _) rfl rfl ?_
   refine go 3 ?_
   refine cb rfl (fun h22 p22 => ?_) (fun h22 p22 => ?_)
   ·refine go 11 ?_
    refine fin1 rfl rfl ?_
    exact q_v (congrArg Value.bool (by simp only [fewE, allP_not (f := fun _ e => shortE e) hlt (by simpa using h22), bS]))
   ·refine go 9 ?_
    exact q_next (i + 1) ⟨by omega, allP_succ hn hlt (by simpa using h22)⟩ (by omega) rfl sb rfl
  ·refine go 15 ?_
   refine fin1 rfl rfl ?_
   exact q_v (congrArg Value.bool (by rw [fewE, show decide (((l.length : Nat) : Int) ≤ n) = false from decide_eq_false (by omega)]; simp))
 ·refine go 6 ?_
  refine c_false rfl ?_
  refine go 15 ?_
  refine fin1 rfl rfl ?_
  have e : i = l.length := (by omega)
  subst e
  exact q_v (congrArg Value.bool (by simp only [fewE, hn, bS]))


end Go.Proofs.YtdapmfkbpnjkmaaGreat

