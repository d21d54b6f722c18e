/- The library of a symbolic run and the walks: merged. -/
import Derived.Test.YtdkjmaoelojpeaaGreatZDua
import Derived.Lib.Bytealg
import Derived.Scope
import Derived.Shelf.SlSortCmp.NoneTotal
import Derived.Shelf.Sort.Plain
import Derived.SizedLaws
import Derived.Test.YtdkjmaoelojpeaaGreatChecked
/- Sorting events by their day, keeping the order of one day: the plain part. -/
set_option linter.all false
namespace Go.Sx
open Go
/-- what is sorted by a number -/
class Day (α : Type) where
  day : α → Int
  ch : α → List Value
  k : Nat
  len : ∀ x, (ch x).length = k
instance : Day Evt := ⟨Evt.day, Evt.cells, 14, fun _ => rfl⟩
variable {α : Type} [Day α]
def evCh (l : List α) : List (List Value) := l.map Day.ch
theorem evCh_uk (l : List α) : Uk (Day.k α) (evCh l) := fun c hc => by obtain ⟨e, _, rfl⟩ := List.mem_map.1 hc; exact Day.len e
theorem evCh_len (l : List α) : (evCh l).length = l.length := by simp [evCh]
theorem evCh_at {l : List α} {i : Nat} (h : i < l.length) : (evCh l)[i]? = some (Day.ch l[i]) := by simp [evCh, h]
theorem evCh_set (l : List α) (i : Nat) (e : α) : (evCh l).set i (Day.ch e) = evCh (l.set i e) := by simp [evCh, List.map_set]
theorem evCh_ukE (l : List Evt) : Uk 14 (evCh l) := evCh_uk l
theorem evCh_flat {I : IMap} (l : List Evt) : FlatC I (evCh l) l := by
  induction l with
  | nil => exact .nil
  | cons e l ih => exact .cons rfl ih
theorem evCh_rest {l : List Evt} {rest : List (List Value)} {i : Nat} (h : i < l.length) : (evCh l ++ rest)[i]? = some (Day.ch l[i]) := by
  rw [List.getElem?_append_left (by rw [evCh_len]; exact h)]; exact evCh_at h
theorem evCh_set' (l : List Evt) (rest : List (List Value)) (i : Nat) (h : i < l.length) (e : Evt) : (evCh l ++ rest).set i (Day.ch e) = evCh (l.set i e) ++ rest := by
  rw [List.set_append_left _ _ (by rw [evCh_len]; exact h), evCh_set]
theorem evCh_of {I : IMap} {xss : List (List Value)} {l : List Evt} (h : FlatC I xss l) : xss = evCh l := by
  induction h with
  | nil => rfl
  | cons h1 _ ih => rw [ih]; simp only [evCh, List.map_cons]; rw [show _ = _ from h1]; rfl
/-- exchange two -/
def swp (l : List α) (i j : Nat) : List α := match l[i]?, l[j]? with
  | some x, some y => (l.set i y).set j x
  | _, _ => l
theorem swp_eq {l : List α} {i j : Nat} (hi : i < l.length) (hj : j < l.length) : swp l i j = (l.set i l[j]).set j l[i] := by simp [swp, hi, hj]
theorem swp_len (l : List α) (i j : Nat) : (swp l i j).length = l.length := by unfold swp; split <;> simp
def dayAt (l : List α) (k : Nat) : Int := (l[k]?.map Day.day).getD 0
theorem dayAt_eq {l : List α} {k : Nat} (h : k < l.length) : dayAt l k = Day.day l[k] := by simp [dayAt, h]
theorem swp_get {l : List α} {i j : Nat} (hi : i < l.length) (hj : j < l.length) (k : Nat) : (swp l i j)[k]? = if k = j then l[i]? else if k = i then l[j]? else l[k]? := by
  rw [swp_eq hi hj, List.getElem?_set, List.getElem?_set]
  by_cases h1 : j = k
  · subst h1; simp [hj, hi]
  · have : ¬ k = j := fun e => h1 e.symm
    by_cases h2 : i = k
    · subst h2; simp [h1, this, hi, hj]
    · have h3 : ¬ k = i := fun e => h2 e.symm
      simp [h1, h2, this, h3]
theorem swp_day {l : List α} {i j : Nat} (hi : i < l.length) (hj : j < l.length) (k : Nat) : dayAt (swp l i j) k = if k = j then dayAt l i else if k = i then dayAt l j else dayAt l k := by
  unfold dayAt
  rw [swp_get hi hj]
  split
  · rfl
  · split <;> rfl
/-- as_ many of each day, in the same order -/
def Stb (l m : List α) : Prop := l.length = m.length ∧ ∀ d : Int, m.filter (fun e => decide (Day.day e = d)) = l.filter (fun e => decide (Day.day e = d))
theorem Stb.refl (l : List α) : Stb l l := ⟨rfl, fun _ => rfl⟩
theorem Stb.trans {l m k : List α} (h : Stb l m) (h' : Stb m k) : Stb l k := ⟨h.1.trans h'.1, fun d => (h'.2 d).trans (h.2 d)⟩
/-- x in front of what is later than it may go behind -/
theorem filter_swap (a b : List α) (d : Int) (h : ∀ x ∈ a, ∀ y ∈ b, Day.day x ≠ Day.day y) : (b ++ a).filter (fun e => decide (Day.day e = d)) = (a ++ b).filter (fun e => decide (Day.day e = d)) := by
  rw [List.filter_append, List.filter_append]
  by_cases ha : a.filter (fun e => decide (Day.day e = d)) = []
  · rw [ha]; simp
  · have hb : b.filter (fun e => decide (Day.day e = d)) = [] := by
      rw [List.filter_eq_nil_iff]
      intro y hy
      obtain ⟨x, hx⟩ := List.exists_mem_of_ne_nil _ ha
      rw [List.mem_filter] at hx
      have := h x hx.1 y hy
      simp at hx ⊢
      omega
    rw [hb]; simp
theorem Stb.block {p a b s : List α} (h : ∀ x ∈ a, ∀ y ∈ b, Day.day x ≠ Day.day y) : Stb (p ++ (a ++ (b ++ s))) (p ++ (b ++ (a ++ s))) := by
  refine ⟨by simp; omega, fun d => ?_⟩
  have := filter_swap a b d h
  rw [List.filter_append, List.filter_append] at this
  simp only [List.filter_append]
  congr 1
  rw [← List.append_assoc, this, List.append_assoc]
def swpN (l : List α) (a b : Nat) : Nat → List α
  | 0 => l
  | k + 1 => swp (swpN l a b k) (a + k) (b + k)
theorem swpN_len (l : List α) (a b : Nat) : ∀ k, (swpN l a b k).length = l.length
  | 0 => rfl
  | k + 1 => by rw [swpN, swp_len, swpN_len l a b k]
theorem evCh_swp {l : List α} {i j : Nat} (hi : i < l.length) (hj : j < l.length) : ((evCh l).set i (Day.ch l[j])).set j (Day.ch l[i]) = evCh (swp l i j) := by
  rw [evCh_set, evCh_set, swp_eq hi hj]
theorem evCh_swp' {l : List α} {i j : Nat} (hi : i < l.length) (hj : j < l.length) (hij : i ≠ j) : ((evCh l).set j (Day.ch l[i])).set i (Day.ch l[j]) = evCh (swp l i j) := by
  rw [evCh_set, evCh_set, swp_eq hi hj, List.set_comm _ _ hij.symm]
theorem split2 (m : List α) {j : Nat} (hj : j + 1 < m.length) : m = m.take j ++ ([m[j]] ++ ([m[j + 1]] ++ m.drop (j + 2))) := by
  conv => lhs; rw [← List.take_append_drop j m, List.drop_eq_getElem_cons (by omega), List.drop_eq_getElem_cons hj]
  rfl
theorem swp_adj (m : List α) {j : Nat} (hj : j + 1 < m.length) : swp m (j + 1) j = m.take j ++ ([m[j + 1]] ++ ([m[j]] ++ m.drop (j + 2))) := by
  rw [swp_eq hj (by omega)]
  apply List.ext_getElem?
  intro k
  rw [List.getElem?_set, List.getElem?_set, List.getElem?_append]
  simp only [List.length_take, List.length_set]
  have hmin : min j m.length = j := by omega
  rw [hmin]
  by_cases h1 : k < j
  · simp [h1, show ¬ j = k by omega, show ¬ j + 1 = k by omega, List.getElem?_take]
  · rw [if_neg h1]
    obtain ⟨q, rfl⟩ : ∃ q, k = j + q := ⟨k - j, by omega⟩
    rw [Nat.add_sub_cancel_left]
    match q with
    | 0 => simp; omega
    | 1 => simp [hj]
    | q + 2 =>
      simp only [show ¬ j = j + (q + 2) by omega, show ¬ j + 1 = j + (q + 2) by omega, if_false]
      simp [List.getElem?_drop]
      congr 1
      omega
theorem swp_stb {l m : List α} {j : Nat} (h : Stb l m) (hj : j + 1 < m.length) (hd : dayAt m (j + 1) < dayAt m j) : Stb l (swp m (j + 1) j) := by
  refine h.trans ?_
  have e := split2 m hj
  rw [swp_adj m hj]
  conv => arg 1; rw [e]
  refine Stb.block fun x hx y hy => ?_
  rw [List.mem_singleton] at hx hy
  subst hx hy
  rw [dayAt_eq hj, dayAt_eq (by omega)] at hd
  omega
theorem swp_stb' {l m : List α} {j : Nat} (h : Stb l m) (h0 : 0 < j) (hj : j < m.length) (hd : dayAt m j < dayAt m (j - 1)) : Stb l (swp m j (j - 1)) := by
  obtain ⟨q, rfl⟩ : ∃ q, j = q + 1 := ⟨j - 1, by omega⟩
  exact swp_stb h hj hd
theorem cmpI_neg {a b : Int} : cmpI a b < 0 ↔ a < b := by
  unfold cmpI
  split
  · rename_i h; simp [h]
  · rename_i h; split <;> simp [h]
/-- a segment is sorted, and nothing else has turned -/
structure Seg (l m : List α) (a b : Nat) : Prop where
  stb : Stb l m
  out : ∀ k, k < a ∨ b ≤ k → m[k]? = l[k]?
  srt : ∀ p q, a ≤ p → p < q → q < b → dayAt m p ≤ dayAt m q
theorem Seg.one (l : List α) (a : Nat) : Seg l l a (a + 1) := ⟨Stb.refl l, fun _ _ => rfl, fun p q h1 h2 h3 => by omega⟩
theorem Seg.none {l : List α} {a b : Nat} (h : b ≤ a + 1) : Seg l l a b := ⟨Stb.refl l, fun _ _ => rfl, fun p q h1 h2 h3 => by omega⟩
/-- .. but for the element at j, that is on its way down -/
structure Ins (l m : List α) (a i j : Nat) : Prop where
  stb : Stb l m
  out : ∀ k, k < a ∨ i + 1 ≤ k → m[k]? = l[k]?
  srt : ∀ p q, a ≤ p → p < q → q ≤ i → q ≠ j → dayAt m p ≤ dayAt m q
theorem Ins.start {l m : List α} {a i : Nat} (h : Seg l m a i) : Ins l m a i i := ⟨h.stb, fun k hk => h.out k (by omega), fun p q h1 h2 h3 h4 => h.srt p q h1 h2 (by omega)⟩
theorem Ins.step {l m : List α} {a i j : Nat} (h : Ins l m a i j) (h1 : a < j) (h2 : j ≤ i) (h3 : i < m.length) (hd : dayAt m j < dayAt m (j - 1)) : Ins l (swp m j (j - 1)) a i (j - 1) := by
  refine ⟨swp_stb' h.stb (by omega) (by omega) hd, fun k hk => ?_, fun p q p1 p2 p3 p4 => ?_⟩
  · rw [swp_get (by omega) (by omega), if_neg (by omega), if_neg (by omega)]
    exact h.out k hk
  · rw [swp_day (by omega) (by omega), swp_day (by omega) (by omega)]
    rw [if_neg p4]
    by_cases hq : q = j
    · subst hq
      rw [if_pos rfl]
      by_cases hp : p = q - 1
      · rw [if_pos hp]; omega
      · rw [if_neg hp, if_neg (by omega)]
        exact h.srt p (q - 1) p1 (by omega) (by omega) (by omega)
    · rw [if_neg hq]
      by_cases hp : p = j - 1
      · rw [if_pos hp]
        exact h.srt j q (by omega) (by omega) p3 hq
      · rw [if_neg hp]
        by_cases hp2 : p = j
        · rw [if_pos hp2]
          exact h.srt (j - 1) q (by omega) (by omega) p3 hq
        · rw [if_neg hp2]
          exact h.srt p q p1 p2 p3 hq
theorem Ins.done {l m : List α} {a i j : Nat} (h : Ins l m a i j) (h1 : a ≤ j) (h2 : j ≤ i) (hd : j = a ∨ dayAt m (j - 1) ≤ dayAt m j) : Seg l m a (i + 1) := by
  refine ⟨h.stb, fun k hk => h.out k hk, fun p q p1 p2 p3 => ?_⟩
  by_cases hq : q = j
  · subst hq
    rcases hd with hd | hd
    · omega
    · rcases Nat.lt_or_ge p (q - 1) with hp | hp
      · exact Int.le_trans (h.srt p (q - 1) p1 hp (by omega) (by omega)) hd
      · obtain rfl : p = q - 1 := by omega
        exact hd
  · exact h.srt p q p1 p2 (by omega) hq
theorem Seg.len {l m : List α} {a b : Nat} (h : Seg l m a b) : m.length = l.length := h.stb.1.symm
theorem Ins.len {l m : List α} {a i j : Nat} (h : Ins l m a i j) : m.length = l.length := h.stb.1.symm
/-! blocks that change their places, place by place -/
def swpG (f : Nat → Option α) (a b n k : Nat) : Option α := if a ≤ k ∧ k < a + n then f (k - a + b) else if b ≤ k ∧ k < b + n then f (k - b + a) else f k
/-- [m - i, m) and [m, m + j), the one for the other -/
def rotG (f : Nat → Option α) (m i j k : Nat) : Option α := if m - i ≤ k ∧ k < m - i + j then f (k + i) else if m - i + j ≤ k ∧ k < m + j then f (k - j) else f k
theorem swpN_get {l : List α} {a b : Nat} : ∀ (n : Nat), a + n ≤ b → b + n ≤ l.length → ∀ k, (swpN l a b n)[k]? = swpG (l[·]?) a b n k
  | 0, _, _, k => by
    simp only [swpN, swpG]
    rw [if_neg (by omega), if_neg (by omega)]
  | n + 1, h1, h2, k => by
    have hl := swpN_len l a b n
    rw [swpN, swp_get (by omega) (by omega)]
    have ih := swpN_get n (l := l) (a := a) (b := b) (by omega) (by omega)
    rw [ih, ih, ih]
    simp only [swpG]
    repeat' split
    all_goals first
      | (exfalso; omega)
      | rfl
      | (congr 1; omega)
theorem rot_gt {f g : Nat → Option α} {m i j : Nat} (hm : i ≤ m) (h : j < i) (hg : ∀ k, g k = swpG f (m - i) m j k) (k : Nat) : rotG g m (i - j) j k = rotG f m i j k := by
  simp only [rotG, hg, swpG]
  repeat' split
  all_goals first
    | (exfalso; omega)
    | rfl
    | (congr 1; omega)
theorem rot_lt {f g : Nat → Option α} {m i j : Nat} (hm : i ≤ m) (h : i < j) (hg : ∀ k, g k = swpG f (m - i) (m + j - i) i k) (k : Nat) : rotG g m i (j - i) k = rotG f m i j k := by
  simp only [rotG, hg, swpG]
  repeat' split
  all_goals first
    | (exfalso; omega)
    | rfl
    | (congr 1; omega)
theorem rot_eq {f g : Nat → Option α} {m i : Nat} (hm : i ≤ m) (hg : ∀ k, g k = swpG f (m - i) m i k) (k : Nat) : g k = rotG f m i i k := by
  simp only [rotG, hg, swpG]
  repeat' split
  all_goals first
    | (exfalso; omega)
    | rfl
    | (congr 1; omega)
end Go.Sx

/- Merging two sorted segments: the plain part. -/
set_option linter.all false
namespace Go.Sx
open Go
variable {α : Type} [Day α]
/-- a piece of a list -/
def pc (l : List α) (a b : Nat) : List α := (l.drop a).take (b - a)
theorem pc_get {l : List α} {a b : Nat} (k : Nat) : (pc l a b)[k]? = if k < b - a then l[a + k]? else none := by
  rw [pc, List.getElem?_take, List.getElem?_drop]
theorem pc_len {l : List α} {a b : Nat} (h : b ≤ l.length) : (pc l a b).length = b - a := by rw [pc, List.length_take, List.length_drop]; omega
theorem pc_mem {l : List α} {a b : Nat} {x : α} (hx : x ∈ pc l a b) : ∃ p, a ≤ p ∧ p < b ∧ l[p]? = some x := by
  obtain ⟨k, hk⟩ := List.getElem?_of_mem hx
  rw [pc_get] at hk
  split at hk
  · exact ⟨a + k, by omega, by omega, hk⟩
  · cases hk
theorem mem_pc {l : List α} {a b p : Nat} {x : α} (h1 : a ≤ p) (h2 : p < b) (hx : l[p]? = some x) : x ∈ pc l a b := by
  refine List.mem_of_getElem? (i := p - a) ?_
  rw [pc_get, if_pos (by omega), show a + (p - a) = p from by omega]
  exact hx
theorem cut3 {l : List α} {a b : Nat} (h1 : a ≤ b) (h2 : b ≤ l.length) : l = l.take a ++ (pc l a b ++ l.drop b) := by
  have e : pc l a b ++ l.drop b = l.drop a := by
    have := List.take_append_drop (b - a) (l.drop a)
    rw [List.drop_drop, show a + (b - a) = b from by omega] at this
    exact this
  rw [e, List.take_append_drop]
theorem day_of {l : List α} {p : Nat} {x : α} (h : l[p]? = some x) : dayAt l p = Day.day x := by simp [dayAt, h]
/-- what has turned within a segment only has the same elements there -/
theorem seg_mem {l m : List α} {a b : Nat} (hs : Stb l m) (ho : ∀ k, k < a ∨ b ≤ k → m[k]? = l[k]?) (h1 : a ≤ b) (h2 : b ≤ l.length) {p : Nat} (hp1 : a ≤ p) (hp2 : p < b) : ∃ q, a ≤ q ∧ q < b ∧ dayAt m p = dayAt l q := by
  have hml : m.length = l.length := hs.1.symm
  have et : m.take a = l.take a := by
    apply List.ext_getElem?
    intro k
    rw [List.getElem?_take, List.getElem?_take]
    split
    · exact ho k (.inl (by omega))
    · rfl
  have ed : m.drop b = l.drop b := by
    apply List.ext_getElem?
    intro k
    rw [List.getElem?_drop, List.getElem?_drop]
    exact ho _ (.inr (by omega))
  have hx : m[p]? = some m[p] := List.getElem?_eq_getElem (by omega)
  obtain ⟨y, hy⟩ : ∃ y, y = m[p] := ⟨_, rfl⟩
  rw [← hy] at hx
  have key : ∀ d : Int, (pc m a b).filter (fun e => decide (Day.day e = d)) = (pc l a b).filter (fun e => decide (Day.day e = d)) := by
    intro d
    have hf := hs.2 d
    rw [show l.filter (fun e => decide (Day.day e = d)) = (l.take a ++ (pc l a b ++ l.drop b)).filter (fun e => decide (Day.day e = d)) from congrArg _ (cut3 h1 h2),
      show m.filter (fun e => decide (Day.day e = d)) = (m.take a ++ (pc m a b ++ m.drop b)).filter (fun e => decide (Day.day e = d)) from congrArg _ (cut3 h1 (by omega)), et, ed] at hf
    simp only [List.filter_append] at hf
    exact List.append_cancel_right (List.append_cancel_left hf)
  have hmem : y ∈ (pc m a b).filter (fun e => decide (Day.day e = Day.day y)) := List.mem_filter.2 ⟨mem_pc hp1 hp2 hx, by simp⟩
  rw [key] at hmem
  obtain ⟨hm1, hm2⟩ := List.mem_filter.1 hmem
  obtain ⟨q, q1, q2, q3⟩ := pc_mem hm1
  exact ⟨q, q1, q2, by rw [day_of hx, day_of q3]⟩
/-- exchanging two blocks, as_ lists -/
theorem rot_list {l k : List α} {a m b : Nat} (h1 : a ≤ m) (h2 : m ≤ b) (h3 : b ≤ l.length) (hk : k.length = l.length) (hr : ∀ q, k[q]? = rotG (l[·]?) m (m - a) (b - m) q) : k = l.take a ++ (pc l m b ++ (pc l a m ++ l.drop b)) := by
  apply List.ext_getElem?
  intro q
  rw [hr, rotG]
  have l1 : (l.take a).length = a := by rw [List.length_take]; omega
  have l2 := pc_len (l := l) (a := m) (b := b) h3
  have l3 := pc_len (l := l) (a := a) (b := m) (by omega)
  rw [List.getElem?_append, l1, List.getElem?_append, l2, List.getElem?_append, l3, List.getElem?_take, pc_get, pc_get, List.getElem?_drop]
  repeat' split
  all_goals first
    | (exfalso; omega)
    | rfl
    | (congr 1; omega)
theorem rot_stb {l k : List α} {a m b : Nat} (h1 : a ≤ m) (h2 : m ≤ b) (h3 : b ≤ l.length) (hk : k.length = l.length) (hr : ∀ q, k[q]? = rotG (l[·]?) m (m - a) (b - m) q) (hd : ∀ p q, a ≤ p → p < m → m ≤ q → q < b → dayAt l q < dayAt l p) : Stb l k := by
  have e := rot_list h1 h2 h3 hk hr
  have e2 : l = l.take a ++ (pc l a m ++ (pc l m b ++ l.drop b)) := by
    conv => lhs; rw [cut3 (l := l) (a := a) (b := m) h1 (by omega)]
    congr 2
    have := cut3 (l := l.drop m) (a := 0) (b := b - m) (by omega) (by rw [List.length_drop]; omega)
    simp only [List.take_zero, List.nil_append, List.drop_drop, show m + (b - m) = b from by omega] at this
    exact this
  rw [e]
  conv => arg 1; rw [e2]
  refine Stb.block fun x hx y hy => ?_
  obtain ⟨p, p1, p2, p3⟩ := pc_mem hx
  obtain ⟨q, q1, q2, q3⟩ := pc_mem hy
  have := hd p q p1 p2 q1 q2
  rw [day_of p3, day_of q3] at this
  omega
theorem rot_day {l k : List α} {m i j : Nat} (hr : ∀ q, k[q]? = rotG (l[·]?) m i j q) (q : Nat) : dayAt k q = if m - i ≤ q ∧ q < m - i + j then dayAt l (q + i) else if m - i + j ≤ q ∧ q < m + j then dayAt l (q - j) else dayAt l q := by
  unfold dayAt
  rw [hr, rotG]
  repeat' split
  all_goals rfl
/-- merged halves, the first of which is not behind the second -/
theorem seg_join {l m : List α} {a c b : Nat} (hs : Stb l m) (ho : ∀ k, k < a ∨ b ≤ k → m[k]? = l[k]?) (h1 : ∀ p q, a ≤ p → p < q → q < c → dayAt m p ≤ dayAt m q) (h2 : ∀ p q, c ≤ p → p < q → q < b → dayAt m p ≤ dayAt m q) (h3 : ∀ p q, a ≤ p → p < c → c ≤ q → q < b → dayAt m p ≤ dayAt m q) : Seg l m a b :=
  ⟨hs, ho, fun p q p1 p2 p3 => by
    rcases Nat.lt_or_ge q c with hq | hq
    · exact h1 p q p1 p2 hq
    · rcases Nat.lt_or_ge p c with hp | hp
      · exact h3 p q p1 hp hq p3
      · exact h2 p q hp p2 p3⟩
/-- sorted between two places -/
def SrtD (l : List α) (a b : Nat) : Prop := ∀ p q, a ≤ p → p < q → q < b → dayAt l p ≤ dayAt l q
theorem SrtD.le {l : List α} {a b : Nat} (h : SrtD l a b) {p q : Nat} (h1 : a ≤ p) (h2 : p ≤ q) (h3 : q < b) : dayAt l p ≤ dayAt l q := by
  rcases Nat.lt_or_ge p q with hp | hp
  · exact h p q h1 hp h3
  · obtain rfl : p = q := by omega
    exact Int.le_refl _
theorem SrtD.sub {l : List α} {a b a' b' : Nat} (h : SrtD l a b) (h1 : a ≤ a') (h2 : b' ≤ b) : SrtD l a' b' := fun p q p1 p2 p3 => h p q (by omega) p2 (by omega)
theorem SrtD.none {l : List α} {a b : Nat} (h : b ≤ a + 1) : SrtD l a b := fun p q h1 h2 h3 => by omega
theorem Seg.toD {l m : List α} {a b : Nat} (h : Seg l m a b) : SrtD m a b := h.srt
/-- a turn of two neighbouring pieces -/
structure Rot (l k : List α) (a s m e b : Nat) : Prop where
  stb : Stb l k
  out : ∀ q, q < s ∨ e ≤ q → k[q]? = l[q]?
  day : ∀ q, dayAt k q = if s ≤ q ∧ q < s + (e - m) then dayAt l (q + (m - s)) else if s + (e - m) ≤ q ∧ q < e then dayAt l (q - (e - m)) else dayAt l q
theorem Rot.of {l k : List α} {a s m e b : Nat} (h1 : s ≤ m) (h2 : m ≤ e) (h3 : e ≤ l.length) (hk : k.length = l.length) (hr : ∀ q, k[q]? = rotG (l[·]?) m (m - s) (e - m) q) (hd : ∀ p q, s ≤ p → p < m → m ≤ q → q < e → dayAt l q < dayAt l p) : Rot l k a s m e b := by
  refine ⟨rot_stb h1 h2 h3 hk hr hd, fun q hq => ?_, fun q => ?_⟩
  · rw [hr, rotG, if_neg (by omega), if_neg (by omega)]
  · rw [rot_day hr, show m - (m - s) = s from by omega, show m + (e - m) = e from by omega]
theorem Rot.id {l : List α} {a s m e b : Nat} (h : s = m ∨ e = m) (h1 : s ≤ m) (h2 : m ≤ e) : Rot l l a s m e b := by
  refine ⟨Stb.refl l, fun _ _ => rfl, fun q => ?_⟩
  rcases h with rfl | rfl
  · split
    · congr 1; omega
    · split
      · exfalso; omega
      · rfl
  · split
    · exfalso; omega
    · split
      · congr 1; omega
      · rfl
theorem Rot.len {l k : List α} {a s m e b : Nat} (h : Rot l k a s m e b) : k.length = l.length := h.stb.1.symm
/-- the four pieces behind a turn -/
theorem Rot.p1 {l k : List α} {a s m e b : Nat} (h : Rot l k a s m e b) (h1 : SrtD l a m) (g1 : s ≤ m) : SrtD k a s := fun p q p1 p2 p3 => by
  rw [h.day, h.day, if_neg (by omega), if_neg (by omega), if_neg (by omega), if_neg (by omega)]
  exact h1 p q p1 p2 (by omega)
theorem Rot.p2 {l k : List α} {a s m e b : Nat} (h : Rot l k a s m e b) (h2 : SrtD l m b) (g1 : s ≤ m) (g2 : m ≤ e) (g3 : e ≤ b) : SrtD k s (s + (e - m)) := fun p q p1 p2 p3 => by
  rw [h.day, h.day, if_pos (by omega), if_pos (by omega)]
  exact h2 _ _ (by omega) (by omega) (by omega)
theorem Rot.p3 {l k : List α} {a s m e b : Nat} (h : Rot l k a s m e b) (h1 : SrtD l a m) (g0 : a ≤ s) (g1 : s ≤ m) (g2 : m ≤ e) : SrtD k (s + (e - m)) e := fun p q p1 p2 p3 => by
  rw [h.day, h.day, if_neg (by omega), if_pos (by omega), if_neg (by omega), if_pos (by omega)]
  exact h1 _ _ (by omega) (by omega) (by omega)
theorem Rot.p4 {l k : List α} {a s m e b : Nat} (h : Rot l k a s m e b) (h2 : SrtD l m b) (g1 : s ≤ m) (g2 : m ≤ e) : SrtD k e b := fun p q p1 p2 p3 => by
  rw [h.day, h.day, if_neg (by omega), if_neg (by omega), if_neg (by omega), if_neg (by omega)]
  exact h2 p q (by omega) p2 p3
theorem Rot.cross {l k : List α} {a s m e b : Nat} (h : Rot l k a s m e b) (h1 : SrtD l a m) (h2 : SrtD l m b) (g0 : a ≤ s) (g1 : s ≤ m) (g2 : m ≤ e) (g3 : e ≤ b)
    (hx : ∀ p q, s ≤ p → p < m → m ≤ q → q < e → dayAt l q < dayAt l p) (hy : ∀ p q, a ≤ p → p < s → e ≤ q → q < b → dayAt l p ≤ dayAt l q) (p q : Nat) (p1 : a ≤ p) (p2 : p < s + (e - m)) (q1 : s + (e - m) ≤ q) (q2 : q < b) : dayAt k p ≤ dayAt k q := by
  rw [h.day p, h.day q]
  by_cases hp : s ≤ p
  · rw [if_pos ⟨hp, p2⟩]
    by_cases hq : q < e
    · rw [if_neg (by omega), if_pos ⟨q1, hq⟩]
      exact Int.le_of_lt (hx _ _ (by omega) (by omega) (by omega) (by omega))
    · rw [if_neg (by omega), if_neg (by omega)]
      exact h2.le (by omega) (by omega) q2
  · rw [if_neg (by omega), if_neg (by omega)]
    by_cases hq : q < e
    · rw [if_neg (by omega), if_pos ⟨q1, hq⟩]
      exact h1.le p1 (by omega) (by omega)
    · rw [if_neg (by omega), if_neg (by omega)]
      exact hy p q p1 (by omega) (by omega) q2
/-- both halves merged: all of it is -/
theorem Rot.done {l k k1 k2 : List α} {a s m e b c : Nat} (h : Rot l k a s m e b) (h1 : SrtD l a m) (h2 : SrtD l m b) (g0 : a ≤ s) (g1 : s ≤ m) (g2 : m ≤ e) (g3 : e ≤ b) (g4 : b ≤ l.length) (hc : s + (e - m) = c)
    (hx : ∀ p q, s ≤ p → p < m → m ≤ q → q < e → dayAt l q < dayAt l p) (hy : ∀ p q, a ≤ p → p < s → e ≤ q → q < b → dayAt l p ≤ dayAt l q) (s1 : Seg k k1 a c) (s2 : Seg k1 k2 c b) : Seg l k2 a b := by
  subst hc
  have hl := h.len
  have hl1 := s1.len
  have d1 : ∀ p, p < s + (e - m) → k2[p]? = k1[p]? := fun p hp => s2.out p (.inl hp)
  have d2 : ∀ p, s + (e - m) ≤ p → k1[p]? = k[p]? := fun p hp => s1.out p (.inr hp)
  have e1 : ∀ p, p < s + (e - m) → dayAt k2 p = dayAt k1 p := fun p hp => by unfold dayAt; rw [d1 p hp]
  refine seg_join (c := s + (e - m)) (h.stb.trans (s1.stb.trans s2.stb)) (fun q hq => ?_) (fun p q p1 p2 p3 => ?_) (fun p q p1 p2 p3 => s2.srt p q p1 p2 p3) (fun p q p1 p2 p3 p4 => ?_)
  · rw [s2.out q (by omega), s1.out q (by omega), h.out q (by omega)]
  · rw [e1 p (by omega), e1 q p3]; exact s1.srt p q p1 p2 p3
  · rw [e1 p p2]
    obtain ⟨p', a1, a2, a3⟩ := seg_mem s1.stb s1.out (by omega) (by omega) p1 p2
    obtain ⟨q', b1, b2, b3⟩ := seg_mem s2.stb s2.out (by omega) (by omega) p3 p4
    have : dayAt k1 q' = dayAt k q' := by unfold dayAt; rw [d2 q' b1]
    rw [a3, b3, this]
    exact h.cross h1 h2 g0 g1 g2 g3 hx hy p' q' a1 a2 b1 b2
/-- one element on its way up -/
def bub (l : List α) (a : Nat) : Nat → List α
  | 0 => l
  | k + 1 => swp (bub l a k) (a + k) (a + k + 1)
theorem bub_len (l : List α) (a : Nat) : ∀ k, (bub l a k).length = l.length
  | 0 => rfl
  | k + 1 => by rw [bub, swp_len, bub_len l a k]
theorem bub_get {l : List α} {a : Nat} : ∀ (n : Nat), a + n < l.length → ∀ k, (bub l a n)[k]? = rotG (l[·]?) (a + 1) 1 n k
  | 0, _, k => by simp only [bub, rotG]; rw [if_neg (by omega)]; split; · congr 1
                  · rfl
  | n + 1, h, k => by
    have hl := bub_len l a n
    rw [bub, swp_get (by omega) (by omega)]
    have ih := bub_get n (l := l) (a := a) (by omega)
    rw [ih, ih, ih]
    simp only [rotG]
    repeat' split
    all_goals first
      | (exfalso; omega)
      | rfl
      | (congr 1; omega)
/-- .. on its way down -/
def bud (l : List α) (m : Nat) : Nat → List α
  | 0 => l
  | k + 1 => swp (bud l m k) (m - k) (m - k - 1)
theorem bud_len (l : List α) (m : Nat) : ∀ k, (bud l m k).length = l.length
  | 0 => rfl
  | k + 1 => by rw [bud, swp_len, bud_len l m k]
theorem bud_get {l : List α} {m : Nat} (hm : m < l.length) : ∀ (n : Nat), n ≤ m → ∀ k, (bud l m n)[k]? = rotG (l[·]?) m n 1 k
  | 0, _, k => by simp only [bud, rotG]; split; · congr 1
                  · split
                    · exfalso; omega
                    · rfl
  | n + 1, h, k => by
    have hl := bud_len l m n
    rw [bud, swp_get (by omega) (by omega)]
    have ih := bud_get hm n (by omega)
    rw [ih, ih, ih]
    simp only [rotG]
    repeat' split
    all_goals first
      | (exfalso; omega)
      | rfl
      | (congr 1; omega)
/-- the first piece is one element -/
theorem merge_up {l : List α} {a b i : Nat} (hs : SrtD l (a + 1) b) (h1 : a + 1 ≤ i) (h2 : i ≤ b) (h3 : b ≤ l.length) (hlo : ∀ q, a + 1 ≤ q → q < i → dayAt l q < dayAt l a) (hhi : ∀ q, i ≤ q → q < b → dayAt l a ≤ dayAt l q) : Seg l (bub l a (i - 1 - a)) a b := by
  have hR : Rot l (bub l a (i - 1 - a)) a a (a + 1) i b := Rot.of (by omega) h1 (by omega) (bub_len _ _ _) (fun q => by rw [bub_get _ (by omega)]; congr 1 <;> omega)
    (fun p q p1 p2 p3 p4 => by obtain rfl : p = a := by omega
                               exact hlo q p3 p4)
  refine ⟨hR.stb, fun k hk => hR.out k (by omega), fun p q p1 p2 p3 => ?_⟩
  rw [hR.day p, hR.day q]
  by_cases hp : p < i - 1
  · rw [if_pos (by omega)]
    by_cases hq : q < i - 1
    · rw [if_pos (by omega)]; exact hs _ _ (by omega) (by omega) (by omega)
    · by_cases hq2 : q = i - 1
      · rw [if_neg (by omega), if_pos (by omega), show q - (i - (a + 1)) = a from by omega]; exact Int.le_of_lt (hlo _ (by omega) (by omega))
      · rw [if_neg (by omega), if_neg (by omega)]; exact hs _ _ (by omega) (by omega) (by omega)
  · by_cases hp2 : p = i - 1
    · rw [if_neg (by omega), if_pos (by omega), if_neg (by omega), if_neg (by omega), show p - (i - (a + 1)) = a from by omega]; exact hhi _ (by omega) p3
    · rw [if_neg (by omega), if_neg (by omega), if_neg (by omega), if_neg (by omega)]; exact hs _ _ (by omega) (by omega) (by omega)
/-- the second piece is one element -/
theorem merge_down {l : List α} {a m i : Nat} (hs : SrtD l a m) (h1 : a ≤ i) (h2 : i ≤ m) (h3 : m < l.length) (hlo : ∀ q, a ≤ q → q < i → dayAt l q ≤ dayAt l m) (hhi : ∀ q, i ≤ q → q < m → dayAt l m < dayAt l q) : Seg l (bud l m (m - i)) a (m + 1) := by
  have hR : Rot l (bud l m (m - i)) a i m (m + 1) (m + 1) := Rot.of h2 (by omega) (by omega) (bud_len _ _ _) (fun q => by rw [bud_get h3 _ (by omega)]; congr 1; omega)
    (fun p q p1 p2 p3 p4 => by obtain rfl : q = m := by omega
                               exact hhi p p1 p2)
  refine ⟨hR.stb, fun k hk => hR.out k (by omega), fun p q p1 p2 p3 => ?_⟩
  rw [hR.day p, hR.day q]
  by_cases hp : p < i
  · rw [if_neg (by omega), if_neg (by omega)]
    by_cases hq : q < i
    · rw [if_neg (by omega), if_neg (by omega)]; exact hs _ _ (by omega) (by omega) (by omega)
    · by_cases hq2 : q = i
      · rw [if_pos (by omega), show q + (m - i) = m from by omega]; exact hlo _ (by omega) (by omega)
      · rw [if_neg (by omega), if_pos (by omega)]; exact hs _ _ (by omega) (by omega) (by omega)
  · by_cases hp2 : p = i
    · rw [if_pos (by omega), if_neg (by omega), if_pos (by omega), show p + (m - i) = m from by omega]; exact Int.le_of_lt (hhi _ (by omega) (by omega))
    · rw [if_neg (by omega), if_pos (by omega), if_neg (by omega), if_pos (by omega)]; exact hs _ _ (by omega) (by omega) (by omega)
theorem Seg.refl' {k : List α} {a c : Nat} (h : SrtD k a c) : Seg k k a c := ⟨Stb.refl k, fun _ _ => rfl, h⟩
theorem Rot.left {l k : List α} {a s m e b c : Nat} (h : Rot l k a s m e b) (h1 : SrtD l a m) (h2 : SrtD l m b) (g1 : s ≤ m) (g2 : m ≤ e) (g3 : e ≤ b) (hc : s + (e - m) = c) (hn : ¬ (a < s ∧ s < c)) (g0 : a ≤ s) : SrtD k a c := by
  subst hc
  by_cases hs : a = s
  · subst hs; exact h.p2 h2 g1 g2 g3
  · exact (h.p1 h1 g1).sub (Nat.le_refl _) (by omega)
theorem Rot.right {l k : List α} {a s m e b c : Nat} (h : Rot l k a s m e b) (h1 : SrtD l a m) (h2 : SrtD l m b) (g0 : a ≤ s) (g1 : s ≤ m) (g2 : m ≤ e) (hc : s + (e - m) = c) (hn : ¬ (c < e ∧ e < b)) (g3 : e ≤ b) : SrtD k c b := by
  subst hc
  by_cases hs : e = b
  · subst hs; exact h.p3 h1 g0 g1 g2
  · exact (h.p4 h2 g1 g2).sub (by omega) (Nat.le_refl _)
theorem Seg.keepD {k k1 : List α} {a c p q : Nat} (h : Seg k k1 a c) (hc : c ≤ p) (hs : SrtD k p q) : SrtD k1 p q := fun x y h1 h2 h3 => by
  have e : ∀ z, c ≤ z → dayAt k1 z = dayAt k z := fun z hz => by unfold dayAt; rw [h.out z (.inr hz)]
  rw [e x (by omega), e y (by omega)]; exact hs x y h1 h2 h3
/-- where the two sorted pieces are parted -/
theorem spl_fin {l : List α} {a m b c S R s : Nat} (m1 : SrtD l a m) (m2 : SrtD l m b) (ham : a < m) (hmb : m < b) (hc : c = (a + b) / 2) (hS : (c < m ∧ S = c + m - b ∧ R = c) ∨ (m ≤ c ∧ S = a ∧ R = m)) (hs1 : S ≤ s) (hs2 : s ≤ R)
    (lo : ∀ q, S ≤ q → q < s → dayAt l q ≤ dayAt l (c + m - 1 - q)) (hi : ∀ q, s ≤ q → q < R → dayAt l (c + m - 1 - q) < dayAt l q) :
    (∀ p q, s ≤ p → p < m → m ≤ q → q < c + m - s → dayAt l q < dayAt l p) ∧ (∀ p q, a ≤ p → p < s → c + m - s ≤ q → q < b → dayAt l p ≤ dayAt l q) := by
  refine ⟨fun p q p1 p2 q1 q2 => ?_, fun p q p1 p2 q1 q2 => ?_⟩
  · have hlt : s < R := by omega
    have h1 := hi s (Nat.le_refl _) hlt
    have h2 := m1.le (p := s) (q := p) (by omega) p1 p2
    have h3 := m2.le (p := q) (q := c + m - 1 - s) q1 (by omega) (by omega)
    omega
  · have hlt : S < s := by omega
    have h1 := lo (s - 1) (by omega) (by omega)
    have h2 := m1.le (p := p) (q := s - 1) p1 (by omega) (by omega)
    have h3 := m2.le (p := c + m - 1 - (s - 1)) (q := q) (by omega) (by omega) q2
    omega
theorem spl_up {l : List α} {a m b c S R r h : Nat} (m1 : SrtD l a m) (m2 : SrtD l m b) (ham : a < m) (hmb : m < b) (hc : c = (a + b) / 2) (hS : (c < m ∧ S = c + m - b ∧ R = c) ∨ (m ≤ c ∧ S = a ∧ R = m)) (h1 : S ≤ h) (h2 : h < r) (h3 : r ≤ R)
    (hd : dayAt l h ≤ dayAt l (c + m - 1 - h)) (q : Nat) (q1 : S ≤ q) (q2 : q < h + 1) : dayAt l q ≤ dayAt l (c + m - 1 - q) := by
  have e1 := m1.le (p := q) (q := h) (by omega) (by omega) (by omega)
  have e2 := m2.le (p := c + m - 1 - h) (q := c + m - 1 - q) (by omega) (by omega) (by omega)
  omega
theorem spl_dn {l : List α} {a m b c S R s h : Nat} (m1 : SrtD l a m) (m2 : SrtD l m b) (ham : a < m) (hmb : m < b) (hc : c = (a + b) / 2) (hS : (c < m ∧ S = c + m - b ∧ R = c) ∨ (m ≤ c ∧ S = a ∧ R = m)) (h1 : S ≤ s) (h2 : s ≤ h) (h3 : h < R)
    (hd : dayAt l (c + m - 1 - h) < dayAt l h) (q : Nat) (q1 : h ≤ q) (q2 : q < R) : dayAt l (c + m - 1 - q) < dayAt l q := by
  have e1 := m1.le (p := h) (q := q) (by omega) (by omega) (by omega)
  have e2 := m2.le (p := c + m - 1 - q) (q := c + m - 1 - h) (by omega) (by omega) (by omega)
  omega
theorem day_lt {l : List α} {i j : Nat} {hi : i < l.length} {hj : j < l.length} (h : cmpI (Day.day l[i]) (Day.day l[j]) < 0) : dayAt l i < dayAt l j := by
  rw [cmpI_neg] at h; rw [dayAt_eq hi, dayAt_eq hj]; exact h
theorem day_ge {l : List α} {i j : Nat} {hi : i < l.length} {hj : j < l.length} (h : ¬ cmpI (Day.day l[i]) (Day.day l[j]) < 0) : dayAt l j ≤ dayAt l i := by
  rw [cmpI_neg] at h; rw [dayAt_eq hi, dayAt_eq hj]; omega
end Go.Sx

/- The blocks of the stable sort; what is sorted stably is one list alone. -/
set_option linter.all false
namespace Go.Sx
open Go
variable {α : Type} [Day α]
/-- the first places, block by block -/
inductive Pre (l : List α) (q : Nat) : Nat → Prop
  | zero : Pre l q 0
  | snoc {a : Nat} : Pre l q a → SrtD l a (a + q) → Pre l q (a + q)
/-- the last places, block by block -/
inductive Blk (l : List α) (q n : Nat) : Nat → Prop
  | done {s : Nat} : n ≤ s → Blk l q n s
  | step {s : Nat} : SrtD l s (min (s + q) n) → Blk l q n (s + q) → Blk l q n s
theorem SrtD.same {l m : List α} {a b : Nat} (h : SrtD l a b) (he : ∀ k, a ≤ k → k < b → m[k]? = l[k]?) : SrtD m a b := fun p q p1 p2 p3 => by
  have e : ∀ z, a ≤ z → z < b → dayAt m z = dayAt l z := fun z h1 h2 => by unfold dayAt; rw [he z h1 h2]
  rw [e p p1 (by omega), e q (by omega) p3]; exact h p q p1 p2 p3
theorem Pre.same {l m : List α} {q a : Nat} (h : Pre l q a) (he : ∀ k, k < a → m[k]? = l[k]?) : Pre m q a := by
  induction h with
  | zero => exact .zero
  | snoc h1 h2 ih => exact .snoc (ih fun k hk => he k (by omega)) (h2.same fun k _ hk => he k hk)
theorem Blk.same {l m : List α} {q n s : Nat} (h : Blk l q n s) (he : ∀ k, s ≤ k → k < n → m[k]? = l[k]?) : Blk m q n s := by
  induction h with
  | done h => exact .done h
  | step h1 h2 ih => exact .step (h1.same fun k h3 h4 => he k h3 (by omega)) (ih fun k hk hk2 => he k (by omega) hk2)
theorem Pre.blk {l : List α} {q n a : Nat} (h : Pre l q a) (han : a ≤ n) (hb : Blk l q n a) : Blk l q n 0 := by
  induction h with
  | zero => exact hb
  | snoc h1 h2 ih => exact ih (by omega) (.step (h2.sub (Nat.le_refl _) (by omega)) hb)
theorem Pre.put {l m : List α} {q a : Nat} (h : Pre l q a) (hs : Seg l m a (a + q)) : Pre m q (a + q) := .snoc (h.same fun k hk => hs.out k (.inl hk)) hs.srt
theorem Pre.last {l m : List α} {q a n : Nat} (h : Pre l q a) (hs : Seg l m a n) (han : a ≤ n) (hq : n < a + q) : Blk m q n 0 :=
  (h.same fun k hk => hs.out k (.inl hk)).blk han (.step (hs.toD.sub (Nat.le_refl _) (by omega)) (.done (by omega)))
theorem Blk.two {l : List α} {q n s : Nat} (h : Blk l q n s) (hs : s + 2 * q ≤ n) (hq : 1 ≤ q) : SrtD l s (s + q) ∧ SrtD l (s + q) (s + 2 * q) ∧ Blk l q n (s + 2 * q) := by
  cases h with
  | done h => omega
  | step h1 h2 => cases h2 with
    | done h => omega
    | step h3 h4 => exact ⟨h1.sub (Nat.le_refl _) (by omega), h3.sub (Nat.le_refl _) (by omega), by rw [show s + 2 * q = s + q + q from by omega]; exact h4⟩
theorem Blk.one {l : List α} {q n s : Nat} (h : Blk l q n s) (hs : s + q < n) : SrtD l s (s + q) ∧ (n ≤ s + 2 * q → SrtD l (s + q) n) := by
  cases h with
  | done h => omega
  | step h1 h2 => cases h2 with
    | done h => omega
    | step h3 h4 => exact ⟨h1.sub (Nat.le_refl _) (by omega), fun h => h3.sub (Nat.le_refl _) (by omega)⟩
theorem Blk.all {l : List α} {q n s : Nat} (h : Blk l q n s) (hs : n ≤ s + q) : SrtD l s n := by
  cases h with
  | done h => exact SrtD.none (by omega)
  | step h1 h2 => exact h1.sub (Nat.le_refl _) (by omega)
/-! one list alone -/
def Srtd (l : List α) : Prop := l.Pairwise fun x y => Day.day x ≤ Day.day y
theorem SrtD.pw {l : List α} (h : SrtD l 0 l.length) : Srtd l := by
  rw [Srtd, List.pairwise_iff_getElem]
  intro i j hi hj hij
  have := h i j (Nat.zero_le _) hij hj
  rwa [dayAt_eq hi, dayAt_eq hj] at this
theorem stb_one : ∀ (m m' : List α), Srtd m → Srtd m' → (∀ d : Int, m.filter (fun e => decide (Day.day e = d)) = m'.filter (fun e => decide (Day.day e = d))) → m = m' := by
  intro m
  induction m with
  | nil =>
    intro m' _ _ h
    cases m' with
    | nil => rfl
    | cons y r => have := h (Day.day y); simp at this
  | cons x r ih =>
    intro m' h1 h2 h
    cases m' with
    | nil => have := h (Day.day x); simp at this
    | cons y r' =>
      unfold Srtd at h1 h2
      rw [List.pairwise_cons] at h1 h2
      have hx : x ∈ (y :: r') := by
        have : x ∈ (y :: r').filter (fun e => decide (Day.day e = Day.day x)) := by rw [← h]; simp
        exact (List.mem_filter.1 this).1
      have hy : y ∈ (x :: r) := by
        have : y ∈ (x :: r).filter (fun e => decide (Day.day e = Day.day y)) := by rw [h]; simp
        exact (List.mem_filter.1 this).1
      have d1 : Day.day y ≤ Day.day x := by
        rcases List.mem_cons.1 hx with e | hx
        · rw [e]; exact Int.le_refl _
        · exact h2.1 x hx
      have d2 : Day.day x ≤ Day.day y := by
        rcases List.mem_cons.1 hy with e | hy
        · rw [e]; exact Int.le_refl _
        · exact h1.1 y hy
      have hd : Day.day y = Day.day x := Int.le_antisymm d1 d2
      have h0 := h (Day.day x)
      simp only [List.filter_cons, hd, decide_true, if_true, List.cons.injEq] at h0
      obtain ⟨rfl, h0⟩ := h0
      congr 1
      refine ih r' h1.2 h2.2 fun d => ?_
      have h3 := h d
      simp only [List.filter_cons] at h3
      split at h3
      · simpa using h3
      · exact h3
def insD (e : α) : List α → List α
  | [] => [e]
  | x :: r => if Day.day e ≤ Day.day x then e :: x :: r else x :: insD e r
/-- the course of a list -/
def sortF (l : List α) : List α := l.foldr insD []
theorem insD_mem {e y : α} : ∀ {l : List α}, y ∈ insD e l ↔ y = e ∨ y ∈ l
  | [] => by simp [insD]
  | x :: r => by
    simp only [insD]
    split
    · simp
    · simp only [List.mem_cons, insD_mem (l := r)]
      constructor
      · rintro (h | h | h)
        · exact .inr (.inl h)
        · exact .inl h
        · exact .inr (.inr h)
      · rintro (h | h | h)
        · exact .inr (.inl h)
        · exact .inl h
        · exact .inr (.inr h)
theorem insD_srt {e : α} : ∀ {l : List α}, Srtd l → Srtd (insD e l)
  | [], _ => by simp [insD, Srtd]
  | x :: r, h => by
    unfold Srtd at h
    have h' := List.pairwise_cons.1 h
    simp only [insD]
    split
    · rename_i hd
      refine List.pairwise_cons.2 ⟨fun y hy => ?_, h⟩
      rcases List.mem_cons.1 hy with rfl | hy
      · exact hd
      · exact Int.le_trans hd (h'.1 y hy)
    · rename_i hd
      refine List.pairwise_cons.2 ⟨fun y hy => ?_, insD_srt h'.2⟩
      rcases insD_mem.1 hy with rfl | hy
      · omega
      · exact h'.1 y hy
theorem insD_len (e : α) : ∀ l : List α, (insD e l).length = l.length + 1
  | [] => rfl
  | x :: r => by simp only [insD]; split; · simp
                 · simp [insD_len e r]
theorem insD_filter (e : α) (d : Int) : ∀ l : List α, (insD e l).filter (fun e => decide (Day.day e = d)) = (e :: l).filter (fun e => decide (Day.day e = d))
  | [] => rfl
  | x :: r => by
    simp only [insD]
    split
    · rfl
    · rename_i hd
      rw [List.filter_cons, insD_filter e d r]
      simp only [List.filter_cons]
      by_cases h1 : Day.day x = d
      · by_cases h2 : Day.day e = d
        · omega
        · simp [h1, h2]
      · simp [h1]
theorem sortF_srt : ∀ l : List α, Srtd (sortF l)
  | [] => List.Pairwise.nil
  | x :: r => insD_srt (sortF_srt r)
theorem sortF_len : ∀ l : List α, (sortF l).length = l.length
  | [] => rfl
  | x :: r => (insD_len x (sortF r)).trans (by rw [sortF_len r]; rfl)
theorem sortF_filter (d : Int) : ∀ l : List α, (sortF l).filter (fun e => decide (Day.day e = d)) = l.filter (fun e => decide (Day.day e = d))
  | [] => rfl
  | x :: r => (insD_filter x d (sortF r)).trans (by rw [List.filter_cons, List.filter_cons, sortF_filter d r])
theorem sortF_is {l m : List α} (h : Stb l m) (hs : Srtd m) : m = sortF l := stb_one m _ hs (sortF_srt l) fun d => by rw [h.2 d, sortF_filter]
theorem sortF_mem {l : List α} {x : α} : x ∈ sortF l ↔ x ∈ l := by
  have h : ∀ (m : List α), x ∈ m ↔ x ∈ m.filter (fun e => decide (Day.day e = Day.day x)) := fun m => by simp
  rw [h, sortF_filter, ← h]
section
variable {P : Program} {n : Sz} {E : Ent} {I : IMap} {L : LL} {H : List Res} {K : Act → World → Prop}
theorem sx_unrow0 {g e k m : Nat} {xss : List (List Value)} (hU : Uk k xss) (hm : xss.length = m) (hl : m ≤ maxLen) (h : SX n E I L (.row (.slice (some ⟨g, 0, none⟩) m m) e k m xss.flatten :: H) K) : SX n E I L (.blk g e xss.flatten :: H) K := by
  have := sx_unrow (rest := []) hU (fun c hc => (by cases hc)) hm (by simp) hl h
  simpa using this
end
end Go.Sx

/- Ranging over a function: what the iterator is told of the rounds, what the loop is told of the iterator. -/
set_option linter.all false
namespace Go.Sx
open Go

/-- one call of yield -/
def YieldH (P : Program) (l : Nat) (args : List Value) (I : IMap) (H : List Res) (post : Value → IMap → List Res → Prop) : Prop :=
  ∀ w, Mem ⟨foots H, I, w⟩ I H w → After P (Instr.yield l args.toArray) w (Post ⟨foots H, I, w⟩ post)
/-- the rounds: J true pre: on behind the rounds pre; J false pre: the last one of pre has stopped it -/
def YieldsS {α : Type} (P : Program) (l : Nat) (rd : IMap → List Value → α → Prop) (ok : List α → α → Prop) (J : Bool → List α → IMap → List Res → Prop) : Prop :=
  ∀ pre x vs I H, J true pre I H → rd I vs x → ok pre x → YieldH P l vs I H fun u I' H' => ∃ b, u = .bool b ∧ J b (pre ++ [x]) I' H'
def JMono {α : Type} (J : Bool → List α → IMap → List Res → Prop) : Prop := ∀ b pre I I' H, ILe I I' → J b pre I H → J b pre I' H
/-- THE CONTRACT OF AN ITERATOR: whatever the rounds do: it yields the values of a list, in order: 'full' all of it, 'part' up to where it was stopped -/
def FnIt {α : Type} (P : Program) (f : FuncId) (cap : List Value) (I0 : IMap) (rd : IMap → List Value → α → Prop) (ok : List α → α → Prop) (full part : List α → Prop) : Prop :=
  ∀ (l : Nat) (J : Bool → List α → IMap → List Res → Prop) (I : IMap) (Hc : List Res), ILe I0 I → JMono J → YieldsS P l rd ok J → J true [] I Hc →
    FnH P f (.func (.yield l) #[] #[] :: cap).toArray I Hc fun _ I' H' => ∃ b pre, J b pre I' H' ∧ (if b then full pre else part pre)

section
variable {P : Program} {ρ : Option Nat} {n : Sz} {E : Ent} {I I' : IMap} {L : LL} {H : List Res} {Q : Exit → Act → World → Prop} {ops : Array Oper} {K : Act → World → Prop}
variable {d ty : Nat} {pos : String} {af : Array Edge}
theorem run_call_yield {a : Act} {w : World} {fo : Operand} {as_ : List Operand} {ats : Array TypeId} {l : Nat} {args : List Value} (s : St n a L) (hf : ev L fo = some (.func (.yield l) #[] #[])) (ha : evs L as_ = some args) (o : Oper)
    (ho : o.op = .call { callee := .value fo, args := as_.toArray, argTypes := ats }) : (execOp a.eval o).run P w = (Instr.yield l args.toArray).run P w := by
  have ha' : as_.toArray.map a.eval = args.toArray := by rw [← evs_spec s as_ args ha]; simp
  simp only [execOp, ho, resolve, ha', s.ev hf, Deferred.ofValue, Sem.run_bind, Sem.run_pure, Result.andThen_ok, invoke]
  congr 1
  congr 1
  simp
/-- yield, in the iterator: the caller's part of the memory is behind -/
theorem o_yield {α : Type} {l : Nat} {rd : IMap → List Value → α → Prop} {ok : List α → α → Prop} {J : Bool → List α → IMap → List Res → Prop} {Hc : List Res} {fo : Operand} {as_ : List Operand} {ats : Array TypeId} {vs : List Value} {pre : List α} {x : α}
    (hy : YieldsS P l rd ok J) (hJ : J true pre I Hc) (hr : rd I vs x) (hk : ok pre x) (hf : ev L fo = some (.func (.yield l) #[] #[])) (ha : evs L as_ = some vs) (hd : Nat.blt d n.sz = true)
    (k : ∀ b I' Hc', ILe I I' → J b (pre ++ [x]) I' Hc' → SX n E I' ((d, .bool b) :: L) (H ++ Hc') K) :
    SX n E I L (H ++ Hc) (one P ops Q ⟨some d, .call { callee := .value fo, args := as_.toArray, argTypes := ats }, ty, pos, af, none⟩ K) := by
  refine sx_perm List.perm_append_comm ?_
  refine o_after (hy pre x vs I Hc hJ hr hk) (fun a w s => run_call_yield s hf ha _ rfl) hd fun v I' H' hI hp => ?_
  obtain ⟨b, rfl, hp⟩ := hp
  exact sx_perm List.perm_append_comm (k b I' H' hI hp)

/-! the rounds -/
def putAll : List (Nat × Value) → LL → LL
  | [], L => L
  | (i, v) :: r, L => putAll r ((i, v) :: L)
theorem St.putAll {k : Nat} : ∀ (ps : List (Nat × Value)) {a : Act} {L : LL}, St ⟨k, []⟩ a L → (∀ p ∈ ps, p.1 < k) → St ⟨k, []⟩ { a with tmps := ps.foldl (fun t p => t.setIfInBounds p.1 p.2) a.tmps } (putAll ps L)
  | [], _, _, s, _ => s
  | (i, v) :: r, a, L, s, h => by
    have hi : i < k := h (i, v) (by simp)
    have s1 : St ⟨k, []⟩ (a.put (some i) v) ((i, v) :: L) := s.put (by simpa [Nat.blt_eq] using hi)
    exact St.putAll r s1 (fun p hp => h p (by simp [hp]))
/-- what is known of the loop's record -/
structure Rec where
  l : Nat
  D : Nat
  ready : Loop
  hs : ready.state = .ready
  hp : ready.pending = none
def Rec.busy (r : Rec) : Loop := { r.ready with state := .busy }
def Rec.done (r : Rec) (c : Code) : Loop := { r.ready with state := .done, pending := some c }
def Rec.mark (r : Rec) : Res := .any r.D (.deferred (some []))
/-- what the rounds hand on -/
def JR {α σ : Type} (I0 : IMap) (r : Rec) (Hx : σ → List Res) (p : List α → IMap → σ → Prop) (px : List α → IMap → σ → Code → Prop) : Bool → List α → IMap → List Res → Prop
  | true, pre, I, H => ∃ s, H = .any r.l (.loop r.ready) :: r.mark :: Hx s ∧ ILe I0 I ∧ p pre I s
  | false, pre, I, H => ∃ s c, H = .any r.l (.loop (r.done c)) :: r.mark :: Hx s ∧ ILe I0 I ∧ px pre I s c
def RFin {α σ : Type} (P : Program) (E : Ent) (I0 : IMap) (r : Rec) (Hx : σ → List Res) (p : List α → IMap → σ → Prop) (px : List α → IMap → σ → Code → Prop) (pre : List α) : Exit → Act → World → Prop :=
  roundPost P r.l (Post E fun u I' H' => ∃ b, u = .bool b ∧ JR I0 r Hx p px b pre I' H')
/-- behind the assignments to the loop's variables -/
def RBegin (P : Program) (r : Rec) (body : Code) (R : Exit → Act → World → Prop) : Exit → Act → World → Prop :=
  Exit.then (fun a w => ∃ w', (Instr.beginRound r.l).run P w = .ok () w' ∧ body.wq (some r.l) P R a w') (fun _ _ _ => False)
variable {α σ : Type} {I0 : IMap} {r : Rec} {Hx : σ → List Res} {p : List α → IMap → σ → Prop} {px : List α → IMap → σ → Code → Prop} {pre : List α}
theorem step_loop {w : World} {o o' : Loop} {l : Nat} (m : Mem E I (.any l (.loop o) :: H) w) : Mem E I (.any l (.loop o') :: H) (w.putObj l (.loop o')) := by
  have hr : w.heap[l]? = some (.loop o) := m.holds _ (List.mem_cons_self ..)
  have hlt : l < w.heap.size := (Array.getElem?_eq_some_iff.1 hr).1
  exact m.step rfl ⟨rfl, Nat.le_refl _⟩ rfl (by simp) (fun k hk hne => World.putObj_heap_other (fun e => hne (by subst e; rfl))) (World.putObj_heap_same hlt) (fun g hg => .inl hg)
theorem r_begin {body : Code} {R : Exit → Act → World → Prop} (h : SX n E I L (.any r.l (.loop r.busy) :: H) (body.wq (some r.l) P R)) : SX n E I L (.any r.l (.loop r.ready) :: H) (RBegin P r body R .normal) := by
  intro a w s m
  have hl : w.heap[r.l]? = some (.loop r.ready) := m.holds _ (List.mem_cons_self ..)
  exact ⟨_, run_beginRound hl r.hs, h a _ s (step_loop m)⟩
theorem r_next (s' : σ) (hI : ILe I0 I) (hp : p pre I s') (hH : H = Hx s') : SX n E I L (.any r.l (.loop r.busy) :: r.mark :: H) (RFin P E I0 r Hx p px pre .normal) := by
  subst hH
  intro a w s m
  have hl : w.heap[r.l]? = some (.loop r.busy) := m.holds _ (List.mem_cons_self ..)
  refine ⟨_, _, run_endRound none hl, .bool true, I, _, rfl, step_loop m, true, rfl, s', ?_, hI, hp⟩
  have : (({ r.busy with state := if (none : Option Code).isNone = true then .ready else .done, pending := none } : Loop)) = r.ready := by
    have h1 := r.hs; have h2 := r.hp
    unfold Rec.busy
    cases hr : r.ready
    rw [hr] at h1 h2
    simp only at h1 h2
    subst h1 h2
    rfl
  rw [this]
theorem r_jump {c : Code} (s' : σ) (hI : ILe I0 I) (hp : px pre I s' c) (hH : H = Hx s') {a : Act} {w : World} (m : Mem E I (.any r.l (.loop r.busy) :: r.mark :: H) w) :
    ∃ v w', (Instr.endRound r.l (some c)).run P w = .ok v w' ∧ Post E (fun u I' H' => ∃ b, u = .bool b ∧ JR I0 r Hx p px b pre I' H') (.returned v) w' := by
  subst hH
  have hl : w.heap[r.l]? = some (.loop r.busy) := m.holds _ (List.mem_cons_self ..)
  exact ⟨_, _, run_endRound (some c) hl, .bool false, I, _, rfl, step_loop m, false, rfl, s', c, rfl, hI, hp⟩
theorem r_ret (s' : σ) (hI : ILe I0 I) (hp : px pre I s' .ret) (hH : H = Hx s') : SX n E I L (.any r.l (.loop r.busy) :: r.mark :: H) (RFin P E I0 r Hx p px pre .ret) := fun _ _ _ m => r_jump (a := ⟨#[], []⟩) s' hI hp hH m
/-- THE STATEMENT, outermost -/
theorem c_range {k gf : Nat} {D : List Mk} {H0 : List Res} {g : Operand} {ps : List Nat} {assign body : Code} {cap : List Value} {rd : IMap → List Value → α → Prop} {ok : List α → α → Prop} {full part : List α → Prop}
    (s0 : σ) (Hx : σ → List Res) (p : List α → IMap → σ → Prop) (px : List α → IMap → σ → Code → Prop)
    (hg : ev L g = some (.func (.func gf) #[] cap.toArray)) (hcall : ∀ (args : Array Value) (w : World), (callFunc gf args).run P w = .ok (.enter gf args) w)
    (hit : FnIt P gf cap I rd ok full part) (hlen : ∀ I vs x, rd I vs x → vs.length = ps.length) (hps : ps.all (fun i => Nat.blt i k) = true)
    (hmp : ∀ pre I I' s, ILe I I' → p pre I s → p pre I' s) (hmx : ∀ pre I I' s c, ILe I I' → px pre I s c → px pre I' s c)
    (h0 : p [] I s0) (hH : Hx s0 ++ H0 = H)
    (round : ∀ (r : Rec) (E1 : Ent) pre x vs I1 s, ILe I I1 → p pre I1 s → rd I1 vs x → ok pre x →
      SX ⟨k, []⟩ E1 I1 (putAll (ps.zip vs) L) (.any r.l (.loop r.ready) :: r.mark :: Hx s) (assign.wq (some r.l) P (RBegin P r body (RFin P E1 I r Hx p px (pre ++ [x])))))
    (hdone : ∀ D' pre I1 s, ILe I I1 → full pre → p pre I1 s → SX ⟨k, .m D' :: D⟩ E I1 L (.any D' (.deferred (some [])) :: (Hx s ++ H0)) (Q .normal))
    (hstop : ∀ D' pre I1 s c, ILe I I1 → part pre → px pre I1 s c → SX ⟨k, .m D' :: D⟩ E I1 L (.any D' (.deferred (some [])) :: (Hx s ++ H0)) (c.wq none P Q)) :
    SX ⟨k, D⟩ E I L H ((Code.rangeFunc g ps.toArray assign body).wq none P Q) := by
  subst hH
  intro a w s m
  refine wpIn_rangeFunc ?_
  intro fn _
  obtain ⟨rec, hrec⟩ : ∃ rec : Loop, rec = { state := .ready, pending := none, fn, tmps := a.tmps, params := ps.toArray, assign, body, defers := w.heap.size } := ⟨_, rfl⟩
  obtain ⟨W1, hW1⟩ : ∃ W1, (w.alloc (.deferred (some []))).alloc (.loop rec) = W1 := ⟨_, rfl⟩
  obtain ⟨r, hr⟩ : ∃ r : Rec, r = ⟨w.heap.size + 1, w.heap.size, rec, by rw [hrec], by rw [hrec]⟩ := ⟨_, rfl⟩
  have hrl : r.l = w.heap.size + 1 := by rw [hr]
  have hrD : r.D = w.heap.size := by rw [hr]
  have hrr : r.ready = rec := by rw [hr]
  have hevg : a.eval g = .func (.func gf) #[] cap.toArray := s.ev hg
  refine ⟨w.heap.size + 1, [{ target := .collected w.heap.size, args := #[] }], W1, { target := .fn (.func gf) cap.toArray, args := #[.func (.yield (w.heap.size + 1)) #[] #[]] }, W1, gf,
    #[.func (.yield (w.heap.size + 1)) #[] #[]] ++ cap.toArray, W1, ?_, ?_, fun _ _ => trivial, ?_, fun h => by simp [fen, Fence.wide] at h, ?_⟩
  · rw [← hW1, hrec]; exact run_enterLoop_outer _ _ _ _ _
  · simp only [resolve, hevg]
    simp [go_sem]
  · simp [invoke, go_sem, hcall]
  have m1 : Mem E I (.any r.D (.deferred (some [])) :: (Hx s0 ++ H0)) (w.alloc (.deferred (some []))) := by
    rw [hrD]
    exact m.new rfl ⟨rfl, Nat.le_refl _⟩ rfl (by simp) (fun k hk => Below_old w _ k hk) (heap_alloc_new w _) fun g hg => by simp only [Res.foot, Option.some.injEq] at hg; omega
  have m2 : Mem E I ((.any r.l (.loop r.ready) :: r.mark :: Hx s0) ++ H0) W1 := by
    rw [hrl, hrr, ← hW1]
    have hsz : (w.alloc (.deferred (some []))).heap.size = w.heap.size + 1 := by simp
    refine m1.new rfl ⟨rfl, Nat.le_refl _⟩ rfl (by simp) (fun k hk => Below_old _ _ k hk) ?_ fun g hg => by simp only [Res.foot, Option.some.injEq] at hg; omega
    have := heap_alloc_new (w.alloc (.deferred (some []))) (.loop rec)
    rw [hsz] at this
    exact this
  -- the rounds
  have hJm : JMono (JR I r Hx p px) := by
    rintro (_ | _) pre I1 I2 H1 hle ⟨s1, h⟩
    · obtain ⟨c, h1, h2, h3⟩ := h
      exact ⟨s1, c, h1, h2.trans hle, hmx _ _ _ _ _ hle h3⟩
    · obtain ⟨h1, h2, h3⟩ := h
      exact ⟨s1, h1, h2.trans hle, hmp _ _ _ _ hle h3⟩
  have hy : YieldsS P r.l rd ok (JR I r Hx p px) := by
    rintro pre x vs I1 H1 ⟨s1, rfl, hle, hp1⟩ hx hok w1 mw
    have hl1 : w1.heap[r.l]? = some (.loop r.ready) := mw.holds _ (List.mem_cons_self ..)
    have hI1 := round r ⟨foots (.any r.l (.loop r.ready) :: r.mark :: Hx s1), I1, w1⟩ pre x vs I1 s1 hle hp1 hx hok
    have hvl : vs.toArray.size = r.ready.params.size := by rw [hrr, hrec]; simp [hlen _ _ _ hx]
    unfold After
    rw [run_yield (P := P) hl1 hvl]
    refine roundIn_of_wpIn trivial ?_
    have st1 : St ⟨k, []⟩ { tmps := ((r.ready.params.zip vs.toArray).foldl (fun tmps x => tmps.setIfInBounds x.1 x.2) r.ready.tmps), defers := [] } (putAll (ps.zip vs) L) := by
      have h0 : St ⟨k, []⟩ { a with defers := [] } L := ⟨s.size, rfl, s.get⟩
      have h1 := h0.putAll (ps.zip vs) (fun q hq => by
        have h2 := List.all_eq_true.1 hps q.1 (List.of_mem_zip hq).1
        simpa [Nat.blt_eq] using h2)
      have e : (r.ready.params.zip vs.toArray).foldl (fun tmps x => tmps.setIfInBounds x.1 x.2) r.ready.tmps = (ps.zip vs).foldl (fun t p => t.setIfInBounds p.1 p.2) a.tmps := by
        rw [hrr, hrec]
        simp
      rw [e]
      exact h1
    have m1 := Mem.call (E := ⟨foots (.any r.l (.loop r.ready) :: r.mark :: Hx s1), I1, w1⟩) (Hc := .any r.l (.loop r.ready) :: r.mark :: Hx s1) (H0 := []) (by simpa using mw)
    have h3 := hI1 _ _ st1 m1
    have e2 : r.ready.assign = assign := by rw [hrr, hrec]
    have e3 : r.ready.body = body := by rw [hrr, hrec]
    rw [e2, e3]
    exact h3
  have hf := (hit r.l (JR I r Hx p px) I _ (ILe.refl I) hJm hy ⟨s0, rfl, ILe.refl I, h0⟩).go W1 m2.call
  unfold After at hf
  rw [hcall] at hf
  have hargs : #[.func (.yield (w.heap.size + 1)) #[] #[]] ++ cap.toArray = (Value.func (.yield r.l) #[] #[] :: cap).toArray := by rw [hrl]; simp
  rw [hargs]
  refine callsIn_fen (Calls.mono hf ?_)
  rintro e w2 ⟨v, I', H', rfl, hm', b, pre, hJ, hfp⟩
  have hb := m2.back hm'
  have hsame : ∀ _ : Unit, St ⟨k, .m r.D :: D⟩ { a with defers := [{ target := .collected w.heap.size, args := #[] }] ++ a.defers } L := fun _ => ⟨s.size, by rw [hrD]; show _ :: a.defers = _; rw [s.defers]; rfl, s.get⟩
  cases b with
  | true =>
    obtain ⟨s2, rfl, hle, hp2⟩ := hJ
    have hl2 : w2.heap[w.heap.size + 1]? = some (.loop r.ready) := by rw [← hrl]; exact hb.holds _ (List.mem_cons_self ..)
    refine ⟨none, _, by have := run_endLoop (P := P) hl2 (by rw [r.hs]; simp); rw [r.hp] at this; exact this, ?_⟩
    rw [← hrl]
    have m3 := (step_loop (o' := { r.ready with state := .exhausted, pending := none }) hb).drop
    exact hdone r.D pre I' s2 hle hfp hp2 _ _ (hsame ()) m3
  | false =>
    obtain ⟨s2, c, rfl, hle, hp2⟩ := hJ
    have hl2 : w2.heap[w.heap.size + 1]? = some (.loop (r.done c)) := by rw [← hrl]; exact hb.holds _ (List.mem_cons_self ..)
    refine ⟨some c, _, by have := run_endLoop (P := P) hl2 (by simp [Rec.done]); exact this, ?_⟩
    rw [← hrl]
    have m3 := (step_loop (o' := { r.done c with state := .exhausted }) hb).drop
    exact hstop r.D pre I' s2 c hle hfp hp2 _ _ (hsame ()) m3
end
end Go.Sx

/- Loops and meetings of ways with four and five things that turn; yield with blocks of one's own in front. -/
set_option linter.all false
namespace Go.Sx
open Go
section
variable {P : Program} {ρ : Option Nat} {n : Sz} {E : Ent} {I I' : IMap} {L : LL} {H : List Res} {K : Act → World → Prop} {Q : Exit → Act → World → Prop} {ops : Array Oper} {N : Act → World → Prop}
variable {α β γ δ ε : Type}
def NextS4 (n : Sz) (E : Ent) (Ix : α → β → γ → δ → IMap) (Lx : α → β → γ → δ → LL) (Hx : α → β → γ → δ → List Res) (p : α → β → γ → δ → Prop) (μ : α → β → γ → δ → Nat) (x : α) (y : β) (z : γ) (t : δ) : Act → World → Prop :=
  fun a w => ∃ x' y' z' t', p x' y' z' t' ∧ μ x' y' z' t' < μ x y z t ∧ St n a (Lx x' y' z' t') ∧ Mem E (Ix x' y' z' t') (Hx x' y' z' t') w
theorem c_loop4 (x0 : α) (y0 : β) (z0 : γ) (t0 : δ) (Ix : α → β → γ → δ → IMap) (Lx : α → β → γ → δ → LL) (Hx : α → β → γ → δ → List Res) (p : α → β → γ → δ → Prop) (μ : α → β → γ → δ → Nat) {c : Code}
    (h0 : p x0 y0 z0 t0) (hI : Ix x0 y0 z0 t0 = I) (hL : Sub (Lx x0 y0 z0 t0) L) (hH : Hx x0 y0 z0 t0 = H)
    (round : ∀ x y z t, p x y z t → SX n E (Ix x y z t) (Lx x y z t) (Hx x y z t) (c.wq ρ P (Exit.then (NextS4 n E Ix Lx Hx p μ x y z t) Q))) : SX n E I L H ((Code.loop c).wq ρ P Q) :=
  c_loop (α := α × β × γ × δ) (x0, y0, z0, t0) (fun q => Ix q.1 q.2.1 q.2.2.1 q.2.2.2) (fun q => Lx q.1 q.2.1 q.2.2.1 q.2.2.2) (fun q => Hx q.1 q.2.1 q.2.2.1 q.2.2.2) (fun q => p q.1 q.2.1 q.2.2.1 q.2.2.2) (fun q => μ q.1 q.2.1 q.2.2.1 q.2.2.2) h0 hI hL hH
    fun ⟨x, y, z, t⟩ hp => sx_mono (round x y z t hp) fun a w h => cwq_mono (fun e a w q => by
      cases e with
      | normal => obtain ⟨x', y', z', t', h1, h2, h3, h4⟩ := q; exact ⟨(x', y', z', t'), h1, h2, h3, h4⟩
      | _ => exact q) h
theorem q_next4 {Ix : α → β → γ → δ → IMap} {Lx : α → β → γ → δ → LL} {Hx : α → β → γ → δ → List Res} {p : α → β → γ → δ → Prop} {μ : α → β → γ → δ → Nat} {x : α} {y : β} {z : γ} {t : δ} (x' : α) (y' : β) (z' : γ) (t' : δ) (hp : p x' y' z' t') (hμ : μ x' y' z' t' < μ x y z t)
    (hI : Ix x' y' z' t' = I) (hL : Sub (Lx x' y' z' t') L) (hH : Hx x' y' z' t' = H) : SX n E I L H (NextS4 n E Ix Lx Hx p μ x y z t) :=
  fun a w s m => ⟨x', y', z', t', hp, hμ, s.sub hL, by rw [hI, hH]; exact m⟩
def NextS5 (n : Sz) (E : Ent) (Ix : α → β → γ → δ → ε → IMap) (Lx : α → β → γ → δ → ε → LL) (Hx : α → β → γ → δ → ε → List Res) (p : α → β → γ → δ → ε → Prop) (μ : α → β → γ → δ → ε → Nat) (x : α) (y : β) (z : γ) (t : δ) (u : ε) : Act → World → Prop :=
  fun a w => ∃ x' y' z' t' u', p x' y' z' t' u' ∧ μ x' y' z' t' u' < μ x y z t u ∧ St n a (Lx x' y' z' t' u') ∧ Mem E (Ix x' y' z' t' u') (Hx x' y' z' t' u') w
theorem c_loop5 (x0 : α) (y0 : β) (z0 : γ) (t0 : δ) (u0 : ε) (Ix : α → β → γ → δ → ε → IMap) (Lx : α → β → γ → δ → ε → LL) (Hx : α → β → γ → δ → ε → List Res) (p : α → β → γ → δ → ε → Prop) (μ : α → β → γ → δ → ε → Nat) {c : Code}
    (h0 : p x0 y0 z0 t0 u0) (hI : Ix x0 y0 z0 t0 u0 = I) (hL : Sub (Lx x0 y0 z0 t0 u0) L) (hH : Hx x0 y0 z0 t0 u0 = H)
    (round : ∀ x y z t u, p x y z t u → SX n E (Ix x y z t u) (Lx x y z t u) (Hx x y z t u) (c.wq ρ P (Exit.then (NextS5 n E Ix Lx Hx p μ x y z t u) Q))) : SX n E I L H ((Code.loop c).wq ρ P Q) :=
  c_loop (α := α × β × γ × δ × ε) (x0, y0, z0, t0, u0) (fun q => Ix q.1 q.2.1 q.2.2.1 q.2.2.2.1 q.2.2.2.2) (fun q => Lx q.1 q.2.1 q.2.2.1 q.2.2.2.1 q.2.2.2.2) (fun q => Hx q.1 q.2.1 q.2.2.1 q.2.2.2.1 q.2.2.2.2) (fun q => p q.1 q.2.1 q.2.2.1 q.2.2.2.1 q.2.2.2.2) (fun q => μ q.1 q.2.1 q.2.2.1 q.2.2.2.1 q.2.2.2.2) h0 hI hL hH
    fun ⟨x, y, z, t, u⟩ hp => sx_mono (round x y z t u hp) fun a w h => cwq_mono (fun e a w q => by
      cases e with
      | normal => obtain ⟨x', y', z', t', u', h1, h2, h3, h4⟩ := q; exact ⟨(x', y', z', t', u'), h1, h2, h3, h4⟩
      | _ => exact q) h
theorem q_next5 {Ix : α → β → γ → δ → ε → IMap} {Lx : α → β → γ → δ → ε → LL} {Hx : α → β → γ → δ → ε → List Res} {p : α → β → γ → δ → ε → Prop} {μ : α → β → γ → δ → ε → Nat} {x : α} {y : β} {z : γ} {t : δ} {u : ε} (x' : α) (y' : β) (z' : γ) (t' : δ) (u' : ε) (hp : p x' y' z' t' u') (hμ : μ x' y' z' t' u' < μ x y z t u)
    (hI : Ix x' y' z' t' u' = I) (hL : Sub (Lx x' y' z' t' u') L) (hH : Hx x' y' z' t' u' = H) : SX n E I L H (NextS5 n E Ix Lx Hx p μ x y z t u) :=
  fun a w s m => ⟨x', y', z', t', u', hp, hμ, s.sub hL, by rw [hI, hH]; exact m⟩
end
section
variable {P : Program} {n : Sz} {E : Ent} {I : IMap} {L : LL} {Q : Exit → Act → World → Prop} {ops : Array Oper} {K : Act → World → Prop} {d ty : Nat} {pos : String} {af : Array Edge}
variable {α : Type} {l : Nat} {rd : IMap → List Value → α → Prop} {ok : List α → α → Prop} {J : Bool → List α → IMap → List Res → Prop} {Hc : List Res} {fo : Operand} {as_ : List Operand} {ats : Array TypeId} {vs : List Value} {pre : List α} {r1 r2 r3 r4 r5 : Res}
theorem o_yield1 (x : α) (hy : YieldsS P l rd ok J) (hJ : J true pre I Hc) (hr : rd I vs x) (hk : ok pre x) (hf : ev L fo = some (.func (.yield l) #[] #[])) (ha : evs L as_ = some vs) (hd : Nat.blt d n.sz = true)
    (k : ∀ b I' Hc', ILe I I' → J b (pre ++ [x]) I' Hc' → SX n E I' ((d, .bool b) :: L) (r1 :: Hc') K) : SX n E I L (r1 :: Hc) (one P ops Q ⟨some d, .call { callee := .value fo, args := as_.toArray, argTypes := ats }, ty, pos, af, none⟩ K) :=
  o_yield (H := [r1]) hy hJ hr hk hf ha hd k
theorem o_yield3 (x : α) (hy : YieldsS P l rd ok J) (hJ : J true pre I Hc) (hr : rd I vs x) (hk : ok pre x) (hf : ev L fo = some (.func (.yield l) #[] #[])) (ha : evs L as_ = some vs) (hd : Nat.blt d n.sz = true)
    (k : ∀ b I' Hc', ILe I I' → J b (pre ++ [x]) I' Hc' → SX n E I' ((d, .bool b) :: L) (r1 :: r2 :: r3 :: Hc') K) : SX n E I L (r1 :: r2 :: r3 :: Hc) (one P ops Q ⟨some d, .call { callee := .value fo, args := as_.toArray, argTypes := ats }, ty, pos, af, none⟩ K) :=
  o_yield (H := [r1, r2, r3]) hy hJ hr hk hf ha hd k
end
section
variable {P : Program} {n : Sz} {E : Ent} {I I' : IMap} {L : LL} {H : List Res} {Q : Exit → Act → World → Prop} {ops : Array Oper} {K : Act → World → Prop} {w0 : World}
variable {d ty : Nat} {pos : String} {af : Array Edge} {fo : Operand} {as_ : List Operand} {ats : Array TypeId} {f : FuncId} {args : List Value} {r : Res} {X : List Nat}
/-- a resource goes in, a value and grown memory come out -/
def FnD (P : Program) (f : FuncId) (args : Array Value) (I : IMap) (r : Res) (p : Value → IMap → Prop) : Prop := FnH P f args I [r] fun u I' H' => p u I' ∧ H' = []
theorem o_callD {p : Value → IMap → Prop} (hc : FnD P f args.toArray I r p) (h : callArgs L fo as_ = some (f, args)) (hd : Nat.blt d n.sz = true) (k : ∀ v I', ILe I I' → p v I' → SX n E I' ((d, v) :: L) H K) :
    SX n E I L (r :: H) (one P ops Q ⟨some d, .call { callee := .value fo, args := as_.toArray, argTypes := ats }, ty, pos, af, none⟩ K) :=
  o_callH (Hc := [r]) hc h hd fun v I' H' hI hp => by obtain ⟨h1, rfl⟩ := hp; exact k v I' hI h1
theorem q_d {v : Value} {p : Value → IMap → Prop} (h : p v I) : SX n E I L H fun _ w => Post E (fun u' I' H' => p u' I' ∧ H' = []) (.returned v) w := q_i h
theorem q_it {α : Type} {J : Bool → List α → IMap → List Res → Prop} {full part : List α → Prop} {v : Value} (b : Bool) (pre : List α) (hJ : J b pre I H) (hf : if b then full pre else part pre) :
    SX n E I L H fun _ w => Post E (fun _ I' H' => ∃ b pre, J b pre I' H' ∧ (if b then full pre else part pre)) (.returned v) w := q_post (fun _ m => m) ⟨b, pre, hJ, hf⟩
end
section
variable {n : Sz} {E : Ent} {I : IMap} {L : LL} {H : List Res} {K : Act → World → Prop} {a b r1 r2 r3 r4 r5 r6 r7 r8 r9 : Res}
theorem sx_exp2 (h : SX n E I L [a, b, r1, r2] K) : SX n E I L (a :: b :: [r1, r2]) K := h
theorem sx_app2 (h : SX n E I L (a :: r1 :: r2 :: H) K) : SX n E I L (a :: ([r1, r2] ++ H)) K := h
theorem sx_exp5 (h : SX n E I L [a, b, r1, r2, r3, r4, r5] K) : SX n E I L (a :: b :: [r1, r2, r3, r4, r5]) K := h
theorem sx_app5 (h : SX n E I L (a :: r1 :: r2 :: r3 :: r4 :: r5 :: H) K) : SX n E I L (a :: ([r1, r2, r3, r4, r5] ++ H)) K := h
end
section
variable {P : Program} {n : Sz} {E : Ent} {I : IMap} {L : LL} {H : List Res} {d ty tx tyy : Nat} {pos : String} {af : Array Edge} {x y : Operand}
theorem v_rem {i j : Nat} (hx : ev L x = some (.int .i64 ((i : Nat) : Int))) (hy : ev L y = some (.int .i64 ((j : Nat) : Int))) (hj : 0 < j) (hb : i ≤ 9223372036854775807) : OV P n E I L H ⟨some d, .binOp .rem tx x y tyy, ty, pos, af, none⟩ (.int .i64 ((i % j : Nat) : Int)) := fun a w s _ => by
  have h1 : (j : Int) ≠ 0 := by omega
  have h2 : Int.tmod (i : Int) (j : Int) = ((i % j : Nat) : Int) := by rw [Int.tmod_eq_emod_of_nonneg (by omega)]; simp
  have h3 : i % j ≤ i := Nat.mod_le _ _
  simp only [execOp, s.ev hx, s.ev hy, eqGuard_at_int, binOp_rem, Op.intDiv, Sem.run_bind]
  simp [h1, h2]
  intro h0
  omega
end
end Go.Sx

/- The course of events in plain Lean: states one after the other; deleting in place. -/
set_option linter.all false
namespace Go.Sx
open Go
theorem idxF_ge {α : Type} (p : α → Bool) (l : List α) : -1 ≤ idxF p l := by
  cases h : l.findIdx? p with
  | none => have : idxF p l = -1 := by simp [idxF, h]
            omega
  | some k => have : idxF p l = (k : Int) := by simp [idxF, h]
              omega
theorem idxF_pos {α : Type} {p : α → Bool} {l : List α} {i : Nat} (h : idxF p l = (i : Int)) (hi : i < l.length) : p l[i] = true ∧ ∀ j x, j < i → l[j]? = some x → p x = false := by
  cases hf : l.findIdx? p with
  | none => have : idxF p l = -1 := by simp [idxF, hf]
            omega
  | some k =>
    have : idxF p l = (k : Int) := by simp [idxF, hf]
    obtain rfl : k = i := by omega
    rw [List.findIdx?_eq_some_iff_getElem] at hf
    obtain ⟨h1, h2, h3⟩ := hf
    exact ⟨h2, fun j x hj hx => by obtain ⟨hlt, rfl⟩ := List.getElem?_eq_some_iff.1 hx; simpa using h3 j hj⟩
/-- what the iterator of states hands to the loop -/
def rdR2 (I : IMap) (vs : List Value) (x : Res2) : Prop := ∃ w, vs = [.agg #[w], .int .i64 x.2] ∧ RdS I w x.1
/-- what lies in front of a place that is written, what is read behind it -/
structure Del (p : Evt → Bool) (l m : List Evt) (i j : Nat) : Prop where
  len : m.length = l.length
  le : i ≤ j
  hj : j ≤ l.length
  fst : m.take i = (l.take j).filter fun x => !p x
  rest : m.drop j = l.drop j
theorem Del.start {p : Evt → Bool} {l : List Evt} {i : Nat} (hi : i < l.length) (hp : p l[i] = true) (hn : ∀ j x, j < i → l[j]? = some x → p x = false) : Del p l l i (i + 1) := by
  refine ⟨rfl, by omega, by omega, ?_, rfl⟩
  rw [← take_succ_of hi, List.filter_append]
  have h1 : (l.take i).filter (fun x => !p x) = l.take i := by
    rw [List.filter_eq_self]
    intro x hx
    obtain ⟨j, hj, rfl⟩ := List.getElem_of_mem hx
    simp only [List.length_take] at hj
    rw [List.getElem_take, hn j _ (by omega) (List.getElem?_eq_getElem (by omega))]
    rfl
  rw [h1]
  simp [hp]
theorem Del.at_ {p : Evt → Bool} {l m : List Evt} {i j : Nat} (h : Del p l m i j) (hj : j < l.length) : m[j]'(by rw [h.len]; exact hj) = l[j] := by
  have h1 : (m.drop j)[0]? = (l.drop j)[0]? := by rw [h.rest]
  rw [List.getElem?_drop, List.getElem?_drop, List.getElem?_eq_getElem (by rw [h.len]; simpa using hj), List.getElem?_eq_getElem (by simpa using hj)] at h1
  simpa using h1
theorem Del.skip {p : Evt → Bool} {l m : List Evt} {i j : Nat} (h : Del p l m i j) (hj : j < l.length) (hp : p l[j] = true) : Del p l m i (j + 1) := by
  refine ⟨h.len, by have := h.le; omega, by omega, ?_, ?_⟩
  · rw [h.fst, ← take_succ_of hj, List.filter_append]; simp [hp]
  · have := congrArg (List.drop 1) h.rest; simpa [List.drop_drop] using this
theorem Del.keep {p : Evt → Bool} {l m : List Evt} {i j : Nat} (h : Del p l m i j) (hj : j < l.length) (hp : p l[j] = false) : Del p l (m.set i l[j]) (i + 1) (j + 1) := by
  have hl := h.len
  have hle := h.le
  refine ⟨by simp [hl], by omega, by omega, ?_, ?_⟩
  · rw [List.take_succ_eq_append_getElem (by simp; omega), List.take_set_of_le (Nat.le_refl _), h.fst, ← take_succ_of hj, List.filter_append]
    simp [hp]
  · rw [List.drop_set_of_lt (by omega)]
    have := congrArg (List.drop 1) h.rest; simpa [List.drop_drop] using this
/-- the states after the events, until one is not possible -/
def statesF (c : List Kind) : List Part → List Evt → List Res2
  | _, [] => []
  | s, e :: r => applyF c s e :: (if (applyF c s e).2 = 0 then statesF c (applyF c s e).1 r else [])
theorem states_len (c : List Kind) : ∀ (l : List Evt) (s : List Part), (statesF c s l).length ≤ l.length
  | [], _ => Nat.le_refl _
  | e :: r, s => by
    simp only [statesF, List.length_cons]
    split
    · have := states_len c r (applyF c s e).1; omega
    · simp
abbrev Res3 := List Part × Int × Int
/-- the state after all, or where it stops -/
def runGo (c : List Kind) : List Part → Int → List Evt → Res3
  | s, _, [] => (s, -1, 0)
  | s, i, e :: r => if (applyF c s e).2 = 0 then runGo c (applyF c s e).1 (i + 1) r else ([], i, (applyF c s e).2)
def runF (c : List Kind) (l : List Evt) : Res3 := if validC c = false then ([], -1, 1) else runGo c [] 0 (sortF l)
def atF11 (c : List Kind) (l : List Evt) (day : Int) : Res3 := runF c (l.filter fun e => !decide (e.day > day))
def lastS (s : List Part) (pre : List Res2) : List Part := (pre.getLast?.map (·.1)).getD s
theorem run_full {c : List Kind} : ∀ (l : List Evt) (s : List Part) (i : Int), (∀ x ∈ statesF c s l, x.2 = 0) → runGo c s i l = (lastS s (statesF c s l), -1, 0)
  | [], s, i, _ => rfl
  | e :: r, s, i, h => by
    have h1 : (applyF c s e).2 = 0 := h _ (by simp [statesF])
    simp only [runGo, statesF, if_pos h1]
    rw [run_full r _ _ (fun x hx => h x (by simp only [statesF, if_pos h1]; exact List.mem_cons_of_mem _ hx))]
    congr 1
    cases hs : statesF c (applyF c s e).1 r with
    | nil => simp [lastS]
    | cons y t =>
      obtain ⟨z, hz⟩ : ∃ z, (y :: t).getLast? = some z := ⟨_, List.getLast?_eq_some_getLast (by simp)⟩
      simp [lastS, List.getLast?_cons_cons, hz]
theorem run_stop {c : List Kind} : ∀ (l : List Evt) (s : List Part) (i : Int) (pre rest : List Res2) (x : Res2), statesF c s l = pre ++ x :: rest → (∀ y ∈ pre, y.2 = 0) → x.2 ≠ 0 → runGo c s i l = ([], i + (pre.length : Nat), x.2)
  | [], s, i, pre, rest, x, h, _, _ => by simp [statesF] at h
  | e :: r, s, i, pre, rest, x, h, hp, hx => by
    simp only [statesF] at h
    cases pre with
    | nil =>
      simp only [List.nil_append, List.cons.injEq] at h
      simp only [runGo]
      rw [h.1, if_neg hx]
      simp
    | cons y t =>
      simp only [List.cons_append, List.cons.injEq] at h
      obtain ⟨h1, h2⟩ := h
      have h3 : y.2 = 0 := hp y (by simp)
      rw [h1] at h2
      rw [if_pos h3] at h2
      simp only [runGo, h1, if_pos h3]
      rw [run_stop r y.1 (i + 1) t rest x h2 (fun z hz => hp z (by simp [hz])) hx]
      simp only [List.length_cons, Prod.mk.injEq, true_and, and_true]
      omega
/-- a round of the iterator -/
structure StAt (c : List Kind) (l : List Evt) (i : Nat) (st : List Part) : Prop where
  le : i ≤ (statesF c [] l).length
  rest : (statesF c [] l).drop i = statesF c st (l.drop i)
theorem StAt.zero (c : List Kind) (l : List Evt) : StAt c l 0 [] := ⟨Nat.zero_le _, rfl⟩
theorem StAt.step {c : List Kind} {l : List Evt} {i : Nat} {st : List Part} (h : StAt c l i st) (hi : i < l.length) :
    (statesF c [] l).take i ++ [applyF c st l[i]] = (statesF c [] l).take (i + 1) ∧ i < (statesF c [] l).length ∧ ((applyF c st l[i]).2 = 0 → StAt c l (i + 1) (applyF c st l[i]).1) ∧ ((applyF c st l[i]).2 ≠ 0 → (statesF c [] l).take (i + 1) = statesF c [] l) := by
  have h1 := h.rest
  rw [List.drop_eq_getElem_cons hi] at h1
  simp only [statesF] at h1
  have hlt : i < (statesF c [] l).length := by
    rcases Nat.lt_or_ge i (statesF c [] l).length with h2 | h2
    · exact h2
    · rw [List.drop_eq_nil_of_le h2] at h1; cases h1
  rw [List.drop_eq_getElem_cons hlt] at h1
  simp only [List.cons.injEq] at h1
  refine ⟨?_, hlt, fun h0 => ⟨hlt, ?_⟩, fun h0 => ?_⟩
  · rw [← h1.1, take_succ_of hlt]
  · rw [h1.2, if_pos h0]
  · refine List.take_of_length_le ?_
    have h2 := h1.2
    rw [if_neg h0] at h2
    simpa using h2
theorem StAt.last {c : List Kind} {l : List Evt} {i : Nat} {st : List Part} (h : StAt c l i st) (hi : l.length ≤ i) : (statesF c [] l).take i = statesF c [] l := by
  have h1 := h.rest
  rw [List.drop_eq_nil_of_le hi] at h1
  exact List.take_of_length_le (by simpa [statesF] using h1)
/-! small names stay small -/
theorem SmF.nil : SmF [] := fun _ h => by cases h
theorem putL_mem {α : Type} {nm : α → ByteArray} {l : List α} {x y : α} (h : y ∈ putL nm l x) : y = x ∨ y ∈ l := by
  unfold putL at h
  split at h
  · rcases List.mem_or_eq_of_mem_set h with h | h
    · exact .inr h
    · exact .inl h
  · rcases List.mem_append.1 h with h | h
    · exact .inr (List.mem_of_mem_take h)
    · rcases List.mem_cons.1 h with h | h
      · exact .inl h
      · exact .inr (List.mem_of_mem_drop h)
theorem putR_sm {l : List Part} {p : Part} (h : SmF l) (hp : SmP p) : SmF (putR l p).1 := fun q hq => by
  rcases putL_mem (show q ∈ putL Part.name l p from hq) with rfl | hq
  · exact hp
  · exact h q hq
theorem applyF_sm {c : List Kind} {l : List Part} {e : Evt} (h : SmF l) (he : SmE e) : SmF (applyF c l e).1 := by
  have hz : SmP zPart := ⟨(by show (0 : Nat) ≤ _; omega), fun q hq => by simp [zPart] at hq⟩
  have hp : SmP (partP l e) := by
    unfold partP
    cases hf : findP l e.part with
    | none => exact hz
    | some p => exact h p (find_mem hf)
  have hn : SmP (noted e (partP l e)) := ⟨hp.1, fun q hq => by
    rcases putL_mem (show q ∈ putL Prp.key (partP l e).props ⟨e.key, e.value⟩ from hq) with rfl | hq
    · exact he.2.2.2.2.1
    · exact hp.2 q hq⟩
  have hnew : SmP (newP e) := ⟨he.1, fun q hq => by simp [newP] at hq⟩
  have hfail : ∀ k, SmF (failR k).1 := fun k => SmF.nil
  unfold applyF
  split
  · exact hfail 1
  · split
    · unfold applyMake
      repeat' split
      all_goals first
        | exact hfail _
        | exact putR_sm h hnew
    · unfold applyRest
      split
      · exact hfail _
      · split
        · exact hfail _
        · unfold applyOp applyFit applyRemove applyRun applyNote applyScrap
          repeat' split
          all_goals first
            | exact hfail _
            | exact putR_sm h hp
            | exact putR_sm h hn
            | exact putR_sm h ⟨hp.1, hp.2⟩
end Go.Sx

/- What the laws of the course rest on, in plain Lean. -/
set_option linter.all false
namespace Go.Sx
open Go
theorem fewE_sm {l : List Evt} {n : Int} (h : fewE l n = true) : (∀ e ∈ l, SmE e) ∧ ((l.length : Nat) : Int) ≤ n := by
  simp only [fewE, Bool.and_eq_true, decide_eq_true_eq] at h
  refine ⟨fun e he => ?_, h.2⟩
  obtain ⟨_, h1⟩ := allP_mem h.1 he
  simp only [shortE, Bool.and_eq_true, decide_eq_true_eq] at h1
  refine ⟨?_, ?_, ?_, ?_, ?_, ?_⟩ <;> unfold Sm <;> omega
theorem fewC_sm {c : List Kind} (h : fewC c = true) : SmC c := by
  simp only [fewC, Bool.and_eq_true, Bool.not_eq_true', decide_eq_false_iff_not] at h
  intro k hk
  obtain ⟨_, h1⟩ := allP_mem h.2 hk
  simp only [fewKind, Bool.and_eq_true, Bool.not_eq_true', Bool.or_eq_false_iff, decide_eq_false_iff_not] at h1
  refine ⟨by unfold Sm; omega, fun s hs => ?_⟩
  obtain ⟨_, h2⟩ := allP_mem h1.2 hs
  simp only [fewSlot, Bool.and_eq_true, Bool.not_eq_true', Bool.or_eq_false_iff, decide_eq_false_iff_not] at h2
  refine ⟨by unfold Sm; omega, fun q hq => ?_⟩
  obtain ⟨_, h3⟩ := allP_mem h2.2 hq
  simp only [Bool.not_eq_true', decide_eq_false_iff_not] at h3
  unfold Sm; omega
/-! the example -/
def nCoach : ByteArray := ⟨#[99, 111, 97, 99, 104]⟩
def nV1 : ByteArray := ⟨#[118, 49]⟩
end Go.Sx

/- The laws of the course in plain Lean. -/
set_option linter.all false
namespace Go.Sx
open Go
/-! the order -/
section
variable {α : Type} [Day α]
/-- where the elements of a day begin -/
def Beg (s : List α) (a : Nat) : Prop := ∀ j x y, j < a → s[j]? = some x → s[a]? = some y → Day.day x < Day.day y
theorem Beg.zero (s : List α) : Beg s 0 := fun j x y h => absurd h (Nat.not_lt_zero j)
end
/-! running on -/
theorem run_valid {c : List Kind} {l : List Evt} (h : (runF c l).2.2 = 0) : validC c = true := by
  unfold runF at h
  split at h
  · cases h
  · rename_i hv; simpa using hv
theorem runF_eq {c : List Kind} (hc : validC c = true) (l : List Evt) : runF c l = runGo c [] 0 (sortF l) := by unfold runF; rw [if_neg (by simp [hc])]
/-- the course of the events up to a day, of those behind it -/
def upD (l : List Evt) (day : Int) : List Evt := l.filter fun e => !decide (e.day > day)
theorem at_eq (c : List Kind) (l : List Evt) (day : Int) : atF11 c l day = runF c (upD l day) := rfl
/-! what a loop gathers -/
/-! both catalogs -/
theorem name_same (s : ByteArray) : nameOk s = nameRef s := by
  rw [Bool.eq_iff_iff]
  simp only [nameOk, nameRef, Bool.and_eq_true, Bool.not_eq_true', decide_eq_false_iff_not, decide_eq_true_eq, charsTo, wordsTo, List.all_eq_true, List.mem_range, nameChar, isWord, Bool.or_eq_true]
  have he : s = ⟨#[]⟩ ↔ s.size = 0 := by
    constructor
    · rintro rfl; rfl
    · intro h
      cases s with | mk d => congr 1; exact Array.eq_empty_of_size_eq_zero h
  constructor
  · rintro ⟨h1, h2, h3⟩
    have hp : 0 < s.size := by rcases Nat.eq_zero_or_pos s.size with h | h; · exact absurd (he.2 h) h2
                               · exact h
    refine ⟨fun i hi => ?_, ⟨by omega, h3⟩, ?_⟩
    · rcases h1 i hi with h | ⟨_, h | h⟩
      · exact .inl (.inl h)
      · exact .inl (.inr h)
      · exact .inr h
    · rcases h1 0 hp with h | ⟨h, _⟩
      · exact h
      · exact absurd rfl h
  · rintro ⟨h1, ⟨h2, h3⟩, h4⟩
    refine ⟨fun i hi => ?_, fun h => by have := he.1 h; omega, h3⟩
    by_cases h0 : i = 0
    · subst h0; exact .inl h4
    · rcases h1 i hi with (h | h) | h
      · exact .inl h
      · exact .inr ⟨h0, .inl h⟩
      · exact .inr ⟨h0, .inr h⟩
theorem hit_id (ks : List ByteArray) (n : ByteArray) : hit id ks n = decide (n ∈ ks) := by
  rw [hit_eq, Bool.eq_iff_iff, List.any_eq_true, decide_eq_true_eq]
  constructor
  · rintro ⟨x, hx, he⟩; obtain rfl : x = n := by simpa using he
    exact hx
  · intro h; exact ⟨n, h, by simp⟩
theorem hit_map {α : Type} (nm : α → ByteArray) (l : List α) (s : ByteArray) : hit nm l s = decide (s ∈ l.map nm) := by
  rw [hit_eq, Bool.eq_iff_iff, List.any_eq_true, decide_eq_true_eq, List.mem_map]
  constructor
  · rintro ⟨x, hx, he⟩; exact ⟨x, hx, by simpa using he⟩
  · rintro ⟨x, hx, he⟩; exact ⟨x, hx, by simp [he]⟩
theorem kindIn_same (pre : List Kind) (ks : List ByteArray) (n : ByteArray) : kindIn pre ks n = kindInR pre ks n := by
  unfold kindIn kindInR
  rw [hit_id]
  have h : hitV Kind.name (fun k => !k.vehicle) pre n = ((findK pre n).isSome && !((findK pre n).getD zKind).vehicle) := by
    unfold hitV findK
    cases pre.find? fun k => decide (k.name = n) <;> rfl
  rw [h]
  cases decide (n ∈ ks) <;> cases (findK pre n).isSome <;> cases ((findK pre n).getD zKind).vehicle <;> rfl
theorem slotFine_same (pre : List Kind) (sl : List Slot) (s : Slot) : slotFine pre sl s = slotFineR pre sl s := by
  unfold slotFine slotFineR slotR
  rw [hit_map, name_same, show kindIn pre = kindInR pre from funext fun ks => funext fun n => kindIn_same pre ks n]
  cases decide (s.name ∈ sl.map Slot.name) <;> cases nameRef s.name <;> cases decide (s.normal < 1) <;> cases decide ((s.kinds.length : Int) < s.normal) <;> cases allP (kindInR pre) s.kinds s.kinds.length <;> rfl
theorem kindFine_same (pre : List Kind) (k : Kind) : kindFine pre k = kindFineR pre k := by
  unfold kindFine kindFineR
  rw [name_same, show slotFine pre = slotFineR pre from funext fun sl => funext fun s => slotFine_same pre sl s]
  rfl
theorem valid_same (c : List Kind) : validC c = validR c := by
  unfold validC validR
  rw [show kindFine = kindFineR from funext fun pre => funext fun k => kindFine_same pre k, Bool.and_comm]
  congr 1
  rw [Bool.eq_iff_iff]
  simp
end Go.Sx

/- Lists in strict order of a name: what putting one in does. -/
set_option linter.all false
namespace Go.Sx
open Go
section
variable {α : Type} {nm : α → ByteArray}
def Inc (nm : α → ByteArray) (l : List α) : Prop := l.Pairwise fun x y => sLt (nm x) (nm y) = true
theorem inc_of {l : List α} (h : Srt nm l) : Inc nm l := by
  rw [Inc, List.pairwise_iff_getElem]
  exact fun i j hi hj hij => h i j hj hij
/-- a list parted at a name -/
structure Cut (nm : α → ByteArray) (s : ByteArray) (a b : List α) : Prop where
  lo : ∀ y ∈ a, sLt (nm y) s = true
  hi : ∀ y ∈ b, sLt s (nm y) = true
theorem cut_of (l : List α) (s : ByteArray) (h : Inc nm l) : (∃ a b, l = a ++ b ∧ Cut nm s a b) ∨ ∃ a y b, l = a ++ y :: b ∧ nm y = s ∧ Cut nm s a b := by
  induction l with
  | nil => exact .inl ⟨[], [], rfl, fun _ h => (by cases h), fun _ h => (by cases h)⟩
  | cons x r ih =>
    have h' := List.pairwise_cons.1 h
    cases hx : sLt (nm x) s with
    | true =>
      rcases ih h'.2 with ⟨a, b, rfl, hc⟩ | ⟨a, y, b, rfl, hy, hc⟩
      · exact .inl ⟨x :: a, b, rfl, fun y hy => by rcases List.mem_cons.1 hy with rfl | hy; exact hx; exact hc.lo y hy, hc.hi⟩
      · exact .inr ⟨x :: a, y, b, rfl, hy, fun y hy => by rcases List.mem_cons.1 hy with rfl | hy; exact hx; exact hc.lo y hy, hc.hi⟩
    | false =>
      by_cases he : nm x = s
      · subst he
        exact .inr ⟨[], x, r, rfl, rfl, fun _ h => (by cases h), fun y hy => h'.1 y hy⟩
      · have hs : sLt s (nm x) = true := by
          cases hs : sLt s (nm x) with
          | true => rfl
          | false => exact absurd (sLt_tri hx hs) he
        exact .inl ⟨[], x :: r, rfl, fun _ h => (by cases h), fun y hy => by
          rcases List.mem_cons.1 hy with rfl | hy
          · exact hs
          · exact sLt_trans hs (h'.1 y hy)⟩
theorem pos_cut {a b : List α} {s : ByteArray} (hc : Cut nm s a b) : posF nm (a ++ b) s = a.length := by
  refine pos_eq (by simp) (fun q x hq hx => ?_) fun q x hq hx => ?_
  · rw [List.getElem?_append_left hq] at hx
    exact hc.lo x (List.mem_of_getElem? hx)
  · rw [List.getElem?_append_right hq] at hx
    exact sLt_asymm (hc.hi x (List.mem_of_getElem? hx))
theorem pos_cut1 {a b : List α} {y : α} {s : ByteArray} (hc : Cut nm s a b) (hy : nm y = s) : posF nm (a ++ y :: b) s = a.length := by
  refine pos_eq (by simp) (fun q x hq hx => ?_) fun q x hq hx => ?_
  · rw [List.getElem?_append_left hq] at hx
    exact hc.lo x (List.mem_of_getElem? hx)
  · rw [List.getElem?_append_right hq] at hx
    rcases List.mem_cons.1 (List.mem_of_getElem? hx) with rfl | hx
    · rw [hy]; exact sLt_irrefl s
    · exact sLt_asymm (hc.hi x hx)
theorem at_cut {a b : List α} {s : ByteArray} (hc : Cut nm s a b) : atF nm (a ++ b) s = false := by
  unfold atF
  rw [pos_cut hc]
  cases b with
  | nil => simp
  | cons y r =>
    rw [List.getElem?_append_right (Nat.le_refl _), Nat.sub_self]
    simp only [List.getElem?_cons_zero, decide_eq_false_iff_not]
    rintro rfl
    have := hc.hi y (by simp)
    rw [sLt_irrefl] at this; cases this
theorem at_cut1 {a b : List α} {y : α} {s : ByteArray} (hc : Cut nm s a b) (hy : nm y = s) : atF nm (a ++ y :: b) s = true := by
  unfold atF
  rw [pos_cut1 hc hy, List.getElem?_append_right (Nat.le_refl _), Nat.sub_self]
  simp [hy]
theorem put_cut {a b : List α} {x : α} (hc : Cut nm (nm x) a b) : putL nm (a ++ b) x = a ++ x :: b := by
  unfold putL
  rw [at_cut hc, pos_cut hc, if_neg (by decide)]
  simp
theorem put_cut1 {a b : List α} {x y : α} (hc : Cut nm (nm x) a b) (hy : nm y = nm x) : putL nm (a ++ y :: b) x = a ++ x :: b := by
  unfold putL
  rw [at_cut1 hc hy, pos_cut1 hc hy, if_pos rfl]
  simp
theorem inc_mid {a b : List α} {x : α} (ha : Inc nm a) (hb : Inc nm b) (hc : Cut nm (nm x) a b) : Inc nm (a ++ x :: b) := by
  rw [Inc, List.pairwise_append, List.pairwise_cons]
  exact ⟨ha, ⟨hc.hi, hb⟩, fun y hy z hz => by
    rcases List.mem_cons.1 hz with rfl | hz
    · exact hc.lo y hy
    · exact sLt_trans (hc.lo y hy) (hc.hi z hz)⟩
theorem put_inc {l : List α} (x : α) (h : Inc nm l) : Inc nm (putL nm l x) := by
  rcases cut_of l (nm x) h with ⟨a, b, rfl, hc⟩ | ⟨a, y, b, rfl, hy, hc⟩
  · rw [put_cut hc]
    rw [Inc, List.pairwise_append] at h
    exact inc_mid h.1 h.2.1 hc
  · rw [put_cut1 hc hy]
    rw [Inc, List.pairwise_append, List.pairwise_cons] at h
    exact inc_mid h.1 h.2.1.2 hc
theorem cut_ne {a b : List α} {s : ByteArray} (hc : Cut nm s a b) {y : α} (hy : y ∈ a ∨ y ∈ b) : nm y ≠ s := by
  rintro rfl
  rcases hy with hy | hy
  · have := hc.lo y hy; rw [sLt_irrefl] at this; cases this
  · have := hc.hi y hy; rw [sLt_irrefl] at this; cases this
theorem put_mem {l : List α} {x z : α} (h : Inc nm l) : z ∈ putL nm l x ↔ z = x ∨ (z ∈ l ∧ nm z ≠ nm x) := by
  rcases cut_of l (nm x) h with ⟨a, b, rfl, hc⟩ | ⟨a, y, b, rfl, hy, hc⟩
  · rw [put_cut hc]
    simp only [List.mem_append, List.mem_cons]
    constructor
    · rintro (h | h | h)
      · exact .inr ⟨.inl h, cut_ne hc (.inl h)⟩
      · exact .inl h
      · exact .inr ⟨.inr h, cut_ne hc (.inr h)⟩
    · rintro (h | ⟨h | h, _⟩)
      · exact .inr (.inl h)
      · exact .inl h
      · exact .inr (.inr h)
  · rw [put_cut1 hc hy]
    simp only [List.mem_append, List.mem_cons]
    constructor
    · rintro (h | h | h)
      · exact .inr ⟨.inl h, cut_ne hc (.inl h)⟩
      · exact .inl h
      · exact .inr ⟨.inr (.inr h), cut_ne hc (.inr h)⟩
    · rintro (h | ⟨h | h | h, hn⟩)
      · exact .inr (.inl h)
      · exact .inl h
      · subst h; exact absurd hy hn
      · exact .inr (.inr h)
theorem inc_uniq {l : List α} (h : Inc nm l) {x y : α} (hx : x ∈ l) (hy : y ∈ l) (he : nm x = nm y) : x = y := by
  obtain ⟨i, hi, rfl⟩ := List.getElem_of_mem hx
  obtain ⟨j, hj, rfl⟩ := List.getElem_of_mem hy
  rw [Inc, List.pairwise_iff_getElem] at h
  rcases Nat.lt_trichotomy i j with hij | rfl | hij
  · have := h i j hi hj hij; rw [he, sLt_irrefl] at this; cases this
  · rfl
  · have := h j i hj hi hij; rw [he, sLt_irrefl] at this; cases this
theorem inc_ext : ∀ {l m : List α}, Inc nm l → Inc nm m → (∀ x, x ∈ l ↔ x ∈ m) → l = m
  | [], [], _, _, _ => rfl
  | [], y :: m, _, _, h => by have := (h y).2 (by simp); cases this
  | x :: l, [], _, _, h => by have := (h x).1 (by simp); cases this
  | x :: l, y :: m, h1, h2, h => by
    have h1' := List.pairwise_cons.1 h1
    have h2' := List.pairwise_cons.1 h2
    have hxy : x = y := by
      rcases List.mem_cons.1 ((h x).1 (by simp)) with e | hx
      · exact e
      · rcases List.mem_cons.1 ((h y).2 (by simp)) with e | hy
        · exact e.symm
        · have a := h2'.1 x hx
          have b := h1'.1 y hy
          have := sLt_trans a b
          rw [sLt_irrefl] at this; cases this
    subst hxy
    congr 1
    refine inc_ext h1'.2 h2'.2 fun z => ?_
    have hz := h z
    simp only [List.mem_cons] at hz
    constructor
    · intro hzl
      rcases hz.1 (.inr hzl) with rfl | hm
      · have := h1'.1 z hzl; rw [sLt_irrefl] at this; cases this
      · exact hm
    · intro hzm
      rcases hz.2 (.inr hzm) with rfl | hm
      · have := h2'.1 z hzm; rw [sLt_irrefl] at this; cases this
      · exact hm
theorem put_comm {l : List α} {x y : α} (h : Inc nm l) (hn : nm x ≠ nm y) : putL nm (putL nm l x) y = putL nm (putL nm l y) x := by
  refine inc_ext (put_inc y (put_inc x h)) (put_inc x (put_inc y h)) fun z => ?_
  rw [put_mem (put_inc x h), put_mem h, put_mem (put_inc y h), put_mem h]
  constructor
  · rintro (rfl | ⟨rfl | ⟨h1, h2⟩, h3⟩)
    · exact .inr ⟨.inl rfl, fun e => hn e.symm⟩
    · exact .inl rfl
    · exact .inr ⟨.inr ⟨h1, h3⟩, h2⟩
  · rintro (rfl | ⟨rfl | ⟨h1, h2⟩, h3⟩)
    · exact .inr ⟨.inl rfl, hn⟩
    · exact .inl rfl
    · exact .inr ⟨.inr ⟨h1, h3⟩, h2⟩
theorem put_len {l : List α} {x : α} (h : Inc nm l) : (putL nm l x).length = if atF nm l (nm x) = true then l.length else l.length + 1 := by
  rcases cut_of l (nm x) h with ⟨a, b, rfl, hc⟩ | ⟨a, y, b, rfl, hy, hc⟩
  · rw [put_cut hc, at_cut hc]; simp; omega
  · rw [put_cut1 hc hy, at_cut1 hc hy]; simp
theorem find_inc {l : List α} (h : Inc nm l) {x : α} (hx : x ∈ l) : l.find? (fun y => decide (nm y = nm x)) = some x := by
  cases hf : l.find? fun y => decide (nm y = nm x) with
  | none =>
    rw [List.find?_eq_none] at hf
    have := hf x hx
    simp at this
  | some y =>
    have h1 := List.mem_of_find?_eq_some hf
    have h2 := List.find?_some hf
    rw [inc_uniq h h1 hx (by simpa using h2)]
theorem find_iff {l : List α} (h : Inc nm l) {s : ByteArray} {x : α} : l.find? (fun y => decide (nm y = s)) = some x ↔ x ∈ l ∧ nm x = s := by
  constructor
  · intro hf
    exact ⟨List.mem_of_find?_eq_some hf, by simpa using List.find?_some hf⟩
  · rintro ⟨hx, rfl⟩; exact find_inc h hx
theorem find_none {l : List α} {s : ByteArray} : l.find? (fun y => decide (nm y = s)) = none ↔ ∀ x ∈ l, nm x ≠ s := by
  rw [List.find?_eq_none]; simp
theorem put_find {l : List α} {x : α} (h : Inc nm l) (s : ByteArray) : (putL nm l x).find? (fun y => decide (nm y = s)) = if nm x = s then some x else l.find? fun y => decide (nm y = s) := by
  have h1 := put_inc x h
  split
  · rename_i e; subst e; exact find_inc h1 ((put_mem h).2 (.inl rfl))
  · rename_i e
    cases hf : l.find? fun y => decide (nm y = s) with
    | none =>
      rw [find_none] at hf ⊢
      intro z hz
      rcases (put_mem h).1 hz with rfl | ⟨hz, _⟩
      · exact e
      · exact hf z hz
    | some y =>
      rw [find_iff h] at hf
      rw [find_iff h1]
      exact ⟨(put_mem h).2 (.inr ⟨hf.1, fun e' => e (e'.symm.trans hf.2)⟩), hf.2⟩
theorem at_find {l : List α} (h : Inc nm l) (s : ByteArray) : atF nm l s = (l.find? fun y => decide (nm y = s)).isSome := by
  rcases cut_of l s h with ⟨a, b, rfl, hc⟩ | ⟨a, y, b, rfl, hy, hc⟩
  · rw [at_cut hc]
    have : (a ++ b).find? (fun y => decide (nm y = s)) = none := find_none.2 fun x hx => cut_ne hc (List.mem_append.1 hx)
    rw [this]; rfl
  · rw [at_cut1 hc hy]
    have : (a ++ y :: b).find? (fun y => decide (nm y = s)) = some y := (find_iff h).2 ⟨by simp, hy⟩
    rw [this]; rfl
end
end Go.Sx

/- What the references of catalog, event, fleet and course compute, in plain Lean: the same as_ the program. -/
set_option linter.all false
namespace Go.Sx
open Go
theorem allP_and {α : Type} {f g : List α → α → Bool} (l : List α) (n : Nat) : allP (fun p x => f p x && g p x) l n = (allP f l n && allP g l n) := by
  rw [Bool.eq_iff_iff, Bool.and_eq_true]
  simp only [allP, List.all_eq_true, List.mem_range]
  constructor
  · intro h
    refine ⟨fun i hi => ?_, fun i hi => ?_⟩ <;>
    · have := h i hi
      revert this
      cases l[i]? with
      | none => simp
      | some x => intro h; simp_all
  · rintro ⟨h1, h2⟩ i hi
    have h3 := h1 i hi
    have h4 := h2 i hi
    revert h3 h4
    cases l[i]? with
    | none => simp
    | some x => intro h3 h4; simp_all
theorem row_one {h : Option Nat → Option Obj} {v : Value} {t : TypeId} {k n : Nat} {xs : List Value} (hr : IsRow h v t k n xs) : v.oneCell' = true := by
  obtain ⟨_, ⟨rfl, _⟩ | ⟨g, cap, cur, rfl, _⟩⟩ := hr <;> rfl
theorem row_all {v : Value} (h : v.oneCell' = true) : ([v] : List Value).all (·.oneCell') = true := by simp [h]
theorem sx_row1 {n : Sz} {E : Ent} {I : IMap} {L : LL} {H : List Res} {K : Act → World → Prop} {v : Value} {t k m : Nat} {xs : List Value} (h : v.oneCell' = true → SX n E I L (.row v t k m xs :: H) K) : SX n E I L (.row v t k m xs :: H) K :=
  sx_know (p := v.oneCell' = true) (fun w mm => row_one (mm.holds (.row v t k m xs) (List.mem_cons_self ..))) h
/-! events -/
def ivlR (i : Ivl) : Bool := (decide (0 ≤ i.low) && decide (i.low ≤ i.high)) && decide (i.high ≤ 1000000)
theorem ivlR_eq (i : Ivl) : ivlR i = ivlOk i := by
  unfold ivlR ivlOk; rw [Bool.eq_iff_iff]; simp
def useR (u : Use) : Bool := (ivlR u.km && ivlR u.cycles) && ivlR u.load
theorem useR_eq (u : Use) : useR u = useTo u 3 := by
  simp only [useR, useTo, ivlR_eq]
  simp [List.range_succ, useAt, Bool.and_assoc]
def baseR (e : Evt) : Evt := ⟨e.op, e.day, e.part, nil8, nil8, nil8, nil8, nil8, zUse⟩
def keepR (e : Evt) : Evt :=
  if e.op = 1 then { baseR e with kind := e.kind } else if e.op = 2 then { baseR e with into := e.into, slot := e.slot } else if e.op = 4 then { baseR e with use := e.use } else if e.op = 6 then { baseR e with key := e.key, value := e.value } else baseR e
def goodR (e : Evt) : Bool :=
  if e.op = 1 then nameRef e.kind else if e.op = 2 then (nameRef e.into && nameRef e.slot) && !decide (e.into = e.part) else if e.op = 4 then useR e.use else if e.op = 6 then (nameRef e.key && decide ((1 : Int) ≤ (e.value.size : Nat))) && decide (((e.value.size : Nat) : Int) ≤ 200) else true
def evBadR (e : Evt) : Bool := (((decide (e.op < 1) || decide (7 < e.op)) || decide (e.day < 0)) || decide (40000 < e.day)) || !nameRef e.part
def validER (e : Evt) : Bool := !evBadR e && (goodR e && decide (keepR e = e))
theorem size_nil {s : ByteArray} : s = nil8 ↔ s.size = 0 := by
  constructor
  · rintro rfl; rfl
  · intro h
    cases s with | mk d => congr 1; exact Array.eq_empty_of_size_eq_zero h
theorem lt_one (s : ByteArray) : decide (((s.size : Nat) : Int) < 1) = decide (s = nil8) := by
  rw [decide_eq_decide, size_nil]; omega
theorem one_le (s : ByteArray) : decide ((1 : Int) ≤ (s.size : Nat)) = !decide (s = nil8) := by
  rw [← decide_not, decide_eq_decide, size_nil]; omega
theorem le_not (a b : Int) : decide (a ≤ b) = !decide (b < a) := by
  rw [← decide_not, decide_eq_decide]; omega
theorem evBadR_eq (e : Evt) : evBadR e = evBad e := by
  unfold evBadR evBad
  rw [name_same]
  congr 3
  rw [Bool.eq_iff_iff, Bool.or_eq_true, decide_eq_true_eq, decide_eq_true_eq, decide_eq_true_eq, wordOf_empty]
  omega
theorem keep_rest (e : Evt) : decide (keepR e = e) = decide (restOf e = zEvt) := by
  rw [decide_eq_decide]
  unfold keepR restOf baseR zEvt
  obtain ⟨op, day, part, kind, into, slot, key, value, use⟩ := e
  by_cases h1 : op = 1
  · subst h1; simp [eq_comm]
  by_cases h2 : op = 2
  · subst h2; simp [eq_comm]
  by_cases h4 : op = 4
  · subst h4; simp [eq_comm]
  by_cases h6 : op = 6
  · subst h6; simp [eq_comm]
  · simp [h1, h2, h4, h6, eq_comm]
theorem good_op (e : Evt) : goodR e = (!opBad e && !((namesOf e).any fun s => !nameOk s)) := by
  unfold goodR opBad namesOf
  by_cases h1 : e.op = 1
  · simp [h1, name_same]
  by_cases h2 : e.op = 2
  · simp [h2, name_same, Bool.and_comm]
  by_cases h4 : e.op = 4
  · simp [h4, useR_eq]
  by_cases h6 : e.op = 6
  · rw [if_neg h1, if_neg h2, if_neg h4, if_pos h6, if_neg h2, if_pos h6, if_neg h1, if_neg h2, if_pos h6, one_le, le_not]
    simp only [List.any_cons, List.any_nil, name_same]
    cases nameRef e.key <;> cases decide (e.value = nil8) <;> cases decide ((200 : Int) < (e.value.size : Nat)) <;> rfl
  · simp [h1, h2, h4, h6]
theorem validER_eq (e : Evt) : validER e = validE e := by
  unfold validER validE
  rw [evBadR_eq, good_op, keep_rest]
  cases evBad e <;> cases opBad e <;> cases decide (restOf e = zEvt) <;> cases (namesOf e).any fun s => !nameOk s <;> rfl
/-! fleets -/
def notAfter {α : Type} (nm : α → ByteArray) (pre : List α) (x : α) : Bool := match pre.getLast? with | some y => !sLt (nm y) (nm x) | none => false
theorem notAfter_eq {α : Type} (nm : α → ByteArray) (pre : List α) (x : α) : notAfter nm pre x = !ordAt nm pre x := by
  unfold notAfter ordAt; cases pre.getLast? <;> simp
theorem notAfter_at {α : Type} {nm : α → ByteArray} {l : List α} {i : Nat} (h0 : 0 < i) (hi : i < l.length) : notAfter nm (l.take i) l[i] = !sLt (nm (l[i - 1]'(by omega))) (nm l[i]) := by
  have : (l.take i).getLast? = some (l[i - 1]'(by omega)) := by
    rw [List.getLast?_eq_getElem?, List.length_take, Nat.min_eq_left (by omega), List.getElem?_take, if_pos (by omega), List.getElem?_eq_getElem]
  simp only [notAfter, this]
theorem notAfter_zero {α : Type} {nm : α → ByteArray} {l : List α} {i : Nat} (h0 : ¬ 0 < i) (x : α) : notAfter nm (l.take i) x = false := by
  obtain rfl : i = 0 := by omega
  simp [notAfter]
def propR (pre : List Prp) (q : Prp) : Bool := !(((!nameRef q.key || decide (((q.value.size : Nat) : Int) < 1)) || decide ((200 : Int) < (q.value.size : Nat))) || notAfter Prp.key pre q)
theorem propR_eq (pre : List Prp) (q : Prp) : propR pre q = (propOk q && ordAt Prp.key pre q) := by
  unfold propR propOk
  rw [notAfter_eq, name_same]
  rw [lt_one, le_not]
  cases nameRef q.key <;> cases decide (q.value = nil8) <;> cases decide ((200 : Int) < (q.value.size : Nat)) <;> cases ordAt Prp.key pre q <;> rfl
def ownBadR (c : List Kind) (p : Part) : Bool := ((((!(findK c p.kind).isSome || !nameRef p.name) || decide (p.made < 0)) || decide (p.since < p.made)) || decide (40000 < p.since)) || decide ((60 : Int) < (p.props.length : Nat))
def ownR (c : List Kind) (p : Part) : Bool := !ownBadR c p && (allP propR p.props p.props.length && ((lifeOk p.life.km && lifeOk p.life.cycles) && lifeOk p.life.damage))
theorem ownR_eq (c : List Kind) (p : Part) : ownR c p = rightP c p := by
  unfold ownR rightP
  rw [show ownBadR c p = partBad c p by unfold ownBadR partBad; rw [name_same], show propR = (fun pre q => propOk q && ordAt Prp.key pre q) from funext fun pre => funext fun q => propR_eq pre q, allP_and]
  simp only [ordF]
  cases partBad c p <;> cases allP (fun _ q => propOk q) p.props p.props.length <;> cases allP (ordAt Prp.key) p.props p.props.length <;> simp
def clash (p x : Part) : Bool := decide (x.into = p.into) && decide (x.slot = p.slot)
def bad1R (c : List Kind) (pre : List Part) (p : Part) : Bool := (!ownR c p || notAfter Part.name pre p) || !(decide (p.into = nil8) == decide (p.slot = nil8))
def bad2R (c : List Kind) (st : List Part) (p : Part) : Bool := ((!(findP st p.into).isSome || p.scrapped) || ((findP st p.into).getD zPart).scrapped) || !takesF c ((findP st p.into).getD zPart).kind p.slot p.kind
def partR (c : List Kind) (st pre : List Part) (p : Part) : Bool := !bad1R c pre p && (decide (p.into = nil8) || (!bad2R c st p && !pre.any (clash p)))
def validSR (c : List Kind) (st : List Part) : Bool := !(!validR c || decide ((20000 : Int) < (st.length : Nat))) && allP (partR c st) st st.length
theorem hit_clash (p : Part) (h : ¬ p.into = nil8) (pre : List Part) : hit seatOf (seated pre) (seatOf p) = pre.any (clash p) := by
  rw [hit_eq, Bool.eq_iff_iff, List.any_eq_true, List.any_eq_true]
  constructor
  · rintro ⟨x, hx, he⟩
    rw [seated, List.mem_filter] at hx
    refine ⟨x, hx.1, ?_⟩
    simp only [seatOf, Prod.mk.injEq, decide_eq_true_eq] at he
    simp [clash, he.1, he.2]
  · rintro ⟨x, hx, he⟩
    simp only [clash, Bool.and_eq_true, decide_eq_true_eq] at he
    refine ⟨x, ?_, by simp [seatOf, he.1, he.2]⟩
    rw [seated, List.mem_filter]
    exact ⟨hx, by simp [he.1, h]⟩
theorem partR_eq (c : List Kind) (st pre : List Part) (p : Part) : partR c st pre p = (ordAt Part.name pre p && partFine c st pre p) := by
  unfold partR partFine bad1R bad1P
  rw [notAfter_eq, ownR_eq]
  by_cases h : p.into = nil8
  · simp only [h, decide_true]
    cases rightP c p <;> cases ordAt Part.name pre p <;> cases decide (p.slot = nil8) <;> rfl
  · simp only [bad2R, bad2P, hit_clash p h, decide_eq_false h]
    cases rightP c p <;> cases ordAt Part.name pre p <;> cases decide (p.slot = nil8) <;> cases (findP st p.into).isSome <;> cases p.scrapped <;> cases ((findP st p.into).getD zPart).scrapped <;> cases pre.any (clash p) <;> cases takesF c ((findP st p.into).getD zPart).kind p.slot p.kind <;> rfl
theorem validSR_eq (c : List Kind) (st : List Part) : validSR c st = validS c st := by
  unfold validSR validS bad0S
  rw [valid_same, show partR c st = (fun pre p => ordAt Part.name pre p && partFine c st pre p) from funext fun pre => funext fun p => partR_eq c st pre p, allP_and]
  simp only [ordF]
  cases validR c <;> cases decide ((20000 : Int) < (st.length : Nat)) <;> cases allP (ordAt Part.name) st st.length <;> rfl
/-! putting in -/
section
variable {α : Type} (nm : α → ByteArray) (x : α)
def wStep1 (s : List α × Bool) (y : α) : List α × Bool := if (!s.2 && !sLt (nm y) (nm x)) = true then (s.1 ++ [x], true) else s
def wStep (s : List α × Bool) (y : α) : List α × Bool := if nm y = nm x then wStep1 nm x s y else ((wStep1 nm x s y).1 ++ [y], (wStep1 nm x s y).2)
def wF (l : List α) : List α × Bool := l.foldl (wStep nm x) ([], false)
def withF (l : List α) : List α := if (wF nm x l).2 = true then (wF nm x l).1 else (wF nm x l).1 ++ [x]
variable {nm x}
theorem wF_succ {l : List α} {i : Nat} (hi : i < l.length) : wF nm x (l.take (i + 1)) = wStep nm x (wF nm x (l.take i)) l[i] := by
  rw [← take_succ_of hi, wF, List.foldl_append]; rfl
theorem wF_len (l : List α) : (wF nm x l).1.length ≤ l.length + if (wF nm x l).2 = true then 1 else 0 := by
  suffices ∀ (l : List α) (s : List α × Bool), (l.foldl (wStep nm x) s).1.length + (if s.2 = true then 1 else 0) ≤ s.1.length + l.length + if (l.foldl (wStep nm x) s).2 = true then 1 else 0 by
    have := this l ([], false)
    unfold wF
    simp only [Bool.false_eq_true, if_false, List.length_nil, Nat.zero_add, Nat.add_zero] at this
    exact this
  intro l
  induction l with
  | nil => intro s; rw [List.foldl_nil, List.length_nil]; omega
  | cons y r ih =>
    intro s
    have h := ih (wStep nm x s y)
    rw [List.foldl_cons]
    obtain ⟨s1, s2⟩ := s
    have h2 : (wStep nm x (s1, s2) y).1.length + (if s2 = true then 1 else 0) ≤ s1.length + 1 + (if (wStep nm x (s1, s2) y).2 = true then 1 else 0) := by
      unfold wStep wStep1
      by_cases he : nm y = nm x
      · cases s2 <;> cases sLt (nm y) (nm x) <;> simp [he]
      · cases s2 <;> cases sLt (nm y) (nm x) <;> simp [he]
    simp only [List.length_cons]
    show _ + (if s2 = true then 1 else 0) ≤ s1.length + _ + _
    omega
theorem w_done {b : List α} (p : List α) (h : ∀ y ∈ b, nm y ≠ nm x) : b.foldl (wStep nm x) (p, true) = (p ++ b, true) := by
  induction b generalizing p with
  | nil => simp
  | cons y r ih =>
    rw [List.foldl_cons]
    have : wStep nm x (p, true) y = (p ++ [y], true) := by simp [wStep, wStep1, h y (by simp)]
    rw [this, ih _ (fun z hz => h z (by simp [hz]))]
    simp
theorem w_lo {p a : List α} (h : ∀ y ∈ a, sLt (nm y) (nm x) = true) : a.foldl (wStep nm x) (p, false) = (p ++ a, false) := by
  induction a generalizing p with
  | nil => simp
  | cons y r ih =>
    rw [List.foldl_cons]
    have h1 := h y (by simp)
    have hn : nm y ≠ nm x := by intro e; rw [e, sLt_irrefl] at h1; cases h1
    have : wStep nm x (p, false) y = (p ++ [y], false) := by simp [wStep, wStep1, h1, hn]
    rw [this, ih (fun z hz => h z (by simp [hz]))]
    simp
theorem with_put {l : List α} (h : Inc nm l) : withF nm x l = putL nm l x := by
  rcases cut_of l (nm x) h with ⟨a, b, rfl, hc⟩ | ⟨a, y, b, rfl, hy, hc⟩
  · rw [put_cut hc]
    have h1 : wF nm x (a ++ b) = if b = [] then (a, false) else (a ++ x :: b, true) := by
      rw [wF, List.foldl_append, w_lo hc.lo]
      cases b with
      | nil => simp
      | cons y r =>
        have h2 := hc.hi y (by simp)
        have hn : nm y ≠ nm x := cut_ne hc (.inr (by simp))
        rw [List.foldl_cons]
        have : wStep nm x ([] ++ a, false) y = (a ++ [x] ++ [y], true) := by simp [wStep, wStep1, sLt_asymm h2, hn]
        rw [this, w_done (nm := nm) (x := x) (b := r) _ (fun z hz => cut_ne hc (.inr (by simp [hz])))]
        simp
    unfold withF
    rw [h1]
    by_cases hb : b = []
    · subst hb; simp
    · simp [hb]
  · rw [put_cut1 hc hy]
    have h1 : wF nm x (a ++ y :: b) = (a ++ x :: b, true) := by
      rw [wF, List.foldl_append, w_lo hc.lo, List.foldl_cons]
      have : wStep nm x ([] ++ a, false) y = (a ++ [x], true) := by simp [wStep, wStep1, hy, sLt_irrefl]
      rw [this, w_done (nm := nm) (x := x) (b := b) _ (fun z hz => cut_ne hc (.inr hz))]
      simp
    unfold withF
    rw [h1]; simp
end
theorem seat_end {l : List Part} {p : Part} {m i : Nat} (hq : ∀ j x, j < m → l[j]? = some x → clash p x = false) (hi : i ≤ m) : (l.take i).any (clash p) = false := by
  rw [List.any_eq_false]
  intro x hx
  obtain ⟨j, hj, rfl⟩ := List.getElem_of_mem hx
  rw [List.length_take] at hj
  rw [List.getElem_take]
  simpa using hq j _ (by omega) (List.getElem?_eq_getElem (by omega))
theorem seat_hit {l : List Part} {p : Part} {m i : Nat} (hm : m < i) (hl : m < l.length) (h : clash p l[m] = true) : (l.take i).any (clash p) = true := by
  rw [List.any_eq_true]
  exact ⟨l[m], List.mem_iff_getElem.2 ⟨m, by rw [List.length_take]; omega, List.getElem_take⟩, h⟩
section
variable {α : Type} {nm : α → ByteArray} {x : α} {l : List α} {i : Nat} {out : List α} {b : Bool}
theorem wF_tt (hi : i < l.length) (hw : wF nm x (l.take i) = (out, b)) (h1 : (!b) = true) (h2 : (!sLt (nm l[i]) (nm x)) = true) (h3 : (!decide (nm l[i] = nm x)) = true) : wF nm x (l.take (i + 1)) = (out ++ [x] ++ [l[i]], true) := by
  have h4 : ¬ nm l[i] = nm x := by simpa using h3
  rw [wF_succ hi, hw, wStep, if_neg h4]; simp only [wStep1, h1, h2, Bool.and_self, if_true]
theorem wF_tf (hi : i < l.length) (hw : wF nm x (l.take i) = (out, b)) (h1 : (!b) = true) (h2 : (!sLt (nm l[i]) (nm x)) = true) (h3 : (!decide (nm l[i] = nm x)) = false) : wF nm x (l.take (i + 1)) = (out ++ [x], true) := by
  have h4 : nm l[i] = nm x := by simpa using h3
  rw [wF_succ hi, hw, wStep, if_pos h4]; simp only [wStep1, h1, h2, Bool.and_self, if_true]
theorem wF_ft (hi : i < l.length) (hw : wF nm x (l.take i) = (out, b)) (h1 : (!b && !sLt (nm l[i]) (nm x)) = false) (h3 : (!decide (nm l[i] = nm x)) = true) : wF nm x (l.take (i + 1)) = (out ++ [l[i]], b) := by
  have h4 : ¬ nm l[i] = nm x := by simpa using h3
  rw [wF_succ hi, hw, wStep, if_neg h4]; simp only [wStep1, h1, Bool.false_eq_true, if_false]
theorem wF_ff (hi : i < l.length) (hw : wF nm x (l.take i) = (out, b)) (h1 : (!b && !sLt (nm l[i]) (nm x)) = false) (h3 : (!decide (nm l[i] = nm x)) = false) : wF nm x (l.take (i + 1)) = (out, b) := by
  have h4 : nm l[i] = nm x := by simpa using h3
  rw [wF_succ hi, hw, wStep, if_pos h4]; simp only [wStep1, h1, Bool.false_eq_true, if_false]
theorem w_le (hw : wF nm x (l.take i) = (out, b)) : out.length ≤ i + 1 := by
  have h := wF_len (nm := nm) (x := x) (l.take i)
  rw [hw, List.length_take] at h
  dsimp only at h; split at h <;> omega
theorem with_t (hw : wF nm x l = (out, b)) (h : (!b) = true) : withF nm x l = out ++ [x] := by
  have : b = false := by simpa using h
  simp [withF, hw, this]
theorem with_f (hw : wF nm x l = (out, b)) (h : (!b) = false) : withF nm x l = out := by
  have : b = true := by simpa using h
  simp [withF, hw, this]
theorem any_none {p : α → Bool} (h : ∀ j x, j < l.length → l[j]? = some x → p x = false) : l.any p = false := by
  rw [List.any_eq_false]
  intro y hy
  obtain ⟨j, hj, rfl⟩ := List.getElem_of_mem hy
  simpa using h j _ hj (List.getElem?_eq_getElem hj)
theorem filter_yes {f : α → Bool} (hi : i < l.length) (h : f l[i] = true) : (l.take (i + 1)).filter f = (l.take i).filter f ++ [l[i]] := by
  rw [← take_succ_of hi, List.filter_append]; simp [h]
theorem filter_no {f : α → Bool} (hi : i < l.length) (h : f l[i] = false) : (l.take (i + 1)).filter f = (l.take i).filter f := by
  rw [← take_succ_of hi, List.filter_append]; simp [h]
end
def otherN (e : Evt) : ByteArray := if e.op = 2 then e.into else e.part
theorem otherO_eq (st : List Part) (e : Evt) : otherO st e = findP st (otherN e) := by unfold otherO otherN; split <;> rfl
def heldF (st : List Part) (into slot : ByteArray) : Bool := st.any fun x => decide (x.into = into) && (decide (slot = nil8) || decide (x.slot = slot))
theorem held_any (st : List Part) (s : ByteArray) : heldF st s nil8 = holdsAny st s := by simp [heldF, holdsAny]
theorem held_seat (st : List Part) (e : Evt) (h : e.slot ≠ nil8) : heldF st e.into e.slot = seatTaken st e := by simp [heldF, seatTaken, h]
theorem fit_slot {e : Evt} (h : validE e = true) (h2 : e.op = 2) : e.slot ≠ nil8 := by
  intro he
  simp [validE, namesOf, h2, he] at h
  have : nameOk nil8 = false := by decide
  rw [this] at h; simp at h
theorem find_idx {st : List Part} {s : ByteArray} : decide (0 ≤ idxF (fun p : Part => decide (p.name = s)) st) = (findP st s).isSome := by
  rw [idxF_any, findP, Bool.eq_iff_iff, List.any_eq_true, List.find?_isSome]
/-! the course -/
theorem run_step {c : List Kind} {st : List Part} {l : List Evt} {i : Nat} (hi : i < l.length) {z : Int} : runGo c st z (l.drop i) = if (applyF c st l[i]).2 = 0 then runGo c (applyF c st l[i]).1 (z + 1) (l.drop (i + 1)) else ([], z, (applyF c st l[i]).2) := by
  rw [List.drop_eq_getElem_cons hi]; rfl
theorem ins_right {α : Type} [Day α] {l : List α} {e : α} {k : Nat} (hk : k ≤ (sortF l).length) (h1 : ∀ j y, k ≤ j → (sortF l)[j]? = some y → Day.day y > Day.day e)
    (h2 : k = 0 ∨ ∃ y, (sortF l)[k - 1]? = some y ∧ Day.day y ≤ Day.day e) : (sortF l).take k ++ e :: (sortF l).drop k = sortF (l ++ [e]) := by
  have hs := sortF_srt l
  have hd : ∀ y ∈ (sortF l).drop k, Day.day e < Day.day y := by
    intro y hy
    obtain ⟨j, hj, rfl⟩ := List.getElem_of_mem hy
    rw [List.getElem_drop]
    exact h1 (k + j) _ (by omega) (List.getElem?_eq_getElem _)
  have ht : ∀ y ∈ (sortF l).take k, Day.day y ≤ Day.day e := by
    intro y hy
    rcases h2 with rfl | ⟨z, hz, hze⟩
    · simp at hy
    · obtain ⟨j, hj, rfl⟩ := List.getElem_of_mem hy
      rw [List.length_take] at hj
      rw [List.getElem_take]
      obtain ⟨hk1, rfl⟩ := List.getElem?_eq_some_iff.1 hz
      rw [Srtd, List.pairwise_iff_getElem] at hs
      rcases Nat.lt_or_ge j (k - 1) with hlt | hge
      · exact Int.le_trans (hs j (k - 1) (by omega) hk1 hlt) hze
      · obtain rfl : j = k - 1 := by omega
        exact hze
  refine stb_one _ _ ?_ (sortF_srt _) fun d => ?_
  · unfold Srtd at hs ⊢
    rw [← List.take_append_drop k (sortF l), List.pairwise_append] at hs
    rw [List.pairwise_append, List.pairwise_cons]
    refine ⟨hs.1, ⟨fun y hy => Int.le_of_lt (hd y hy), hs.2.1⟩, fun y hy z hz => ?_⟩
    rcases List.mem_cons.1 hz with rfl | hz
    · exact ht y hy
    · exact Int.le_trans (ht y hy) (Int.le_of_lt (hd z hz))
  · rw [sortF_filter, List.filter_append, List.filter_append, ← sortF_filter d l, List.filter_cons]
    conv => rhs; rw [← List.take_append_drop k (sortF l), List.filter_append]
    by_cases he : Day.day e = d
    · have : ((sortF l).drop k).filter (fun e => decide (Day.day e = d)) = [] := by
        rw [List.filter_eq_nil_iff]
        intro y hy
        have := hd y hy
        simp; omega
      rw [this]; simp [he]
    · simp [he]
end Go.Sx

/- Reports and choices: what they are in Lean, how they lie in memory. -/
set_option linter.all false
namespace Go.Sx
open Go
structure Rep where
  options : List Evt
  doubtful : Bool
  deriving DecidableEq
def Rep.cells (r : Rep) (s : Value) : List Value := [s, .bool r.doubtful]
instance : Enc Rep where
  k := 2
  rd I vs x := ∃ s, vs = x.cells s ∧ RdS I s x.options
  len h := by obtain ⟨ks, rfl, _⟩ := h; rfl
  mono hI h := by obtain ⟨ks, rfl, h⟩ := h; exact ⟨ks, rfl, h.le hI⟩
  one h := by obtain ⟨ks, rfl, h⟩ := h; obtain ⟨A, c, rfl, _⟩ := h; rfl
instance : Enc UInt8 where
  k := 1
  rd _ vs x := vs = [.int .u8 x.toNat]
  len h := by rw [h]; rfl
  mono _ h := h
  one h := by rw [h]; rfl
/-- an event that is picked, and the report that picks it -/
structure Pkd where
  e : Evt
  rep : Int
  lo : 0 ≤ e.day
  hi : e.day ≤ 40000
def Pkd.cells (p : Pkd) : List Value := p.e.cells ++ [ci p.rep]
instance : Enc Pkd where
  k := 15
  rd _ vs x := vs = x.cells
  len h := by rw [h]; rfl
  mono _ h := h
  one h := by rw [h]; rfl
instance : Day Pkd := ⟨fun p => p.e.day, Pkd.cells, 15, fun _ => rfl⟩
/-! reports -/
/-! numbers for reports -/
end Go.Sx

/- How reports and bytes that come in are read. -/
set_option linter.all false
namespace Go.Sx
open Go
section
variable {P : Program} {t : TypeId}
theorem u8_nat {n : Int} (h : (Lit.int .u8 n).wf = true) : ∃ a : Nat, n = (a : Int) ∧ a < 256 := by
  have h2 : 0 ≤ n ∧ n ≤ 255 := by
    simp only [Lit.wf, Bool.and_eq_true, decide_eq_true_eq] at h
    simpa [IntKind.min, IntKind.max, IntKind.signed, IntKind.bits] using h
  exact ⟨n.toNat, by omega, by omega⟩
theorem u16_nat {n : Int} (h : (Lit.int .u16 n).wf = true) : ∃ a : Nat, n = (a : Int) ∧ a < 65536 := by
  have h2 : 0 ≤ n ∧ n ≤ 65535 := by
    simp only [Lit.wf, Bool.and_eq_true, decide_eq_true_eq] at h
    simpa [IntKind.min, IntKind.max, IntKind.signed, IntKind.bits] using h
  exact ⟨n.toNat, by omega, by omega⟩
end
end Go.Sx

/- Duties: what has begun and was not met, what is overdue, what is open. -/
set_option linter.all false
namespace Go.Sx
open Go
structure Dut where
  name : ByteArray
  kind : ByteArray
  key : ByteArray
  after : Int
  within : Int
  deriving DecidableEq
structure Due where
  part : ByteArray
  rule : ByteArray
  day : Int
  deriving DecidableEq
def Dut.cells (d : Dut) : List Value := [.string d.name, .string d.kind, .string d.key, ci d.after, ci d.within]
def Due.cells (d : Due) : List Value := [.string d.part, .string d.rule, ci d.day]
instance : Enc Dut where
  k := 5
  rd _ vs x := vs = x.cells
  len h := by rw [h]; rfl
  mono _ h := h
  one h := by rw [h]; rfl
instance : Enc Due where
  k := 3
  rd _ vs x := vs = x.cells
  len h := by rw [h]; rfl
  mono _ h := h
  one h := by rw [h]; rfl
/-! sorted lists without repetition -/
section
variable {α : Type} [DecidableEq α] {lt : α → α → Bool}
def insU (lt : α → α → Bool) (x : α) : List α → List α
  | [] => [x]
  | y :: l => if lt y x = true then y :: insU lt x l else if y = x then y :: l else x :: y :: l
def srtU (lt : α → α → Bool) (l : List α) : List α := l.foldl (fun a x => insU lt x a) []
theorem insU_mem {x z : α} : ∀ {l : List α}, z ∈ insU lt x l ↔ z = x ∨ z ∈ l
  | [] => by simp [insU]
  | y :: l => by
    simp only [insU]
    split
    · simp only [List.mem_cons, insU_mem (l := l)]
      constructor
      · rintro (h | h | h)
        · exact .inr (.inl h)
        · exact .inl h
        · exact .inr (.inr h)
      · rintro (h | h | h)
        · exact .inr (.inl h)
        · exact .inl h
        · exact .inr (.inr h)
    · split
      · rename_i h1 h2
        subst h2
        simp only [List.mem_cons]
        exact ⟨.inr, fun h => h.elim .inl id⟩
      · simp only [List.mem_cons]
def SrtU (lt : α → α → Bool) (l : List α) : Prop := l.Pairwise fun a b => lt a b = true
theorem insU_srt (htr : ∀ a b c, lt a b = true → lt b c = true → lt a c = true) {x : α} : ∀ {l : List α}, (∀ y ∈ l, lt y x = false → y ≠ x → lt x y = true) → SrtU lt l → SrtU lt (insU lt x l)
  | [], _, _ => by simp [insU, SrtU]
  | y :: l, ht, h => by
    obtain ⟨h1, h2⟩ := List.pairwise_cons.1 h
    simp only [insU]
    split
    · rename_i hy
      refine List.pairwise_cons.2 ⟨fun z hz => ?_, insU_srt htr (fun z hz => ht z (by simp [hz])) h2⟩
      rcases insU_mem.1 hz with rfl | hz
      · exact hy
      · exact h1 z hz
    · split
      · exact h
      · rename_i hy hn
        have hxy := ht y (by simp) (by simpa using hy) hn
        refine List.pairwise_cons.2 ⟨fun z hz => ?_, h⟩
        rcases List.mem_cons.1 hz with rfl | hz
        · exact hxy
        · exact htr _ _ _ hxy (h1 z hz)
theorem srtU_go {z : α} : ∀ {l a : List α}, z ∈ l.foldl (fun a x => insU lt x a) a ↔ z ∈ a ∨ z ∈ l
  | [], a => by simp
  | x :: l, a => by
    rw [List.foldl_cons, srtU_go, insU_mem, List.mem_cons]
    constructor
    · rintro ((h | h) | h)
      · exact .inr (.inl h)
      · exact .inl h
      · exact .inr (.inr h)
    · rintro (h | h | h)
      · exact .inl (.inr h)
      · exact .inl (.inl h)
      · exact .inr h
theorem srtU_mem {z : α} {l : List α} : z ∈ srtU lt l ↔ z ∈ l := by unfold srtU; rw [srtU_go]; simp
theorem srtU_srtGo (htr : ∀ a b c, lt a b = true → lt b c = true → lt a c = true) : ∀ {l a : List α}, (∀ x y, (x ∈ a ∨ x ∈ l) → (y ∈ a ∨ y ∈ l) → lt y x = false → y ≠ x → lt x y = true) → SrtU lt a → SrtU lt (l.foldl (fun a x => insU lt x a) a)
  | [], a, _, h => h
  | x :: l, a, ht, h => by
    rw [List.foldl_cons]
    refine srtU_srtGo htr (fun u v hu hv => ?_) (insU_srt htr (fun y hy => ht x y (.inr (by simp)) (.inl hy)) h)
    have hm : ∀ w, (w ∈ insU lt x a ∨ w ∈ l) → (w ∈ a ∨ w ∈ x :: l) := fun w hw => by
      rcases hw with hw | hw
      · rcases insU_mem.1 hw with rfl | hw
        · exact .inr (by simp)
        · exact .inl hw
      · exact .inr (by simp [hw])
    exact ht u v (hm u hu) (hm v hv)
theorem srtU_srt (htr : ∀ a b c, lt a b = true → lt b c = true → lt a c = true) {l : List α} (ht : ∀ x ∈ l, ∀ y ∈ l, lt y x = false → y ≠ x → lt x y = true) : SrtU lt (srtU lt l) :=
  srtU_srtGo htr (fun x y hx hy => ht x (hx.elim (fun h => by cases h) id) y (hy.elim (fun h => by cases h) id)) List.Pairwise.nil
/-- there is one sorted list of given members -/
theorem SrtU.uniq (hi : ∀ a, lt a a = false) (htr : ∀ a b c, lt a b = true → lt b c = true → lt a c = true) : ∀ {l m : List α}, SrtU lt l → SrtU lt m → (∀ z, z ∈ l ↔ z ∈ m) → l = m
  | [], [], _, _, _ => rfl
  | [], y :: m, _, _, h => by have := (h y).2 (by simp); cases this
  | x :: l, [], _, _, h => by have := (h x).1 (by simp); cases this
  | x :: l, y :: m, h1, h2, h => by
    obtain ⟨a1, b1⟩ := List.pairwise_cons.1 h1
    obtain ⟨a2, b2⟩ := List.pairwise_cons.1 h2
    have e : x = y := by
      rcases List.mem_cons.1 ((h x).1 (by simp)) with e | hx
      · exact e
      rcases List.mem_cons.1 ((h y).2 (by simp)) with e | hy
      · exact e.symm
      · have := htr _ _ _ (a1 y hy) (a2 x hx)
        rw [hi] at this; cases this
    subst e
    have hn1 : x ∉ l := fun hm => by have := a1 x hm; rw [hi] at this; cases this
    have hn2 : x ∉ m := fun hm => by have := a2 x hm; rw [hi] at this; cases this
    rw [SrtU.uniq hi htr b1 b2 fun z => ?_]
    constructor
    · intro hz
      rcases List.mem_cons.1 ((h z).1 (by simp [hz])) with rfl | hz2
      · exact absurd hz hn1
      · exact hz2
    · intro hz
      rcases List.mem_cons.1 ((h z).2 (by simp [hz])) with rfl | hz2
      · exact absurd hz hn2
      · exact hz2
theorem SrtU.nodup (hi : ∀ a, lt a a = false) {l : List α} (h : SrtU lt l) : l.Nodup := by
  rw [List.nodup_iff_pairwise_ne]
  exact h.imp fun h1 e => by subst e; rw [hi] at h1; cases h1
end
/-! duties -/
def validDu (d : Dut) : Bool := (((((nameOk d.name && nameOk d.kind) && nameOk d.key) && decide (d.after ≥ 1)) && decide (d.after ≤ 7)) && decide (d.within ≥ 0)) && decide (d.within ≤ 40000)
def ownE (p : ByteArray) (day : Int) (e : Evt) : Bool := decide (e.part = p) && decide (e.day ≤ day)
def begL (d : Dut) (l : List Evt) (p : ByteArray) (day : Int) : List Int := (l.filter fun e => ownE p day e && decide (e.op = d.after)).map Evt.day
def noteL (d : Dut) (l : List Evt) (p : ByteArray) (day : Int) : List Int := (l.filter fun e => ownE p day e && (decide (e.op = 6) && decide (e.key = d.key))).map Evt.day
def metN (d : Dut) (ns : List Int) (b : Int) : Bool := ns.any fun n => decide (n ≥ b) && decide (n ≤ b + d.within)
def pendD (d : Dut) (l : List Evt) (p : ByteArray) (day : Int) : List Int := ((begL d l p day).filter fun b => !metN d (noteL d l p day) b).map fun b => b + d.within
def leastN : List Int → Option Int
  | [] => none
  | x :: l => some (l.foldl min x)
def liveK (c : List Kind) (l : List Evt) (p : ByteArray) (day : Int) : Option ByteArray :=
  if (atF11 c l day).2.2 = 0 ∧ (findP (atF11 c l day).1 p).isSome = true ∧ ((findP (atF11 c l day).1 p).getD zPart).scrapped = false then some ((findP (atF11 c l day).1 p).getD zPart).kind else none
def dueOf (k : ByteArray) (l : List Evt) (p : ByteArray) (day : Int) (d : Dut) : Option Due := if validDu d = true ∧ d.kind = k then (leastN (pendD d l p day)).map fun n => ⟨p, d.name, n⟩ else none
def pendF (ds : List Dut) (c : List Kind) (l : List Evt) (p : ByteArray) (day : Int) : List Due := match liveK c l p day with
  | none => []
  | some k => ds.filterMap (dueOf k l p day)
def dueLt (a b : Due) : Bool := decide (a.day < b.day) || (decide (a.day = b.day) && sLt a.rule b.rule)
def lateN (ds : List Dut) (c : List Kind) (l : List Evt) (p : ByteArray) (day : Int) : List ByteArray := srtU sLt (((pendF ds c l p day).filter fun x => decide (x.day < day)).map Due.rule)
def openD (ds : List Dut) (c : List Kind) (l : List Evt) (p : ByteArray) (day : Int) : List Due := srtU dueLt ((pendF ds c l p day).filter fun x => decide (x.day ≥ day))
theorem dueLt_irrefl (a : Due) : dueLt a a = false := by simp [dueLt, sLt_irrefl]
theorem dueLt_trans (a b c : Due) (h1 : dueLt a b = true) (h2 : dueLt b c = true) : dueLt a c = true := by
  simp only [dueLt, Bool.or_eq_true, Bool.and_eq_true, decide_eq_true_eq] at *
  rcases h1 with h1 | ⟨h1, h3⟩ <;> rcases h2 with h2 | ⟨h2, h4⟩
  · left; omega
  · left; omega
  · left; omega
  · right; exact ⟨by omega, sLt_trans h3 h4⟩
theorem dueLt_tri {x y : Due} (hp : x.part = y.part) (h : dueLt y x = false) (hn : y ≠ x) : dueLt x y = true := by
  simp only [dueLt, Bool.or_eq_false_iff, Bool.and_eq_false_iff, decide_eq_false_iff_not, Bool.or_eq_true, Bool.and_eq_true, decide_eq_true_eq] at *
  obtain ⟨h1, h2⟩ := h
  by_cases hd : x.day < y.day
  · exact .inl hd
  · have he : x.day = y.day := by omega
    refine .inr ⟨he, ?_⟩
    rcases h2 with h2 | h2
    · exact absurd he.symm h2
    · cases h3 : sLt x.rule y.rule with
      | true => rfl
      | false =>
        have := sLt_tri h2 h3
        exact absurd (by cases x; cases y; simp_all) hn
section
variable {ds : List Dut} {c : List Kind} {l : List Evt} {p : ByteArray} {day : Int}
theorem pend_part {x : Due} (h : x ∈ pendF ds c l p day) : x.part = p := by
  unfold pendF at h
  split at h
  · cases h
  · obtain ⟨d, _, hd⟩ := List.mem_filterMap.1 h
    unfold dueOf at hd
    split at hd
    · obtain ⟨n, _, rfl⟩ := Option.map_eq_some_iff.1 hd
      rfl
    · cases hd
theorem lateN_srt : SrtU sLt (lateN ds c l p day) := srtU_srt (lt := sLt) (fun a b c h1 h2 => sLt_trans h1 h2) fun x _ y _ h hn => by
  cases h2 : sLt x y with
  | true => rfl
  | false => exact absurd (sLt_tri h h2) hn
theorem openD_srt : SrtU dueLt (openD ds c l p day) := srtU_srt dueLt_trans fun x hx y hy h hn => dueLt_tri ((pend_part (List.mem_filter.1 hx).1).trans (pend_part (List.mem_filter.1 hy).1).symm) h hn
theorem lateN_mem {z : ByteArray} : z ∈ lateN ds c l p day ↔ ∃ x ∈ pendF ds c l p day, x.day < day ∧ x.rule = z := by
  unfold lateN
  rw [srtU_mem, List.mem_map]
  constructor
  · rintro ⟨x, hx, rfl⟩
    obtain ⟨h1, h2⟩ := List.mem_filter.1 hx
    exact ⟨x, h1, by simpa using h2, rfl⟩
  · rintro ⟨x, hx, h, rfl⟩
    exact ⟨x, List.mem_filter.2 ⟨hx, by simpa using h⟩, rfl⟩
theorem openD_mem {z : Due} : z ∈ openD ds c l p day ↔ z ∈ pendF ds c l p day ∧ day ≤ z.day := by
  unfold openD
  rw [srtU_mem, List.mem_filter]
  simp
end
end Go.Sx

/- Sums, products, quotients of intervals; formulas and the damage of a use. -/
set_option linter.all false
namespace Go.Sx
open Go
def satI (n : Int) : Int := max (-(1000000000000 : Int)) (min n (1000000000000 : Int))
def ivOk (i : Ivl) : Bool := (decide (-(1000000000000 : Int) ≤ i.low) && decide (i.low ≤ i.high)) && decide (i.high ≤ (1000000000000 : Int))
theorem ivOk_iff {i : Ivl} : ivOk i = true ↔ -(1000000000000 : Int) ≤ i.low ∧ i.low ≤ i.high ∧ i.high ≤ (1000000000000 : Int) := by simp [ivOk, and_assoc]
def zIvl : Ivl := ⟨0, 0⟩
/-- what an operation makes of the bounds -/
def bothI (f : Int → Int → Int) (a b : Ivl) : Ivl :=
  if (!ivOk a || !ivOk b) = true then zIvl else ⟨min (min (min (f a.low b.low) (f a.low b.high)) (f a.high b.low)) (f a.high b.high), max (max (max (f a.low b.low) (f a.low b.high)) (f a.high b.low)) (f a.high b.high)⟩
def addI := bothI fun a b => satI (a + b)
def subI := bothI fun a b => satI (a - b)
def mulI := bothI fun a b => satI (a * b)
def joinI (a b : Ivl) : Ivl := if (!ivOk a || !ivOk b) = true then zIvl else ⟨min a.low b.low, max a.high b.high⟩
/-- 0 no, 1 maybe, 2 yes -/
def overI (i : Ivl) (n : Int) : Int := if (!ivOk i || decide (i.high ≤ n)) = true then 0 else if i.low > n then 2 else 1
def floorI (a b : Int) : Int := if b = 0 then 0 else if a.tdiv b * b ≠ a ∧ (decide (a < 0) != decide (b < 0)) = true then a.tdiv b - 1 else a.tdiv b
def quoI (a : Ivl) (d : Int) : Ivl := ⟨min (floorI a.low d) (floorI a.high d), max (floorI a.low d) (floorI a.high d)⟩
def signedI (a : Ivl) (low high : Int) : List Ivl := if low ≤ high then [quoI a low, quoI a high] else []
def quosI (a b : Ivl) : List Ivl := (if b.low ≤ 0 ∧ b.high ≥ 0 then [zIvl] else []) ++ signedI a (max b.low 1) b.high ++ signedI a b.low (min b.high (-1))
def divI (a b : Ivl) : Ivl := (quosI a b).foldl joinI ((quosI a b).headD zIvl)
section
variable {a b : Ivl}
theorem bothI_ok (f : Int → Int → Int) (hf : ∀ x y, -(1000000000000 : Int) ≤ f x y ∧ f x y ≤ (1000000000000 : Int)) : ivOk (bothI f a b) = true := by
  unfold bothI
  split
  · decide
  · have h1 := hf a.low b.low
    have h2 := hf a.low b.high
    have h3 := hf a.high b.low
    have h4 := hf a.high b.high
    rw [ivOk_iff]; dsimp only; omega
theorem satI_in (n : Int) : -(1000000000000 : Int) ≤ satI n ∧ satI n ≤ (1000000000000 : Int) := by unfold satI; omega
theorem addI_ok : ivOk (addI a b) = true := bothI_ok _ fun _ _ => satI_in _
theorem subI_ok : ivOk (subI a b) = true := bothI_ok _ fun _ _ => satI_in _
theorem mulI_ok : ivOk (mulI a b) = true := bothI_ok _ fun _ _ => satI_in _
theorem joinI_ok : ivOk (joinI a b) = true := by
  unfold joinI
  split
  · decide
  · rename_i h
    have h1 : ivOk a = true ∧ ivOk b = true := by simpa using h
    have h2 := ivOk_iff.1 h1.1
    have h3 := ivOk_iff.1 h1.2
    rw [ivOk_iff]; dsimp only; omega
theorem not_ok (ha : ivOk a = true) (hb : ivOk b = true) : ¬ (!ivOk a || !ivOk b) = true := by simp [ha, hb]
/-- sums, as_ they are written -/
theorem addI_is (ha : ivOk a = true) (hb : ivOk b = true) : addI a b = ⟨satI (a.low + b.low), satI (a.high + b.high)⟩ := by
  have h1 := ivOk_iff.1 ha
  have h2 := ivOk_iff.1 hb
  unfold addI bothI
  rw [if_neg (not_ok ha hb)]
  dsimp only [satI]
  congr 1 <;> omega
theorem floorI_in {x d : Int} (hx : -(1000000000000 : Int) ≤ x ∧ x ≤ (1000000000000 : Int)) : -(1000000000000 : Int) ≤ floorI x d ∧ floorI x d ≤ (1000000000000 : Int) := by
  unfold floorI
  split
  · omega
  · rename_i hd
    have habs : (x.tdiv d).natAbs ≤ x.natAbs := by rw [Int.natAbs_tdiv]; exact Nat.div_le_self _ _
    split
    · rename_i h
      obtain ⟨h1, h2⟩ := h
      -- the quotient is not the dividend: it is of lesser amount, or 0
      by_cases h3 : (x.tdiv d).natAbs = x.natAbs
      · exfalso
        rw [Int.natAbs_tdiv] at h3
        rcases Nat.eq_zero_or_pos x.natAbs with h0 | h0
        · have : x = 0 := by omega
          subst this; simp at h1
        · have hd1 : d.natAbs = 1 := by
            rcases Nat.lt_or_ge d.natAbs 2 with h4 | h4
            · omega
            · have h5 := Nat.div_lt_self h0 h4
              have h6 : x.natAbs.div d.natAbs = x.natAbs / d.natAbs := rfl
              omega
          rcases Int.natAbs_eq d with h4 | h4
          · rw [hd1] at h4; rw [h4] at h1; simp at h1
          · rw [hd1] at h4; rw [h4] at h1; simp at h1
      · omega
    · omega
theorem quoI_ok {d : Int} (ha : ivOk a = true) : ivOk (quoI a d) = true := by
  have h1 := ivOk_iff.1 ha
  have h2 := floorI_in (x := a.low) (d := d) (by omega)
  have h3 := floorI_in (x := a.high) (d := d) (by omega)
  rw [ivOk_iff]; unfold quoI; dsimp only; omega
theorem quos_all (ha : ivOk a = true) : ∀ q ∈ quosI a b, ivOk q = true := fun q hq => by
  have hs : ∀ {lo hi : Int}, q ∈ signedI a lo hi → ivOk q = true := fun {lo hi} h => by
    unfold signedI at h
    split at h
    · rcases List.mem_cons.1 h with rfl | h
      · exact quoI_ok ha
      · rw [List.mem_singleton.1 h]; exact quoI_ok ha
    · cases h
  unfold quosI at hq
  rcases List.mem_append.1 hq with h | h
  · rcases List.mem_append.1 h with h | h
    · split at h
      · rw [List.mem_singleton.1 h]; decide
      · cases h
    · exact hs h
  · exact hs h
theorem fold_ok : ∀ (l : List Ivl) (x : Ivl), ivOk x = true → ivOk (l.foldl joinI x) = true
  | [], _, h => h
  | y :: l, x, h => fold_ok l _ joinI_ok
theorem divI_ok (ha : ivOk a = true) : ivOk (divI a b) = true := by
  unfold divI
  refine fold_ok _ _ ?_
  cases h : quosI a b with
  | nil => decide
  | cons y l => exact quos_all (b := b) ha y (by rw [h]; simp)
theorem joinI_at (ha : ivOk a = true) (hb : ivOk b = true) : joinI a b = ⟨min a.low b.low, max a.high b.high⟩ := by unfold joinI; rw [if_neg (not_ok ha hb)]
theorem joinI_comm : joinI a b = joinI b a := by
  unfold joinI
  rw [Bool.or_comm, Int.min_comm, Int.max_comm]
end
/-- a formula -/
inductive Fm where
  | mk (op n : Int) (kids : List Fm)
def Fm.op : Fm → Int | .mk o _ _ => o
def Fm.n : Fm → Int | .mk _ n _ => n
def Fm.kids : Fm → List Fm | .mk _ _ k => k
mutual
/-- the number of nodes, or more than most -/
def nodesF : Fm → Int → Int
  | .mk _ _ kids, most => nodesL kids 1 most
def nodesL : List Fm → Int → Int → Int
  | [], n, _ => n
  | k :: ks, n, most => if n > most then n else nodesL ks (n + nodesF k (most - n)) most
end
def wantF (op : Int) : Int := if op = 11 then 3 else if 5 ≤ op then 2 else 0
mutual
def rightF : Fm → Bool
  | .mk op n kids => !(decide (op < 1) || decide (op > 11)) && !(((decide ((kids.length : Int) ≠ wantF op) || decide (n < 0)) || decide (n > 9999999)) || (decide (n > 0) && decide (op ≠ 1))) && rightL kids
def rightL : List Fm → Bool
  | [] => true
  | k :: ks => rightF k && rightL ks
end
def letterI (u : Use) (op : Int) : Ivl := if op = 2 then u.km else if op = 3 then u.cycles else u.load
def applyI (op : Int) (a b : Ivl) : Ivl :=
  if op = 5 then addI a b else if op = 6 then subI a b else if op = 7 then mulI a b else if op = 9 then ⟨min a.low b.low, min a.high b.high⟩ else if op = 10 then ⟨max a.low b.low, max a.high b.high⟩ else divI a b
def chooseI (a b c : Ivl) : Ivl := if overI a 0 = 2 then b else if overI a 0 = 0 then c else joinI b c
/-- the range of a formula -/
def spanF (u : Use) : Fm → Ivl
  | .mk op n [] => if op = 1 then ⟨n, n⟩ else letterI u op
  | .mk op n [a, b] => applyI op (spanF u a) (spanF u b)
  | .mk op n [a, b, c] => chooseI (spanF u a) (spanF u b) (spanF u c)
  | .mk _ _ _ => zIvl
def useIv (i : Ivl) : Bool := !((decide (i.low < 0) || decide (i.low > i.high)) || decide (i.high > 1000000))
def useOk (u : Use) : Bool := (useIv u.km && useIv u.cycles) && useIv u.load
def validFm (f : Fm) : Bool := decide (nodesF f 60 ≤ 60) && rightF f
def damF (f : Fm) (u : Use) : Ivl := if useOk u = false then zIvl else if validFm f = false then zIvl else ⟨max 0 (spanF u f).low, max 0 (spanF u f).high⟩
theorem useIv_ok {i : Ivl} (h : useIv i = true) : ivOk i = true ∧ 0 ≤ i.low := by
  simp only [useIv, Bool.not_eq_true', Bool.or_eq_false_iff, decide_eq_false_iff_not] at h
  rw [ivOk_iff]; omega
theorem rightF_mk {op n : Int} {kids : List Fm} (h : rightF (.mk op n kids) = true) : (1 ≤ op ∧ op ≤ 11) ∧ (kids.length : Int) = wantF op ∧ (0 ≤ n ∧ n ≤ 9999999) ∧ ∀ k ∈ kids, rightF k = true := by
  have hl : ∀ ks : List Fm, rightL ks = true → ∀ k ∈ ks, rightF k = true := fun ks => by
    induction ks with
    | nil => intro _ k hk; cases hk
    | cons x ks ih =>
      intro h k hk
      simp only [rightL, Bool.and_eq_true] at h
      rcases List.mem_cons.1 hk with rfl | hk
      · exact h.1
      · exact ih h.2 k hk
  simp only [rightF, Bool.and_eq_true, Bool.not_eq_true', Bool.or_eq_false_iff, decide_eq_false_iff_not] at h
  exact ⟨by omega, by omega, by omega, hl kids h.2⟩
theorem applyI_ok {a b : Ivl} (op : Int) (ha : ivOk a = true) (hb : ivOk b = true) : ivOk (applyI op a b) = true := by
  have h1 := ivOk_iff.1 ha
  have h2 := ivOk_iff.1 hb
  unfold applyI
  split
  · exact addI_ok
  split
  · exact subI_ok
  split
  · exact mulI_ok
  split
  · rw [ivOk_iff]; dsimp only; omega
  split
  · rw [ivOk_iff]; dsimp only; omega
  · exact divI_ok ha
/-- it is an interval -/
theorem span_ok {u : Use} (hu : useOk u = true) : ∀ f : Fm, rightF f = true → ivOk (spanF u f) = true
  | .mk op n [], h => by
    have h1 := rightF_mk h
    simp only [useOk, Bool.and_eq_true] at hu
    simp only [spanF]
    split
    · rw [ivOk_iff]; dsimp only; omega
    · unfold letterI
      split
      · exact (useIv_ok hu.1.1).1
      split
      · exact (useIv_ok hu.1.2).1
      · exact (useIv_ok hu.2).1
  | .mk op n [a, b], h => by
    have h1 := (rightF_mk h).2.2.2
    simp only [spanF]
    exact applyI_ok op (span_ok hu a (h1 a (by simp))) (span_ok hu b (h1 b (by simp)))
  | .mk op n [a, b, c], h => by
    have h1 := (rightF_mk h).2.2.2
    simp only [spanF]
    unfold chooseI
    split
    · exact span_ok hu b (h1 b (by simp))
    split
    · exact span_ok hu c (h1 c (by simp))
    · exact joinI_ok
  | .mk op n [a], h => by simp only [spanF]; decide
  | .mk op n (a :: b :: c :: d :: l), h => by simp only [spanF]; decide
theorem damF_ok {f : Fm} {u : Use} : ivOk (damF f u) = true ∧ 0 ≤ (damF f u).low := by
  unfold damF
  split
  · exact ⟨by decide, by decide⟩
  · rename_i hu
    split
    · exact ⟨by decide, by decide⟩
    · rename_i hv
      have hr : rightF f = true := by
        have : validFm f = true := by simpa using hv
        simp only [validFm, Bool.and_eq_true] at this
        exact this.2
      have h1 := ivOk_iff.1 (span_ok (by simpa using hu) f hr)
      refine ⟨?_, by dsimp only; omega⟩
      rw [ivOk_iff]; dsimp only; omega
/-! the same, as_ the reference has it -/
def quoR (a b : Ivl) (st : Ivl × Bool) (d : Int) : Ivl × Bool := if d < b.low ∨ d > b.high ∨ d = 0 then st else ((if st.2 = true then joinI (quoI a d) st.1 else quoI a d), true)
/-- the least interval around some -/
structure Hull (p : Ivl → Prop) (r : Ivl) : Prop where
  lo : ∃ x, p x ∧ r.low = x.low
  lo2 : ∀ x, p x → r.low ≤ x.low
  hi : ∃ x, p x ∧ r.high = x.high
  hi2 : ∀ x, p x → x.high ≤ r.high
section
variable {p q : Ivl → Prop} {r r' y : Ivl} {a b : Ivl}
theorem Hull.uniq (h : Hull p r) (h' : Hull q r') (e : ∀ x, p x ↔ q x) : r = r' := by
  obtain ⟨x, hx, e1⟩ := h.lo
  obtain ⟨x', hx', e1'⟩ := h'.lo
  obtain ⟨z, hz, e2⟩ := h.hi
  obtain ⟨z', hz', e2'⟩ := h'.hi
  have h1 := h.lo2 x' ((e _).2 hx')
  have h2 := h'.lo2 x ((e _).1 hx)
  have h3 := h.hi2 z' ((e _).2 hz')
  have h4 := h'.hi2 z ((e _).1 hz)
  cases r; cases r'
  congr 1
  · dsimp only at *; omega
  · dsimp only at *; omega
theorem Hull.one (x : Ivl) : Hull (fun z => z = x) x := ⟨⟨x, rfl, rfl⟩, fun z h => by rw [h]; omega, ⟨x, rfl, rfl⟩, fun z h => by rw [h]; omega⟩
theorem Hull.join (h : Hull p r) (hr : ivOk r = true) (hy : ivOk y = true) : Hull (fun x => p x ∨ x = y) (joinI r y) := by
  rw [joinI_at hr hy]
  refine ⟨?_, fun x hx => ?_, ?_, fun x hx => ?_⟩
  · obtain ⟨x, hx, e⟩ := h.lo
    rcases Int.le_total r.low y.low with h1 | h1
    · exact ⟨x, .inl hx, by dsimp only; omega⟩
    · exact ⟨y, .inr rfl, by dsimp only; omega⟩
  · dsimp only
    rcases hx with hx | rfl
    · have := h.lo2 x hx; omega
    · omega
  · obtain ⟨x, hx, e⟩ := h.hi
    rcases Int.le_total y.high r.high with h1 | h1
    · exact ⟨x, .inl hx, by dsimp only; omega⟩
    · exact ⟨y, .inr rfl, by dsimp only; omega⟩
  · dsimp only
    rcases hx with hx | rfl
    · have := h.hi2 x hx; omega
    · omega
/-- one more divisor -/
def AddQ (a b : Ivl) (p : Ivl → Prop) (d : Int) (x : Ivl) : Prop := p x ∨ ((b.low ≤ d ∧ d ≤ b.high ∧ d ≠ 0) ∧ x = quoI a d)
def QInv (p : Ivl → Prop) (st : Ivl × Bool) : Prop := (st.2 = false → ∀ x, ¬ p x) ∧ (st.2 = true → Hull p st.1 ∧ ivOk st.1 = true)
theorem QInv.step {st : Ivl × Bool} (ha : ivOk a = true) (h : QInv p st) (d : Int) : QInv (AddQ a b p d) (quoR a b st d) := by
  unfold quoR
  split
  · rename_i hs
    have e : AddQ a b p d = p := by
      funext x
      apply propext
      exact ⟨fun h => h.elim id fun h => by have := h.1; omega, .inl⟩
    rw [e]; exact h
  · rename_i hs
    refine ⟨fun h => (by cases h), fun _ => ?_⟩
    have hr : b.low ≤ d ∧ d ≤ b.high ∧ d ≠ 0 := by omega
    have hq := quoI_ok (d := d) ha
    dsimp only
    split
    · rename_i hf
      obtain ⟨h1, h2⟩ := h.2 hf
      rw [joinI_comm]
      have h3 := h1.join h2 hq
      have e : AddQ a b p d = fun x => p x ∨ x = quoI a d := by
        funext x
        apply propext
        exact ⟨fun h => h.elim .inl fun h => .inr h.2, fun h => h.elim .inl fun h => .inr ⟨hr, h⟩⟩
      rw [e]; exact ⟨h3, joinI_ok⟩
    · rename_i hf
      have h1 := h.1 (by simpa using hf)
      have e : AddQ a b p d = fun x => x = quoI a d := by
        funext x
        apply propext
        exact ⟨fun h => h.elim (fun h => absurd h (h1 x)) fun h => h.2, fun h => .inr ⟨hr, h⟩⟩
      rw [e]; exact ⟨Hull.one _, hq⟩
end
end Go.Sx

/- The lives of parts: what a run adds, and that nothing else depends on lives. -/
set_option linter.all false
namespace Go.Sx
open Go
/-- where a part is -/
def upP (st : List Part) (n : ByteArray) : ByteArray := ((findP st n).getD zPart).into
/-- whether a part is reached within some steps up -/
def reachF (st : List Part) (v : ByteArray) : Nat → ByteArray → Bool
  | 0, _ => false
  | k + 1, n => !decide (upP st n = nil8) && (decide (upP st n = v) || reachF st v k (upP st n))
/-- a part is inside another one -/
def InsP (st : List Part) (v n : ByteArray) : Prop := ((findP st v).isSome = true ∧ (findP st n).isSome = true ∧ n ≠ v) ∧ ∃ k, reachF st v k n = true
def addLife (d : Ivl) (u : Use) (p : Part) : Part := { p with life := ⟨addI p.life.km u.km, addI p.life.cycles u.cycles, addI p.life.damage d⟩ }
open Classical in
noncomputable def useL (st : List Part) (e : Evt) (d : Ivl) : List Part := st.map fun p => if p.name = e.part ∨ InsP st e.part p.name then addLife d e.use p else p
noncomputable def applyL (f : Fm) (c : List Kind) (st : List Part) (e : Evt) : Res2 :=
  if (applyF c st e).2 = 0 ∧ e.op = 4 then (useL (applyF c st e).1 e (damF f e.use), 0) else applyF c st e
noncomputable def runLGo (f : Fm) (c : List Kind) : List Part → Int → List Evt → Res3
  | s, _, [] => (s, -1, 0)
  | s, i, e :: r => if (applyL f c s e).2 = 0 then runLGo f c (applyL f c s e).1 (i + 1) r else ([], i, (applyL f c s e).2)
noncomputable def runL (f : Fm) (c : List Kind) (l : List Evt) (day : Int) : Res3 :=
  if (!validC c || !validFm f) = true then ([], -1, 1) else runLGo f c [] 0 (sortF (l.filter fun e => !decide (e.day > day)))
/-! without lives -/
def LfOk (p : Part) : Prop := (lifeOk p.life.km = true ∧ lifeOk p.life.cycles = true) ∧ lifeOk p.life.damage = true
def LfInv (st : List Part) : Prop := ∀ p ∈ st, LfOk p
section
variable {c : List Kind} {f : Fm} {st : List Part} {p : Part} {e : Evt} {d : Ivl}
/-! the lives stay in bounds -/
theorem zLife_ok : (lifeOk zLife.km = true ∧ lifeOk zLife.cycles = true) ∧ lifeOk zLife.damage = true := by decide
theorem lifeOk_iff {i : Ivl} : lifeOk i = true ↔ 0 ≤ i.low ∧ i.low ≤ i.high ∧ i.high ≤ (1000000000000 : Int) := by simp [lifeOk, and_assoc]
theorem life_add {i u : Ivl} (hi : lifeOk i = true) (hu : ivOk u = true) (h0 : 0 ≤ u.low) : lifeOk (addI i u) = true := by
  have h1 := lifeOk_iff.1 hi
  have h2 := ivOk_iff.1 hu
  rw [addI_is (ivOk_iff.2 (by omega)) hu, lifeOk_iff]
  unfold satI; dsimp only; omega
theorem LfInv.put {q : Part} (h : LfInv st) (hq : LfOk q) : LfInv (putL Part.name st q) := fun p hp => by
  rcases putL_mem hp with rfl | hp
  · exact hq
  · exact h p hp
theorem LfInv.apply (h : LfInv st) (e : Evt) : LfInv (applyF c st e).1 := by
  have hn : ∀ n, LfInv (failR n).1 := fun n p hp => by cases hp
  have hz : LfOk zPart := zLife_ok
  have hp : LfOk (partP st e) := by
    unfold partP
    cases hq : findP st e.part with
    | none => exact hz
    | some p => exact h p (find_mem hq)
  have hput : ∀ q : Part, LfOk q → LfInv (putR st q).1 := fun q hq => h.put hq
  unfold applyF
  split
  · exact hn _
  split
  · unfold applyMake
    split
    · exact hn _
    split
    · exact hn _
    split
    · exact hn _
    · exact hput _ zLife_ok
  · unfold applyRest
    split
    · exact hn _
    split
    · exact hn _
    · unfold applyOp
      split
      · unfold applyFit
        split
        · exact hn _
        split
        · exact hn _
        split
        · exact hn _
        · exact hput _ hp
      split
      · unfold applyRemove
        split
        · exact hn _
        · exact hput _ hp
      split
      · unfold applyRun
        split
        · exact hn _
        · exact hput _ hp
      split
      · exact hput _ zLife_ok
      split
      · unfold applyNote
        split
        · exact hn _
        · exact hput _ hp
      split
      · unfold applyScrap
        split
        · exact hn _
        · exact hput _ hp
      · exact hput _ hp
theorem LfInv.use (h : LfInv st) (hu : ivOk e.use.km = true ∧ 0 ≤ e.use.km.low) (hu2 : ivOk e.use.cycles = true ∧ 0 ≤ e.use.cycles.low) (hd : ivOk d = true ∧ 0 ≤ d.low) : LfInv (useL st e d) := fun p hp => by
  unfold useL at hp
  obtain ⟨q, hq, rfl⟩ := List.mem_map.1 hp
  have h1 := h q hq
  split
  · exact ⟨⟨life_add h1.1.1 hu.1 hu.2, life_add h1.1.2 hu2.1 hu2.2⟩, life_add h1.2 hd.1 hd.2⟩
  · exact h1
theorem apply_valid (h : (applyF c st e).2 = 0) : validE e = true := by
  unfold applyF at h
  split at h
  · cases h
  · rename_i h2
    have : validS c st = true ∧ validE e = true := by simpa using h2
    exact this.2
theorem run_use (h : validE e = true) (h4 : e.op = 4) : (ivOk e.use.km = true ∧ 0 ≤ e.use.km.low) ∧ (ivOk e.use.cycles = true ∧ 0 ≤ e.use.cycles.low) ∧ useTo e.use 3 = true := by
  have hu : useTo e.use 3 = true := by
    simp only [validE, Bool.and_eq_true, Bool.not_eq_true'] at h
    have h2 := h.1.1.2
    unfold opBad at h2
    rw [if_neg (by omega), if_neg (by omega), if_pos h4] at h2
    simpa using h2
  have hu2 := hu
  rw [← useR_eq] at hu2
  simp only [useR, ivlR, Bool.and_eq_true, decide_eq_true_eq] at hu2
  exact ⟨⟨ivOk_iff.2 (by omega), by omega⟩, ⟨ivOk_iff.2 (by omega), by omega⟩, hu⟩
theorem LfInv.step (h : LfInv st) : LfInv (applyL f c st e).1 := by
  unfold applyL
  split
  · rename_i hc
    have hu := run_use (apply_valid hc.1) hc.2
    exact (h.apply e).use hu.1 hu.2.1 damF_ok
  · exact h.apply e
theorem LfInv.nil : LfInv [] := fun p h => by cases h
end
end Go.Sx

/- The laws of lives, in plain Lean. -/
set_option linter.all false
namespace Go.Sx
open Go
section
variable {c : List Kind} {f : Fm} {st : List Part} {p : Part} {e : Evt} {d : Ivl} {l : List Evt}
theorem both_some {a b : Bool} (h : ¬ (!a || !b) = true) : a = true ∧ b = true := by cases a <;> cases b <;> simp_all
theorem apply_inc (h : (applyF c st e).2 = 0) : Inc Part.name st ∧ st.length ≤ 20000 := by
  unfold applyF at h
  split at h
  · cases h
  · rename_i h2
    have : validS c st = true ∧ validE e = true := by simpa using h2
    have h3 := validS_ord this.1
    exact ⟨inc_of h3.1, h3.2⟩
end
end Go.Sx

/- What a valid state is, part by part; an event that happens keeps it. -/
set_option linter.all false
namespace Go.Sx
open Go
theorem allP_iff {α : Type} {f : List α → α → Bool} {l : List α} : allP f l l.length = true ↔ ∀ (i : Nat) (h : i < l.length), f (l.take i) l[i] = true := by
  rw [allP, List.all_eq_true]
  constructor
  · intro h i hi
    have := h i (List.mem_range.2 hi)
    simpa only [List.getElem?_eq_getElem hi] using this
  · intro h i hi
    have hi := List.mem_range.1 hi
    simp only [List.getElem?_eq_getElem hi]
    exact h i hi
theorem allP_all {α : Type} {f : α → Bool} {l : List α} : allP (fun _ x => f x) l l.length = true ↔ ∀ x ∈ l, f x = true := by
  rw [allP_iff]
  constructor
  · intro h x hx; obtain ⟨i, hi, rfl⟩ := List.getElem_of_mem hx; exact h i hi
  · intro h i hi; exact h _ (List.getElem_mem hi)
theorem ord_iff {α : Type} {nm : α → ByteArray} {l : List α} : ordF nm l = true ↔ Inc nm l := by
  constructor
  · exact fun h => inc_of (Srt.of_ord h)
  · intro h
    unfold ordF
    rw [allP_iff]
    intro i hi
    unfold ordAt
    cases i with
    | zero => simp
    | succ i =>
      have : (l.take (i + 1)).getLast? = some l[i] := by
        rw [List.getLast?_eq_getElem?, List.length_take, Nat.min_eq_left (by omega), List.getElem?_take, if_pos (by omega)]
        simp
      rw [this]
      exact (List.pairwise_iff_getElem.1 h) i (i + 1) (by omega) hi (by omega)
/-- a part in its place -/
structure Sits (c : List Kind) (st : List Part) (p : Part) : Prop where
  alive : p.scrapped = false
  host : ∃ q, q ∈ st ∧ q.name = p.into ∧ q.scrapped = false ∧ takesF c q.kind p.slot p.kind = true
structure VS (c : List Kind) (st : List Part) : Prop where
  cat : validC c = true
  len : st.length ≤ 20000
  inc : Inc Part.name st
  right : ∀ p ∈ st, rightP c p = true
  both : ∀ p ∈ st, (p.into = nil8 ↔ p.slot = nil8)
  sits : ∀ p ∈ st, p.into ≠ nil8 → Sits c st p
  apart : ∀ p ∈ st, ∀ q ∈ st, p.into ≠ nil8 → p.into = q.into → p.slot = q.slot → p = q
/-! what an event does -/
/-- the part that an event leaves behind, if it is possible -/
structure Step (c : List Kind) (st : List Part) (e : Evt) (p' : Part) : Prop where
  vs : VS c st
  ve : validE e = true
  how : (e.op = 1 ∧ findP st e.part = none ∧ (findK c e.kind).isSome = true ∧ st.length ≠ 20000 ∧ p' = newP e) ∨
    ∃ p, findP st e.part = some p ∧ p.scrapped = false ∧
      ((e.op = 2 ∧ ∃ q, findP st e.into = some q ∧ q.scrapped = false ∧ ((findK c p.kind).getD zKind).vehicle = false ∧ takesF c q.kind e.slot p.kind = true ∧ p.into = nil8 ∧ seatTaken st e = false ∧ p' = { p with into := e.into, slot := e.slot }) ∨
       (e.op = 3 ∧ p.into ≠ nil8 ∧ p' = { p with into := nil8, slot := nil8 }) ∨
       (e.op = 4 ∧ ((findK c p.kind).getD zKind).vehicle = true ∧ p' = p) ∨
       (e.op = 5 ∧ p' = overhauled e p) ∨
       (e.op = 6 ∧ (noted e p).props.length ≤ 60 ∧ p' = noted e p) ∨
       (e.op = 7 ∧ p.into = nil8 ∧ holdsAny st p.name = false ∧ p' = { p with scrapped := true }))
theorem validE_parts {e : Evt} (h : validE e = true) : nameOk e.part = true ∧ 0 ≤ e.day ∧ e.day ≤ 40000 ∧ (e.op = 2 → nameOk e.into = true ∧ nameOk e.slot = true ∧ e.into ≠ e.part) ∧ (e.op = 6 → nameOk e.key = true ∧ e.value ≠ nil8 ∧ ((e.value.size : Nat) : Int) ≤ 200) := by
  simp only [validE, evBad, Bool.and_eq_true, Bool.not_eq_true', Bool.or_eq_false_iff, decide_eq_false_iff_not, Bool.not_eq_false'] at h
  obtain ⟨⟨⟨⟨⟨⟨h1, h2⟩, h3⟩, h4⟩, h5⟩, h6⟩, h7⟩ := h
  refine ⟨h4, by omega, by omega, fun h8 => ?_, fun h8 => ?_⟩
  · have h9 : namesOf e = [e.into, e.slot] := by simp [namesOf, h8]
    rw [h9] at h7
    simp only [List.any_cons, List.any_nil, Bool.or_eq_false_iff, Bool.not_eq_false'] at h7
    have h10 : opBad e = decide (e.into = e.part) := by simp [opBad, h8]
    rw [h10, decide_eq_false_iff_not] at h5
    exact ⟨h7.1, h7.2.1, h5⟩
  · have h9 : namesOf e = [e.key] := by simp [namesOf, h8]
    rw [h9] at h7
    simp only [List.any_cons, List.any_nil, Bool.or_eq_false_iff, Bool.not_eq_false'] at h7
    have h10 : opBad e = (decide (e.value = nil8) || decide ((200 : Int) < (e.value.size : Nat))) := by simp [opBad, h8]
    rw [h10, Bool.or_eq_false_iff, decide_eq_false_iff_not, decide_eq_false_iff_not] at h5
    exact ⟨h7.1, h5.1, by omega⟩
theorem name_ne {s : ByteArray} (h : nameOk s = true) : s ≠ nil8 := by
  rintro rfl
  simp [nameOk] at h
/-- what is right of a part alone -/
structure RP (c : List Kind) (p : Part) : Prop where
  kind : (findK c p.kind).isSome = true
  name : nameOk p.name = true
  made : 0 ≤ p.made
  since : p.made ≤ p.since
  since2 : p.since ≤ 40000
  few : p.props.length ≤ 60
  props : ∀ q ∈ p.props, propOk q = true
  inc : Inc Prp.key p.props
  km : lifeOk p.life.km = true
  cycles : lifeOk p.life.cycles = true
  damage : lifeOk p.life.damage = true
theorem right_iff {c : List Kind} {p : Part} : rightP c p = true ↔ RP c p := by
  unfold rightP partBad
  simp only [Bool.and_eq_true, Bool.not_eq_true', Bool.or_eq_false_iff, Bool.not_eq_false', decide_eq_false_iff_not]
  rw [ord_iff, allP_all]
  constructor
  · rintro ⟨⟨⟨⟨⟨⟨⟨h1, h2⟩, h3⟩, h4⟩, h5⟩, h6⟩, h7⟩, ⟨⟨h8, h9⟩, h10⟩, h11⟩
    exact ⟨h1, h2, by omega, by omega, by omega, by omega, h7, h8, h9, h10, h11⟩
  · rintro ⟨h1, h2, h3, h4, h5, h6, h7, h8, h9, h10, h11⟩
    exact ⟨⟨⟨⟨⟨⟨⟨h1, h2⟩, by omega⟩, by omega⟩, by omega⟩, by omega⟩, h7⟩, ⟨⟨h8, h9⟩, h10⟩, h11⟩
theorem Step.name {c : List Kind} {st : List Part} {e : Evt} {p' : Part} (h : Step c st e p') : p'.name = e.part := by
  rcases h.how with ⟨_, _, _, _, rfl⟩ | ⟨p, h1, _, h3⟩
  · rfl
  · have hn : p.name = e.part := ((find_iff h.vs.inc).1 h1).2
    rcases h3 with ⟨_, q, _, _, _, _, _, _, rfl⟩ | ⟨_, _, rfl⟩ | ⟨_, _, rfl⟩ | ⟨_, rfl⟩ | ⟨_, _, rfl⟩ | ⟨_, _, _, rfl⟩ <;> exact hn
theorem Step.kind {c : List Kind} {st : List Part} {e : Evt} {p' p : Part} (h : Step c st e p') (hp : findP st e.part = some p) : p'.kind = p.kind := by
  rcases h.how with ⟨_, h2, _, _, rfl⟩ | ⟨p0, h1, _, h3⟩
  · rw [hp] at h2; cases h2
  · rw [hp] at h1; cases h1
    rcases h3 with ⟨_, q, _, _, _, _, _, _, rfl⟩ | ⟨_, _, rfl⟩ | ⟨_, _, rfl⟩ | ⟨_, rfl⟩ | ⟨_, _, rfl⟩ | ⟨_, _, _, rfl⟩ <;> rfl
theorem Step.right {c : List Kind} {st : List Part} {e : Evt} {p' : Part} (h : Step c st e p') : RP c p' := by
  obtain ⟨v1, v2, v3, v4, v5⟩ := validE_parts h.ve
  rcases h.how with ⟨_, _, h3, _, rfl⟩ | ⟨p, h1, _, h3⟩
  · exact ⟨h3, v1, v2, Int.le_refl _, v3, by simp [newP], fun _ h => by simp [newP] at h, by simp [newP, Inc], rfl, rfl, rfl⟩
  · have hr := right_iff.1 (h.vs.right p ((find_iff h.vs.inc).1 h1).1)
    rcases h3 with ⟨_, q, _, _, _, _, _, _, rfl⟩ | ⟨_, _, rfl⟩ | ⟨_, _, rfl⟩ | ⟨_, rfl⟩ | ⟨h6, h7, rfl⟩ | ⟨_, _, _, rfl⟩
    · exact ⟨hr.kind, hr.name, hr.made, hr.since, hr.since2, hr.few, hr.props, hr.inc, hr.km, hr.cycles, hr.damage⟩
    · exact ⟨hr.kind, hr.name, hr.made, hr.since, hr.since2, hr.few, hr.props, hr.inc, hr.km, hr.cycles, hr.damage⟩
    · exact hr
    · have hs := hr.since
      have hs2 := hr.since2
      refine ⟨hr.kind, hr.name, hr.made, ?_, ?_, hr.few, hr.props, hr.inc, rfl, rfl, rfl⟩
      · show p.made ≤ (if e.day > p.since then e.day else p.since); split <;> omega
      · show (if e.day > p.since then e.day else p.since) ≤ 40000; split <;> omega
    · obtain ⟨k1, k2, k3⟩ := v5 h6
      refine ⟨hr.kind, hr.name, hr.made, hr.since, hr.since2, h7, fun q hq => ?_, put_inc _ hr.inc, hr.km, hr.cycles, hr.damage⟩
      rcases (put_mem hr.inc).1 hq with rfl | ⟨hq, _⟩
      · simp only [propOk, k1, Bool.true_and, Bool.and_eq_true, Bool.not_eq_true', decide_eq_false_iff_not, decide_eq_true_eq]
        exact ⟨k2, k3⟩
      · exact hr.props q hq
    · exact ⟨hr.kind, hr.name, hr.made, hr.since, hr.since2, hr.few, hr.props, hr.inc, hr.km, hr.cycles, hr.damage⟩
theorem taken_iff {st : List Part} {e : Evt} : seatTaken st e = false ↔ ∀ x ∈ st, ¬ (x.into = e.into ∧ x.slot = e.slot) := by
  unfold seatTaken
  rw [List.any_eq_false]
  simp
theorem holds_iff {st : List Part} {s : ByteArray} : holdsAny st s = false ↔ ∀ x ∈ st, x.into ≠ s := by
  unfold holdsAny
  rw [List.any_eq_false]
  simp
theorem Step.valid {c : List Kind} {st : List Part} {e : Evt} {p' : Part} (h : Step c st e p') : VS c (putL Part.name st p') := by
  have hv := h.vs
  have hi := hv.inc
  have hn := h.name
  obtain ⟨v1, v2, v3, v4, v5⟩ := validE_parts h.ve
  have hm : ∀ z, z ∈ putL Part.name st p' ↔ z = p' ∨ (z ∈ st ∧ z.name ≠ e.part) := fun z => by rw [put_mem hi, hn]
  -- the new part in its place
  have hpl : (p'.into = nil8 ↔ p'.slot = nil8) ∧ (p'.into ≠ nil8 → p'.scrapped = false ∧ ∃ q, q ∈ st ∧ q.name = p'.into ∧ q.scrapped = false ∧ takesF c q.kind p'.slot p'.kind = true) ∧
      (p'.into ≠ nil8 → ∀ z ∈ st, z.name ≠ e.part → ¬ (z.into = p'.into ∧ z.slot = p'.slot)) ∧ (p'.scrapped = true → ∀ z ∈ st, z.into ≠ e.part) := by
    rcases h.how with ⟨_, h2, _, _, rfl⟩ | ⟨p, h1, h2, h3⟩
    · exact ⟨⟨fun _ => rfl, fun _ => rfl⟩, fun h => absurd rfl h, fun h => absurd rfl h, fun h => by cases h⟩
    · have hp := (find_iff hi).1 h1
      have hb := hv.both p hp.1
      have hold : p.into ≠ nil8 → p.scrapped = false ∧ ∃ q, q ∈ st ∧ q.name = p.into ∧ q.scrapped = false ∧ takesF c q.kind p.slot p.kind = true := fun hne => by
        obtain ⟨s1, q, s2, s3, s4, s5⟩ := hv.sits p hp.1 hne
        exact ⟨s1, q, s2, s3, s4, s5⟩
      have hap : p.into ≠ nil8 → ∀ z ∈ st, z.name ≠ e.part → ¬ (z.into = p.into ∧ z.slot = p.slot) := fun hne z hz hzn ⟨e1, e2⟩ => by
        have := hv.apart p hp.1 z hz hne e1.symm e2.symm
        subst this
        exact hzn hp.2
      rcases h3 with ⟨o1, q, o2, o3, o4, o5, o6, o7, rfl⟩ | ⟨_, _, rfl⟩ | ⟨_, _, rfl⟩ | ⟨_, rfl⟩ | ⟨_, _, rfl⟩ | ⟨_, o2, o3, rfl⟩
      · obtain ⟨k1, k2, k3⟩ := v4 o1
        have hq := (find_iff hi).1 o2
        exact ⟨⟨fun hh => absurd hh (name_ne k1), fun hh => absurd hh (name_ne k2)⟩, fun _ => ⟨h2, q, hq.1, hq.2, o3, o5⟩, fun _ z hz _ => taken_iff.1 o7 z hz, fun hh => by
          have : p.scrapped = true := hh
          rw [h2] at this; cases this⟩
      · exact ⟨⟨fun _ => rfl, fun _ => rfl⟩, fun h => absurd rfl h, fun h => absurd rfl h, fun hh => by
          have : p.scrapped = true := hh
          rw [h2] at this; cases this⟩
      · exact ⟨hb, hold, hap, fun hh => by rw [h2] at hh; cases hh⟩
      · exact ⟨hb, hold, hap, fun hh => by
          have : p.scrapped = true := hh
          rw [h2] at this; cases this⟩
      · exact ⟨hb, hold, hap, fun hh => by
          have : p.scrapped = true := hh
          rw [h2] at this; cases this⟩
      · exact ⟨hb, fun hne => absurd o2 hne, fun hne => absurd o2 hne, fun _ z hz => by rw [← hp.2]; exact holds_iff.1 o3 z hz⟩
  obtain ⟨c1, c2, c3, c4⟩ := hpl
  have hk : ∀ q ∈ st, q.name = e.part → p'.kind = q.kind := fun q hq hqn => h.kind ((find_iff hi).2 ⟨hq, hqn⟩)
  refine ⟨hv.cat, ?_, put_inc _ hi, fun z hz => ?_, fun z hz => ?_, fun z hz hne => ?_, fun z hz w hw hne e1 e2 => ?_⟩
  · rw [put_len hi, at_find hi, hn]
    split
    · exact hv.len
    · rename_i hnf
      rcases h.how with ⟨_, _, _, h4, _⟩ | ⟨p, h1, _, _⟩
      · have := hv.len; omega
      · exact absurd (by rw [show st.find? (fun y => decide (y.name = e.part)) = some p from h1]; rfl) hnf
  · rcases (hm z).1 hz with rfl | ⟨hz, _⟩
    · exact right_iff.2 h.right
    · exact hv.right z hz
  · rcases (hm z).1 hz with rfl | ⟨hz, _⟩
    · exact c1
    · exact hv.both z hz
  · rcases (hm z).1 hz with rfl | ⟨hz, hzn⟩
    · obtain ⟨d1, q, d2, d3, d4, d5⟩ := c2 hne
      by_cases hq : q.name = e.part
      · exact ⟨d1, z, (hm z).2 (.inl rfl), by rw [hn, ← hq, d3], d1, by rw [hk q d2 hq]; rw [hk q d2 hq] at d5; exact d5⟩
      · exact ⟨d1, q, (hm q).2 (.inr ⟨d2, hq⟩), d3, d4, d5⟩
    · obtain ⟨d1, q, d2, d3, d4, d5⟩ := hv.sits z hz hne
      by_cases hq : q.name = e.part
      · have hsc : p'.scrapped = false := by
          cases hs : p'.scrapped with
          | false => rfl
          | true => exact absurd (by rw [← d3, hq]) (c4 hs z hz)
        exact ⟨d1, p', (hm p').2 (.inl rfl), by rw [hn, ← hq, d3], hsc, by rw [hk q d2 hq]; exact d5⟩
      · exact ⟨d1, q, (hm q).2 (.inr ⟨d2, hq⟩), d3, d4, d5⟩
  · rcases (hm z).1 hz with hz1 | ⟨hz1, hzn⟩ <;> rcases (hm w).1 hw with hw1 | ⟨hw1, hwn⟩
    · rw [hz1, hw1]
    · subst hz1; exact absurd ⟨e1.symm, e2.symm⟩ (c3 hne w hw1 hwn)
    · subst hw1; exact absurd ⟨e1, e2⟩ (c3 (by rw [← e1]; exact hne) z hz1 hzn)
    · exact hv.apart z hz1 w hw1 hne e1 e2
/-! two events, the one for the other -/
def mentions (e : Evt) : List ByteArray := if e.op = 2 then [e.part, e.into] else [e.part]
theorem Step.swap {c : List Kind} {st : List Part} {x y : Evt} {p1 p2 : Part} (hx : Step c st x p1) (hy : Step c (putL Part.name st p1) y p2) (h3 : x.op ≠ 3) (h3' : y.op ≠ 3) (hd : ∀ s ∈ mentions x, s ∉ mentions y) :
    Step c st y p2 ∧ Step c (putL Part.name st p2) x p1 := by
  have hi := hx.vs.inc
  have n1 := hx.name
  have n2 := hy.name
  have xp : x.part ∈ mentions x := by unfold mentions; split <;> simp
  have yp : y.part ∈ mentions y := by unfold mentions; split <;> simp
  have hne : x.part ≠ y.part := fun e => hd _ xp (by rw [e]; exact yp)
  have vx := validE_parts hx.ve
  have vy := validE_parts hy.ve
  have f1 : ∀ s, s ≠ x.part → findP (putL Part.name st p1) s = findP st s := fun s hs => by
    unfold findP; rw [put_find hi, n1, if_neg (fun e => hs e.symm)]
  have f2 : ∀ s, s ≠ y.part → findP (putL Part.name st p2) s = findP st s := fun s hs => by
    unfold findP; rw [put_find hi, n2, if_neg (fun e => hs e.symm)]
  have m1 : ∀ z, z ∈ putL Part.name st p1 ↔ z = p1 ∨ (z ∈ st ∧ z.name ≠ x.part) := fun z => by rw [put_mem hi, n1]
  have m2 : ∀ z, z ∈ putL Part.name st p2 ↔ z = p2 ∨ (z ∈ st ∧ z.name ≠ y.part) := fun z => by rw [put_mem hi, n2]
  -- where the part of x was, and is
  have wx : ∀ z ∈ st, z.name = x.part → z.into ≠ nil8 → p1.into = z.into ∧ p1.slot = z.slot := fun z hz hzn hzi => by
    rcases hx.how with ⟨_, h2, _, _, _⟩ | ⟨p, h1, _, h3x⟩
    · exact absurd hzn (find_none.1 h2 z hz)
    · have hp := (find_iff hi).1 h1
      have : z = p := inc_uniq hi hz hp.1 (by rw [hzn, hp.2])
      subst this
      rcases h3x with ⟨_, q, _, _, _, _, o6, _, rfl⟩ | ⟨o1, _, _⟩ | ⟨_, _, rfl⟩ | ⟨_, rfl⟩ | ⟨_, _, rfl⟩ | ⟨_, _, _, rfl⟩
      · exact absurd o6 hzi
      · exact absurd o1 h3
      all_goals exact ⟨rfl, rfl⟩
  have hyst : Step c st y p2 := by
    refine ⟨hx.vs, hy.ve, ?_⟩
    rcases hy.how with ⟨o1, o2, o3, o4, o5⟩ | ⟨p, h1, h2, h3y⟩
    · rw [f1 _ (Ne.symm hne)] at o2
      refine .inl ⟨o1, o2, o3, fun hl => o4 ?_, o5⟩
      have := hx.vs.len
      rw [put_len hi, at_find hi, n1]
      split
      · exact hl
      · rename_i hnf
        rcases hx.how with ⟨_, _, _, h4, _⟩ | ⟨p, h1, _, _⟩
        · exact absurd hl h4
        · exact absurd (by rw [show st.find? (fun y => decide (y.name = x.part)) = some p from h1]; rfl) hnf
    · rw [f1 _ (Ne.symm hne)] at h1
      refine .inr ⟨p, h1, h2, ?_⟩
      rcases h3y with ⟨o1, q, o2, o3, o4, o5, o6, o7, o8⟩ | ⟨o1, _, _⟩ | h | h | h | ⟨o1, o2, o3, o4⟩
      · have hyi : y.into ∈ mentions y := by simp [mentions, o1]
        have hni : y.into ≠ x.part := fun e => hd _ xp (by rw [← e]; exact hyi)
        rw [f1 _ hni] at o2
        refine .inl ⟨o1, q, o2, o3, o4, o5, o6, taken_iff.2 fun z hz ⟨e1, e2⟩ => ?_, o8⟩
        by_cases hzn : z.name = x.part
        · obtain ⟨w1, w2⟩ := wx z hz hzn (by rw [e1]; exact name_ne (vy.2.2.2.1 o1).1)
          exact taken_iff.1 o7 p1 ((m1 _).2 (.inl rfl)) ⟨by rw [w1, e1], by rw [w2, e2]⟩
        · exact taken_iff.1 o7 z ((m1 _).2 (.inr ⟨hz, hzn⟩)) ⟨e1, e2⟩
      · exact absurd o1 h3'
      · exact .inr (.inr (.inl h))
      · exact .inr (.inr (.inr (.inl h)))
      · exact .inr (.inr (.inr (.inr (.inl h))))
      · refine .inr (.inr (.inr (.inr (.inr ⟨o1, o2, holds_iff.2 fun z hz e1 => ?_, o4⟩))))
        have hp := (find_iff hi).1 h1
        by_cases hzn : z.name = x.part
        · obtain ⟨w1, w2⟩ := wx z hz hzn (by rw [e1, hp.2]; exact name_ne vy.1)
          exact holds_iff.1 o3 p1 ((m1 _).2 (.inl rfl)) (by rw [w1, e1])
        · exact holds_iff.1 o3 z ((m1 _).2 (.inr ⟨hz, hzn⟩)) e1
  refine ⟨hyst, hyst.valid, hx.ve, ?_⟩
  -- where the part of y is
  have wy : ∀ s, s ∈ mentions x → s ≠ nil8 → p2.into = s → ∃ z ∈ st, z.into = s ∧ z.slot = p2.slot ∧ z.name = y.part := fun s hs hsn he => by
    rcases hyst.how with ⟨_, h2, _, _, rfl⟩ | ⟨p, h1, _, h3y⟩
    · exact absurd he.symm hsn
    · have hp := (find_iff hi).1 h1
      rcases h3y with ⟨o1, q, _, _, _, _, o6, _, rfl⟩ | ⟨o1, _, _⟩ | ⟨_, _, rfl⟩ | ⟨_, rfl⟩ | ⟨_, _, rfl⟩ | ⟨_, _, _, rfl⟩
      · exact absurd (by rw [← he]; simp [mentions, o1]) (hd s hs)
      · exact absurd o1 h3'
      all_goals exact ⟨_, hp.1, he, rfl, hp.2⟩
  rcases hx.how with ⟨o1, o2, o3, o4, o5⟩ | ⟨p, h1, h2, h3x⟩
  · refine .inl ⟨o1, by rw [f2 _ hne]; exact o2, o3, fun hl => ?_, o5⟩
    rw [put_len hi, at_find hi, n2] at hl
    split at hl
    · exact o4 hl
    · rename_i hnf
      rcases hy.how with ⟨_, _, _, h4, _⟩ | ⟨p, h1, _, _⟩
      · apply h4
        rw [put_len hi, at_find hi, n1, if_neg]
        · exact hl
        · rw [show st.find? (fun y => decide (y.name = x.part)) = none from o2]; simp
      · rw [f1 _ (Ne.symm hne)] at h1
        exact hnf (by rw [show st.find? (fun z => decide (z.name = y.part)) = some p from h1]; rfl)
  · refine .inr ⟨p, by rw [f2 _ hne]; exact h1, h2, ?_⟩
    have hp := (find_iff hi).1 h1
    rcases h3x with ⟨o1, q, o2, o3, o4, o5, o6, o7, o8⟩ | ⟨o1, _, _⟩ | h | h | h | ⟨o1, o2, o3, o4⟩
    · have hxi : x.into ∈ mentions x := by simp [mentions, o1]
      have hni : x.into ≠ y.part := fun e => hd _ hxi (by rw [e]; exact yp)
      refine .inl ⟨o1, q, by rw [f2 _ hni]; exact o2, o3, o4, o5, o6, taken_iff.2 fun z hz ⟨e1, e2⟩ => ?_, o8⟩
      rcases (m2 z).1 hz with rfl | ⟨hz, _⟩
      · obtain ⟨w, hw, w1, w2, _⟩ := wy _ hxi (name_ne (vx.2.2.2.1 o1).1) e1
        exact taken_iff.1 o7 w hw ⟨w1, by rw [w2, e2]⟩
      · exact taken_iff.1 o7 z hz ⟨e1, e2⟩
    · exact absurd o1 h3
    · exact .inr (.inr (.inl h))
    · exact .inr (.inr (.inr (.inl h)))
    · exact .inr (.inr (.inr (.inr (.inl h))))
    · refine .inr (.inr (.inr (.inr (.inr ⟨o1, o2, holds_iff.2 fun z hz e1 => ?_, o4⟩))))
      rcases (m2 z).1 hz with rfl | ⟨hz, _⟩
      · obtain ⟨w, hw, w1, _, _⟩ := wy _ xp (name_ne vx.1) (by rw [e1, hp.2])
        exact holds_iff.1 o3 w hw (by rw [w1, hp.2])
      · exact holds_iff.1 o3 z hz e1
end Go.Sx

/- The kind of a part is that with which it was made; laws of duties, in plain terms. -/
set_option linter.all false
namespace Go.Sx
open Go
section
variable {c : List Kind} {st : List Part} {l : List Evt} {e : Evt}
theorem apply_kind (h : (applyF c st e).2 = 0) (n : ByteArray) : (e.op = 1 → findP st e.part = none) ∧ (findP (applyF c st e).1 n).map Part.kind = if e.op = 1 ∧ e.part = n then some e.kind else (findP st n).map Part.kind := by
  have hi := (apply_inc h).1
  have put : ∀ r : Part, findP (putR st r).1 n = if r.name = n then some r else findP st n := fun r => put_find (nm := Part.name) hi n
  unfold applyF at h ⊢
  split at h
  · cases h
  rename_i hv
  rw [if_neg hv]
  split at h
  · rename_i h1
    rw [if_pos h1]
    unfold applyMake at h ⊢
    split at h
    · cases h
    rename_i h2
    rw [if_neg h2]
    split at h
    · cases h
    rename_i h3
    rw [if_neg h3]
    split at h
    · cases h
    rename_i h5
    rw [if_neg h5]
    refine ⟨fun _ => ?_, ?_⟩
    · cases hf : findP st e.part with
      | none => rfl
      | some q => rw [hf] at h2; exact absurd rfl h2
    · rw [put]
      by_cases hn : e.part = n
      · rw [if_pos (show (newP e).name = n from hn), if_pos ⟨h1, hn⟩]; rfl
      · rw [if_neg (show ¬ (newP e).name = n from hn), if_neg fun h => hn h.2]
  · rename_i h1
    rw [if_neg h1, if_neg (fun hh : e.op = 1 ∧ e.part = n => h1 hh.1)]
    refine ⟨fun h2 => absurd h2 h1, ?_⟩
    unfold applyRest at h ⊢
    split at h
    · cases h
    rename_i h2
    rw [if_neg h2]
    obtain ⟨p0, hp0⟩ := Option.isSome_iff_exists.1 (both_some h2).1
    have hP : partP st e = p0 := by unfold partP; rw [hp0]; rfl
    have hn0 : p0.name = e.part := by simpa using List.find?_some hp0
    have key0 : ∀ r : Part, r.name = p0.name → r.kind = p0.kind → (findP (putR st r).1 n).map Part.kind = (findP st n).map Part.kind := fun r hr hk => by
      rw [put]
      by_cases hn : r.name = n
      · rw [if_pos hn, ← hn, hr, hn0, hp0, Option.map_some, Option.map_some, hk]
      · rw [if_neg hn]
    rw [hP] at h ⊢
    split at h
    · cases h
    rename_i h3
    rw [if_neg h3]
    unfold applyOp at h ⊢
    split at h
    · rename_i h5
      rw [if_pos h5]
      unfold applyFit at h ⊢
      split at h
      · cases h
      rename_i h6
      rw [if_neg h6]
      split at h
      · cases h
      rename_i h7
      rw [if_neg h7]
      split at h
      · cases h
      rename_i h8
      rw [if_neg h8]
      exact key0 _ rfl rfl
    rename_i h5
    rw [if_neg h5]
    split at h
    · rename_i h6
      rw [if_pos h6]
      unfold applyRemove at h ⊢
      split at h
      · cases h
      rename_i h7
      rw [if_neg h7]
      exact key0 _ rfl rfl
    rename_i h6
    rw [if_neg h6]
    split at h
    · rename_i h4
      rw [if_pos h4]
      unfold applyRun at h ⊢
      split at h
      · cases h
      rename_i h7
      rw [if_neg h7]
      exact key0 _ rfl rfl
    rename_i h4
    rw [if_neg h4]
    split at h
    · rename_i h7
      rw [if_pos h7]
      exact key0 _ rfl rfl
    rename_i h7
    rw [if_neg h7]
    split at h
    · rename_i h8
      rw [if_pos h8]
      unfold applyNote at h ⊢
      split at h
      · cases h
      rename_i h9
      rw [if_neg h9]
      exact key0 _ rfl rfl
    rename_i h8
    rw [if_neg h8]
    split at h
    · rename_i h9
      rw [if_pos h9]
      unfold applyScrap at h ⊢
      split at h
      · cases h
      rename_i h10
      rw [if_neg h10]
      exact key0 _ rfl rfl
    · rename_i h9
      rw [if_neg h9]
      exact key0 _ rfl rfl
def mkE (n : ByteArray) (e : Evt) : Bool := decide (e.op = 1) && decide (e.part = n)
theorem go_kind (n : ByteArray) : ∀ (L : List Evt) (st : List Part) (i : Int), (runGo c st i L).2.2 = 0 →
    (L.filter (mkE n) = [] ∧ (findP (runGo c st i L).1 n).map Part.kind = (findP st n).map Part.kind) ∨ (∃ e, L.filter (mkE n) = [e] ∧ (findP (runGo c st i L).1 n).map Part.kind = some e.kind ∧ findP st n = none)
  | [], st, i, _ => .inl ⟨rfl, rfl⟩
  | e :: L, st, i, h => by
    simp only [runGo] at h ⊢
    split at h
    · rename_i h0
      rw [if_pos h0]
      obtain ⟨k1, k2⟩ := apply_kind h0 n
      have ih := go_kind n L (applyF c st e).1 (i + 1) h
      by_cases hm : e.op = 1 ∧ e.part = n
      · rw [if_pos hm] at k2
        have hb : mkE n e = true := by simp [mkE, hm.1, hm.2]
        have hno : findP st n = none := by rw [← hm.2]; exact k1 hm.1
        rw [List.filter_cons, if_pos hb]
        rcases ih with ⟨i1, i2⟩ | ⟨e', _, _, i3⟩
        · exact .inr ⟨e, by rw [i1], by rw [i2, k2], hno⟩
        · rw [i3] at k2; cases k2
      · rw [if_neg hm] at k2
        have hb : ¬ mkE n e = true := by simpa [mkE] using hm
        rw [List.filter_cons, if_neg hb]
        rcases ih with ⟨i1, i2⟩ | ⟨e', i1, i2, i3⟩
        · exact .inl ⟨i1, by rw [i2, k2]⟩
        · refine .inr ⟨e', i1, i2, ?_⟩
          rw [i3] at k2
          cases hf : findP st n with
          | none => rfl
          | some q => rw [hf] at k2; cases k2
    · rename_i h0
      exact absurd h h0
theorem at_kind {day : Int} (h : (atF11 c l day).2.2 = 0) (n k : ByteArray) : (findP (atF11 c l day).1 n).map Part.kind = some k ↔ ∃ e ∈ l, e.day ≤ day ∧ e.op = 1 ∧ e.part = n ∧ e.kind = k := by
  rw [at_eq] at h ⊢
  have hv := run_valid h
  rw [runF_eq hv] at h ⊢
  have hmem : ∀ e, e ∈ (sortF (upD l day)).filter (mkE n) ↔ e ∈ l ∧ e.day ≤ day ∧ e.op = 1 ∧ e.part = n := fun e => by
    rw [List.mem_filter, sortF_mem, upD, List.mem_filter]
    simp [mkE, and_assoc]
  rcases go_kind n _ _ _ h with ⟨h1, h2⟩ | ⟨e, h1, h2, _⟩
  · rw [h2]
    refine ⟨fun h => (by cases h), ?_⟩
    rintro ⟨e, h3, h4, h5, h6, _⟩
    have := (hmem e).2 ⟨h3, h4, h5, h6⟩
    rw [h1] at this; cases this
  · rw [h2]
    constructor
    · rintro h
      have := (hmem e).1 (by rw [h1]; simp)
      exact ⟨e, this.1, this.2.1, this.2.2.1, this.2.2.2, Option.some.inj h⟩
    · rintro ⟨e', h3, h4, h5, h6, h7⟩
      have := (hmem e').2 ⟨h3, h4, h5, h6⟩
      rw [h1] at this
      rw [← List.mem_singleton.1 this, h7]
end
theorem go_valids {c : List Kind} : ∀ (L : List Evt) (st : List Part) (i : Int), (runGo c st i L).2.2 = 0 → ∀ e ∈ L, validE e = true
  | [], _, _, _, e, h => by cases h
  | x :: L, st, i, h, e, hm => by
    simp only [runGo] at h
    split at h
    · rename_i h0
      rcases List.mem_cons.1 hm with rfl | hm
      · exact apply_valid h0
      · exact go_valids L _ _ h e hm
    · rename_i h0; exact absurd h h0
theorem at_days {c : List Kind} {l : List Evt} {day : Int} {e : Evt} (h : (atF11 c l day).2.2 = 0) (hm : e ∈ l) (hd : e.day ≤ day) : 0 ≤ e.day ∧ e.day ≤ 40000 := by
  rw [at_eq] at h
  have hv := run_valid h
  rw [runF_eq hv] at h
  have hm2 : e ∈ sortF (upD l day) := by rw [sortF_mem, upD, List.mem_filter]; simp [hm, hd]
  have := validE_parts (go_valids _ _ _ h e hm2)
  exact ⟨this.2.1, this.2.2.1⟩
/-! whether a part has duties -/
section
variable {c : List Kind} {l m : List Evt} {p k : ByteArray} {a b day : Int} {d : Dut} {ds : List Dut}
theorem live_ok (h : liveK c l p day = some k) : (atF11 c l day).2.2 = 0 ∧ (findP (atF11 c l day).1 p).map Part.kind = some k := by
  unfold liveK at h
  split at h
  · rename_i hc
    refine ⟨hc.1, ?_⟩
    obtain ⟨q, hq⟩ := Option.isSome_iff_exists.1 hc.2.1
    rw [hq] at h ⊢
    exact h
  · cases h
theorem live_kind (h : liveK c l p day = some k) (k' : ByteArray) : k' = k ↔ ∃ e ∈ l, e.day ≤ day ∧ e.op = 1 ∧ e.part = p ∧ e.kind = k' := by
  obtain ⟨h1, h2⟩ := live_ok h
  rw [← at_kind h1, h2]
  exact ⟨fun e => by rw [e], fun e => (Option.some.inj e).symm⟩
/-- lives at a later time, and with more events: the same kind -/
theorem live_same (h : liveK c l p a = some k) (h2 : (liveK c m p b).isSome = true) (hs : ∀ e ∈ l, e.day ≤ a → e.part = p → e ∈ m ∧ e.day ≤ b) : liveK c m p b = some k := by
  obtain ⟨k', hk'⟩ := Option.isSome_iff_exists.1 h2
  obtain ⟨e, h3, h4, h5, h6, h7⟩ := (live_kind h k).1 rfl
  have := (live_kind hk' k).2 ⟨e, (hs e h3 h4 h6).1, (hs e h3 h4 h6).2, h5, h6, h7⟩
  rw [hk', this]
/-! what has begun and was not met -/
theorem pendD_mem {n : Int} : n ∈ pendD d l p day ↔ ∃ e ∈ l, (e.part = p ∧ e.day ≤ day) ∧ e.op = d.after ∧ (∀ x ∈ l, (x.part = p ∧ x.day ≤ day) → x.op = 6 → x.key = d.key → ¬ (e.day ≤ x.day ∧ x.day ≤ e.day + d.within)) ∧ e.day + d.within = n := by
  unfold pendD begL
  simp only [List.mem_map, List.mem_filter, ownE, Bool.and_eq_true, decide_eq_true_eq]
  constructor
  · rintro ⟨b, ⟨⟨e, ⟨h1, h2, h3⟩, rfl⟩, h4⟩, rfl⟩
    refine ⟨e, h1, h2, h3, fun x hx hxp h6 hk hh => ?_, rfl⟩
    have : metN d (noteL d l p day) e.day = true := by
      unfold metN noteL
      rw [List.any_eq_true]
      refine ⟨x.day, List.mem_map.2 ⟨x, List.mem_filter.2 ⟨hx, by simp [ownE, hxp.1, hxp.2, h6, hk]⟩, rfl⟩, by simp; omega⟩
    rw [this] at h4; cases h4
  · rintro ⟨e, h1, h2, h3, h4, rfl⟩
    refine ⟨e.day, ⟨⟨e, ⟨h1, h2, h3⟩, rfl⟩, ?_⟩, rfl⟩
    cases hm : metN d (noteL d l p day) e.day with
    | false => rfl
    | true =>
      unfold metN noteL at hm
      rw [List.any_eq_true] at hm
      obtain ⟨n, hn, hb⟩ := hm
      obtain ⟨x, hx, rfl⟩ := List.mem_map.1 hn
      obtain ⟨hx1, hx2⟩ := List.mem_filter.1 hx
      simp only [ownE, Bool.and_eq_true, decide_eq_true_eq] at hx2 hb
      exact absurd (by omega) (h4 x hx1 hx2.1 hx2.2.1 hx2.2.2)
theorem leastN_none {l : List Int} : leastN l = none ↔ l = [] := by cases l <;> simp [leastN]
theorem foldl_min : ∀ (l : List Int) (x : Int), (l.foldl min x = x ∨ l.foldl min x ∈ l) ∧ l.foldl min x ≤ x ∧ ∀ y ∈ l, l.foldl min x ≤ y
  | [], x => ⟨.inl rfl, Int.le_refl _, fun y h => by cases h⟩
  | z :: l, x => by
    obtain ⟨h1, h2, h3⟩ := foldl_min l (min x z)
    rw [List.foldl_cons]
    refine ⟨?_, by omega, fun y hy => ?_⟩
    · rcases h1 with h1 | h1
      · rcases Int.le_total x z with h4 | h4
        · left; rw [h1]; omega
        · right; rw [h1, Int.min_eq_right h4]; simp
      · exact .inr (by simp [h1])
    · rcases List.mem_cons.1 hy with rfl | hy
      · omega
      · exact h3 y hy
theorem leastN_some {l : List Int} {n : Int} : leastN l = some n ↔ n ∈ l ∧ ∀ y ∈ l, n ≤ y := by
  cases l with
  | nil => simp [leastN]
  | cons x l =>
    obtain ⟨h1, h2, h3⟩ := foldl_min l x
    simp only [leastN, Option.some.injEq]
    constructor
    · rintro rfl
      refine ⟨?_, fun y hy => ?_⟩
      · rcases h1 with h1 | h1
        · rw [h1]; simp
        · exact List.mem_cons_of_mem _ h1
      · rcases List.mem_cons.1 hy with rfl | hy
        · exact h2
        · exact h3 y hy
    · rintro ⟨h4, h5⟩
      have a1 := h5 (l.foldl min x) (by rcases h1 with h1 | h1; · rw [h1]; simp
                                        · exact List.mem_cons_of_mem _ h1)
      have a2 : l.foldl min x ≤ n := by
        rcases List.mem_cons.1 h4 with rfl | h4
        · exact h2
        · exact h3 n h4
      omega
theorem leastN_ex {l : List Int} {x : Int} (h : x ∈ l) : ∃ n, leastN l = some n ∧ n ≤ x := by
  cases hl : leastN l with
  | none => rw [leastN_none] at hl; rw [hl] at h; cases h
  | some n => exact ⟨n, rfl, (leastN_some.1 hl).2 x h⟩
theorem dueOf_some {x : Due} : dueOf k l p day d = some x ↔ (validDu d = true ∧ d.kind = k) ∧ ∃ n, leastN (pendD d l p day) = some n ∧ x = ⟨p, d.name, n⟩ := by
  unfold dueOf
  split
  · rename_i h
    rw [Option.map_eq_some_iff]
    exact ⟨fun ⟨n, h1, h2⟩ => ⟨h, n, h1, h2.symm⟩, fun ⟨_, n, h1, h2⟩ => ⟨n, h1, h2.symm⟩⟩
  · rename_i h
    constructor
    · intro h2; cases h2
    · intro h2; exact absurd h2.1 h
theorem pendF_mem {x : Due} : x ∈ pendF ds c l p day ↔ ∃ k, liveK c l p day = some k ∧ ∃ d ∈ ds, dueOf k l p day d = some x := by
  unfold pendF
  split
  · rename_i h
    constructor
    · intro hx; cases hx
    · rintro ⟨k, hk, _⟩; rw [h] at hk; cases hk
  · rename_i k h
    rw [List.mem_filterMap]
    constructor
    · intro hx; exact ⟨k, h, hx⟩
    · rintro ⟨k', hk, hx⟩
      rw [h] at hk
      cases Option.some.inj hk; exact hx
end
end Go.Sx

/- The laws of duties, in plain terms. -/
set_option linter.all false
namespace Go.Sx
open Go
section
variable {c : List Kind} {l m : List Evt} {p k : ByteArray} {a b day : Int} {d : Dut} {ds : List Dut}
theorem pend_one : pendF [d] c l p day = [] ∨ ∃ n, pendF [d] c l p day = [⟨p, d.name, n⟩] := by
  unfold pendF
  split
  · exact .inl rfl
  · rename_i k hk
    rw [List.filterMap_cons, List.filterMap_nil]
    cases h : dueOf k l p day d with
    | none => exact .inl rfl
    | some x =>
      obtain ⟨_, n, _, rfl⟩ := dueOf_some.1 h
      exact .inr ⟨n, rfl⟩
theorem late_nil (h : pendF ds c l p day = []) : lateN ds c l p day = [] := by unfold lateN; rw [h]; rfl
theorem open_nil (h : pendF ds c l p day = []) : openD ds c l p day = [] := by unfold openD; rw [h]; rfl
theorem late_one {n : Int} (h : pendF [d] c l p day = [⟨p, d.name, n⟩]) : lateN [d] c l p day = if n < day then [d.name] else [] := by
  unfold lateN
  rw [h]
  by_cases hn : n < day
  · rw [if_pos hn]; simp [hn, srtU, insU]
  · rw [if_neg hn]; simp [hn, srtU]
theorem open_one {n : Int} (h : pendF [d] c l p day = [⟨p, d.name, n⟩]) : openD [d] c l p day = if day ≤ n then [⟨p, d.name, n⟩] else [] := by
  unfold openD
  rw [h]
  by_cases hn : day ≤ n
  · rw [if_pos hn]; simp [hn, srtU, insU]
  · rw [if_neg hn]; simp [hn, srtU]
theorem pend_some {n : Int} : pendF [d] c l p day = [⟨p, d.name, n⟩] ↔ ∃ k, liveK c l p day = some k ∧ (validDu d = true ∧ d.kind = k) ∧ leastN (pendD d l p day) = some n := by
  constructor
  · intro h
    have h1 : (⟨p, d.name, n⟩ : Due) ∈ pendF [d] c l p day := by rw [h]; simp
    obtain ⟨k, hk, d', hd, h2⟩ := pendF_mem.1 h1
    rw [List.mem_singleton.1 hd] at h2
    obtain ⟨h3, n', h4, h5⟩ := dueOf_some.1 h2
    injection h5 with _ _ h5
    exact ⟨k, hk, h3, by rw [h5]; exact h4⟩
  · rintro ⟨k, hk, h1, h2⟩
    have h3 : (⟨p, d.name, n⟩ : Due) ∈ pendF [d] c l p day := pendF_mem.2 ⟨k, hk, d, by simp, dueOf_some.2 ⟨h1, n, h2, rfl⟩⟩
    rcases pend_one (d := d) (c := c) (l := l) (p := p) (day := day) with h | ⟨n', h⟩
    · rw [h] at h3; cases h3
    · rw [h] at h3
      have := List.mem_singleton.1 h3
      rw [h, this]
/-- of one duty: at most one name, or one due -/
theorem alone_len : (lateN [d] c l p day).length + (openD [d] c l p day).length ≤ 1 := by
  rcases pend_one (d := d) (c := c) (l := l) (p := p) (day := day) with h | ⟨n, h⟩
  · rw [late_nil h, open_nil h]; decide
  · rw [late_one h, open_one h]
    by_cases hn : n < day
    · rw [if_pos hn, if_neg (by omega)]; exact Nat.le_refl 1
    · rw [if_neg hn, if_pos (by omega)]; exact Nat.le_refl 1
theorem pend_alone {x : Due} : x ∈ pendF ds c l p day ↔ ∃ d ∈ ds, x ∈ pendF [d] c l p day := by
  rw [pendF_mem]
  constructor
  · rintro ⟨k, hk, d, hd, h⟩; exact ⟨d, hd, pendF_mem.2 ⟨k, hk, d, by simp, h⟩⟩
  · rintro ⟨d, hd, h⟩
    obtain ⟨k, hk, d', hd', h2⟩ := pendF_mem.1 h
    rw [List.mem_singleton.1 hd'] at h2
    exact ⟨k, hk, d, hd, h2⟩
theorem late_alone {z : ByteArray} : z ∈ lateN ds c l p day ↔ ∃ d ∈ ds, z ∈ lateN [d] c l p day := by
  rw [lateN_mem]
  constructor
  · rintro ⟨x, hx, h⟩
    obtain ⟨d, hd, h2⟩ := pend_alone.1 hx
    exact ⟨d, hd, lateN_mem.2 ⟨x, h2, h⟩⟩
  · rintro ⟨d, hd, h⟩
    obtain ⟨x, hx, h2⟩ := lateN_mem.1 h
    exact ⟨x, pend_alone.2 ⟨d, hd, hx⟩, h2⟩
theorem open_alone {z : Due} : z ∈ openD ds c l p day ↔ ∃ d ∈ ds, z ∈ openD [d] c l p day := by
  rw [openD_mem]
  constructor
  · rintro ⟨hx, h⟩
    obtain ⟨d, hd, h2⟩ := pend_alone.1 hx
    exact ⟨d, hd, openD_mem.2 ⟨h2, h⟩⟩
  · rintro ⟨d, hd, h⟩
    obtain ⟨hx, h2⟩ := openD_mem.1 h
    exact ⟨pend_alone.2 ⟨d, hd, hx⟩, h2⟩
/-- a note on the day meets what is open -/
theorem duty_noted {e : Evt} (h6 : e.op = 6) (hp : e.part = p) (hd : e.day = day) (hk : e.key = d.key) (ho : (openD [d] c l p day).length = 1) : lateN [d] c (l ++ [e]) p day = [] ∧ openD [d] c (l ++ [e]) p day = [] := by
  have hn : pendF [d] c (l ++ [e]) p day = [] := by
    rcases pend_one (d := d) (c := c) (l := l) (p := p) (day := day) with h | ⟨n, h⟩
    · rw [open_nil h] at ho; cases ho
    rw [open_one h] at ho
    have hday : day ≤ n := by
      by_cases hh : day ≤ n
      · exact hh
      · rw [if_neg hh] at ho; cases ho
    obtain ⟨k, _, ⟨hv, _⟩, hl⟩ := pend_some.1 h
    have hw : 0 ≤ d.within := by simp only [validDu, Bool.and_eq_true, decide_eq_true_eq] at hv; omega
    have hpn : pendD d (l ++ [e]) p day = [] := by
      rw [List.eq_nil_iff_forall_not_mem]
      intro x hx
      obtain ⟨f, hf, hfp, hfo, hfm, rfl⟩ := pendD_mem.1 hx
      have hno := hfm e (by simp) ⟨hp, by omega⟩ h6 hk
      rcases List.mem_append.1 hf with hf | hf
      · have : f.day + d.within ∈ pendD d l p day := pendD_mem.2 ⟨f, hf, hfp, hfo, fun x hx => hfm x (by simp [hx]), rfl⟩
        have := (leastN_some.1 hl).2 _ this
        exact hno ⟨by omega, by omega⟩
      · rw [List.mem_singleton.1 hf] at hno
        exact hno ⟨Int.le_refl _, by omega⟩
    rcases pend_one (d := d) (c := c) (l := l ++ [e]) (p := p) (day := day) with h | ⟨n, h⟩
    · exact h
    · obtain ⟨_, _, _, h2⟩ := pend_some.1 h
      rw [hpn] at h2; cases h2
  exact ⟨late_nil hn, open_nil hn⟩
theorem late_day {z : ByteArray} (h : z ∈ lateN [d] c l p day) : z = d.name ∧ ∃ k n, liveK c l p day = some k ∧ (validDu d = true ∧ d.kind = k) ∧ leastN (pendD d l p day) = some n ∧ n < day := by
  rcases pend_one (d := d) (c := c) (l := l) (p := p) (day := day) with h1 | ⟨n, h1⟩
  · rw [late_nil h1] at h; cases h
  · rw [late_one h1] at h
    by_cases hn : n < day
    · rw [if_pos hn] at h
      obtain ⟨k, hk, h2, h3⟩ := pend_some.1 h1
      exact ⟨List.mem_singleton.1 h, k, n, hk, h2, h3, hn⟩
    · rw [if_neg hn] at h; cases h
/-- overdue stays overdue -/
theorem duty_late (hab : a ≤ b) (h : lateN [d] c l p a ≠ []) (hl : (liveK c l p b).isSome = true) : lateN [d] c l p b = [d.name] ∧ openD [d] c l p b = [] := by
  obtain ⟨z, hz⟩ := List.exists_mem_of_ne_nil _ h
  obtain ⟨_, k, n, hk, hv, hn, hna⟩ := late_day hz
  have hk2 := live_same (m := l) (b := b) hk hl fun e he h1 _ => ⟨he, by omega⟩
  obtain ⟨f, hf, hfp, hfo, hfm, hfn⟩ := pendD_mem.1 (leastN_some.1 hn).1
  have : n ∈ pendD d l p b := pendD_mem.2 ⟨f, hf, ⟨hfp.1, by omega⟩, hfo, fun x hx hxp h6 hxk hh => hfm x hx ⟨hxp.1, by omega⟩ h6 hxk hh, hfn⟩
  obtain ⟨n', h1, h2⟩ := leastN_ex this
  have h3 := pend_some.2 ⟨k, hk2, hv, h1⟩
  rw [late_one h3, open_one h3, if_pos (by omega), if_neg (by omega)]
  exact ⟨rfl, rfl⟩
/-- events behind the day change nothing -/
theorem pendD_congr (h : ∀ e, e.part = p → ((e ∈ l ∧ e.day ≤ a) ↔ (e ∈ m ∧ e.day ≤ b))) {n : Int} : n ∈ pendD d l p a ↔ n ∈ pendD d m p b := by
  rw [pendD_mem, pendD_mem]
  constructor
  · rintro ⟨f, hf, hfp, hfo, hfm, hfn⟩
    have h1 := (h f hfp.1).1 ⟨hf, hfp.2⟩
    exact ⟨f, h1.1, ⟨hfp.1, h1.2⟩, hfo, fun x hx hxp => by
      have h2 := (h x hxp.1).2 ⟨hx, hxp.2⟩
      exact hfm x h2.1 ⟨hxp.1, h2.2⟩, hfn⟩
  · rintro ⟨f, hf, hfp, hfo, hfm, hfn⟩
    have h1 := (h f hfp.1).2 ⟨hf, hfp.2⟩
    exact ⟨f, h1.1, ⟨hfp.1, h1.2⟩, hfo, fun x hx hxp => by
      have h2 := (h x hxp.1).1 ⟨hx, hxp.2⟩
      exact hfm x h2.1 ⟨hxp.1, h2.2⟩, hfn⟩
theorem leastN_congr {x y : List Int} (h : ∀ n, n ∈ x ↔ n ∈ y) : leastN x = leastN y := by
  cases hx : leastN x with
  | none =>
    rw [leastN_none] at hx
    have : y = [] := by rw [List.eq_nil_iff_forall_not_mem]; intro z hz; have := (h z).2 hz; rw [hx] at this; cases this
    rw [this]; rfl
  | some n =>
    have h1 := leastN_some.1 hx
    exact (leastN_some.2 ⟨(h n).1 h1.1, fun y hy => h1.2 y ((h y).2 hy)⟩).symm
theorem pend_congr (hk : liveK c l p a = liveK c m p b) (h : ∀ e, e.part = p → ((e ∈ l ∧ e.day ≤ a) ↔ (e ∈ m ∧ e.day ≤ b))) : pendF ds c l p a = pendF ds c m p b := by
  unfold pendF
  rw [hk]
  split
  · rfl
  · congr 1
    funext d
    unfold dueOf
    rw [leastN_congr fun n => pendD_congr h]
theorem up_until {t : Int} (h : day ≤ t) : upD (upD l day) t = upD l day := by
  unfold upD
  rw [List.filter_filter]
  congr 1
  funext e
  by_cases h1 : e.day > day
  · simp [h1]
  · simp [h1]; omega
theorem live_until {t : Int} (h : day ≤ t) : liveK c (upD l day) p t = liveK c l p day := by
  have e : atF11 c (upD l day) t = atF11 c l day := by rw [at_eq, at_eq, up_until h]
  unfold liveK
  rw [e]
theorem pend_until {t : Int} (h : day ≤ t) : pendF ds c (upD l day) p t = pendF ds c l p day := by
  refine pend_congr (live_until h) fun e _ => ?_
  unfold upD
  rw [List.mem_filter]
  simp only [Bool.not_eq_true', decide_eq_false_iff_not]
  constructor
  · rintro ⟨⟨h1, h2⟩, h3⟩; exact ⟨h1, by omega⟩
  · rintro ⟨h1, h2⟩; exact ⟨⟨h1, by omega⟩, by omega⟩
theorem duty_ends (ho : (openD [d] c l p day).length = 1) : ∃ n, openD [d] c l p day = [⟨p, d.name, n⟩] ∧ day ≤ n ∧ n ≤ 80000 ∧
    (∀ t, day ≤ t → t ≤ n → openD [d] c (upD l day) p t = [⟨p, d.name, n⟩] ∧ lateN [d] c (upD l day) p t = []) ∧ lateN [d] c (upD l day) p (n + 1) = [d.name] := by
  rcases pend_one (d := d) (c := c) (l := l) (p := p) (day := day) with h | ⟨n, h⟩
  · rw [open_nil h] at ho; cases ho
  have ho2 := open_one h
  have hday : day ≤ n := by
    by_cases hh : day ≤ n
    · exact hh
    · rw [if_neg hh] at ho2; rw [ho2] at ho; cases ho
  rw [if_pos hday] at ho2
  have hn : n ≤ 80000 := by
    obtain ⟨k, hk, ⟨hv, _⟩, hl⟩ := pend_some.1 h
    obtain ⟨f, hf, hfp, hfo, _, hfn⟩ := pendD_mem.1 (leastN_some.1 hl).1
    have hw : d.within ≤ 40000 := by simp only [validDu, Bool.and_eq_true, decide_eq_true_eq] at hv; omega
    have h1 := (live_ok hk).1
    have h2 := at_days h1 hf hfp.2
    omega
  refine ⟨n, ho2, hday, hn, fun t h1 h2 => ?_, ?_⟩
  · have h3 := (pend_until (ds := [d]) (c := c) (l := l) (p := p) h1).trans h
    rw [open_one h3, late_one h3, if_pos h2, if_neg (by omega)]
    exact ⟨rfl, rfl⟩
  · have h3 := (pend_until (ds := [d]) (c := c) (l := l) (p := p) (t := n + 1) (by omega)).trans h
    rw [late_one h3, if_pos (by omega)]
/-- another part's event changes nothing -/
theorem duty_others {x : Evt} {i : Nat} (h1 : x.part ≠ p) (hl : (liveK c l p day).isSome = true) (hm : (liveK c (l.take i ++ [x] ++ l.drop i) p day).isSome = true) : pendF ds c (l.take i ++ [x] ++ l.drop i) p day = pendF ds c l p day := by
  have hs : ∀ e : Evt, e.part = p → (e ∈ l.take i ++ [x] ++ l.drop i ↔ e ∈ l) := fun e he => by
    have hx : e ≠ x := fun h => h1 (h ▸ he)
    have h2 : e ∈ l ↔ e ∈ l.take i ∨ e ∈ l.drop i := by rw [← List.mem_append, List.take_append_drop]
    rw [h2]
    simp [hx]
  obtain ⟨k, hk⟩ := Option.isSome_iff_exists.1 hl
  refine pend_congr ?_ fun e he => by rw [hs e he]
  rw [hk]
  exact live_same hk hm fun e he hd hp => ⟨(hs e hp).2 he, hd⟩
/-- a longer time -/
theorem duty_longer {w : Int} (hw : d.within ≤ w) (hv : validDu d = true) (h : lateN [d] c l p day = []) : lateN [{ d with within := w }] c l p day = [] := by
  rcases pend_one (d := { d with within := w }) (c := c) (l := l) (p := p) (day := day) with h1 | ⟨n, h1⟩
  · exact late_nil h1
  rw [late_one h1]
  obtain ⟨k, hk, ⟨_, hkd⟩, hn⟩ := pend_some.1 h1
  obtain ⟨f, hf, hfp, hfo, hfm, hfn⟩ := pendD_mem.1 (leastN_some.1 hn).1
  have h2 : f.day + d.within ∈ pendD d l p day := pendD_mem.2 ⟨f, hf, hfp, hfo, fun x hx hxp h6 hxk hh => hfm x hx hxp h6 hxk (by dsimp only; omega), rfl⟩
  obtain ⟨n', h3, h4⟩ := leastN_ex h2
  have h5 := pend_some.2 ⟨k, hk, ⟨hv, hkd⟩, h3⟩
  rw [late_one h5] at h
  have h6 : ¬ n' < day := fun hh => by rw [if_pos hh] at h; cases h
  have hm := (leastN_some.1 h3).1
  refine if_neg ?_
  dsimp only at hfn
  obtain ⟨g, hg, hgp, hgo, hgm, hgn⟩ := pendD_mem.1 hm
  omega
end
end Go.Sx

/- Duties: what their walk comes to at each step. -/
set_option linter.all false
namespace Go.Sx
open Go
def Due.eqB (a b : Due) : Bool := decide (a.part = b.part) && (decide (a.rule = b.rule) && (decide (a.day = b.day) && true))
theorem Due.eqB_eq (a b : Due) : Due.eqB a b = decide (a = b) := by
  cases a; cases b; simp [Due.eqB]
def encDue (x : Due) : Value := .agg x.cells.toArray
/-- a function value -/
structure Fn1 where
  k : FuncId
  cs : List Value
def Fn1.val (f : Fn1) : Value := .func (.func f.k) #[] f.cs.toArray
instance : Enc Fn1 where
  k := 1
  rd _ vs x := vs = [x.val]
  len h := by rw [h]; rfl
  mono _ h := h
  one h := by rw [h]; rfl
/-- the least number, and whether there is one -/
def LeastIs (l : List Int) (m : Int) (fd : Bool) : Prop := leastN l = (if fd = true then some m else none) ∧ (fd = false → m = 0)
theorem LeastIs.nil : LeastIs [] 0 false := ⟨rfl, fun _ => rfl⟩
theorem leastN_snoc (l : List Int) (x : Int) : leastN (l ++ [x]) = some (match leastN l with | none => x | some m => min m x) := by
  cases l with
  | nil => rfl
  | cons y l => simp [leastN, List.foldl_append]
section
variable {l : List Int} {m x : Int} {fd : Bool}
theorem LeastIs.less (h : LeastIs l m fd) (hc : fd = false ∨ x < m) : LeastIs (l ++ [x]) x true := by
  refine ⟨?_, fun h => by cases h⟩
  rw [leastN_snoc, h.1]
  cases fd with
  | false => rfl
  | true =>
    rcases hc with hc | hc
    · cases hc
    · show some (min m x) = some x
      rw [Int.min_eq_right (by omega)]
theorem LeastIs.more (h : LeastIs l m true) (hc : ¬ x < m) : LeastIs (l ++ [x]) m true := by
  refine ⟨?_, fun h => by cases h⟩
  rw [leastN_snoc, h.1]
  show some (min m x) = some m
  rw [Int.min_eq_left (by omega)]
theorem LeastIs.more2 (h : LeastIs l m fd) (hf : fd = true) (hc : ¬ x < m) : LeastIs (l ++ [x]) m fd := by subst hf; exact h.more hc
theorem LeastIs.val (h : LeastIs l m fd) : m = (leastN l).getD 0 ∧ fd = (leastN l).isSome := by
  cases fd with
  | false => rw [h.1]; exact ⟨h.2 rfl, rfl⟩
  | true => rw [h.1]; exact ⟨rfl, rfl⟩
end
theorem mput_mem {κ : Type} [DecidableEq κ] {k x : κ} {v : Value} : ∀ {kvs : List (κ × Value)}, x ∈ (mput kvs k v).map Prod.fst ↔ x = k ∨ x ∈ kvs.map Prod.fst
  | [] => by simp [mput]
  | (k', u) :: r => by
    simp only [mput]
    split
    · rename_i h; subst h; simp
    · simp only [List.map_cons, List.mem_cons, mput_mem (kvs := r)]
      constructor
      · rintro (h | h | h)
        · exact .inr (.inl h)
        · exact .inl h
        · exact .inr (.inr h)
      · rintro (h | h | h)
        · exact .inr (.inl h)
        · exact .inl h
        · exact .inr (.inr h)
theorem mput_nd {κ : Type} [DecidableEq κ] {k : κ} {v : Value} : ∀ {kvs : List (κ × Value)}, (kvs.map Prod.fst).Nodup → ((mput kvs k v).map Prod.fst).Nodup
  | [], _ => by simp [mput]
  | (k', u) :: r, h => by
    obtain ⟨h1, h2⟩ := List.nodup_cons.1 h
    simp only [mput]
    split
    · exact h
    · rename_i hne
      refine List.nodup_cons.2 ⟨fun hm => ?_, mput_nd h2⟩
      rcases mput_mem.1 hm with e | hm
      · exact hne e
      · exact h1 hm
/-- a map whose keys are those of a list -/
def KeysD (kvs : List (Due × Value)) (L : List Due) : Prop := (kvs.map Prod.fst).Nodup ∧ ∀ x, x ∈ kvs.map Prod.fst ↔ x ∈ L
theorem KeysD.nil : KeysD [] [] := ⟨List.nodup_nil, fun x => Iff.rfl⟩
section
variable {kvs : List (Due × Value)} {F : Dut → Option Due} {ds : List Dut} {i : Nat}
theorem KeysD.none (h : KeysD kvs ((ds.take i).filterMap F)) (hi : i < ds.length) (h0 : F ds[i] = .none) : KeysD kvs ((ds.take (i + 1)).filterMap F) := by
  rw [← take_succ_of hi, List.filterMap_append]
  simpa [h0] using h
theorem KeysD.some {x : Due} {v : Value} (h : KeysD kvs ((ds.take i).filterMap F)) (hi : i < ds.length) (h0 : F ds[i] = .some x) : KeysD (mput kvs x v) ((ds.take (i + 1)).filterMap F) := by
  rw [← take_succ_of hi, List.filterMap_append]
  refine ⟨mput_nd h.1, fun z => ?_⟩
  rw [mput_mem, h.2, List.mem_append]
  simp [h0, or_comm]
end
theorem findD_step {l : List Part} {s : ByteArray} {i : Nat} (hi : i < l.length) (h : findP (l.drop i) s = findP l s) (hn : ¬ l[i].name = s) : findP (l.drop (i + 1)) s = findP l s := by
  rw [← h, List.drop_eq_getElem_cons hi]
  unfold findP
  rw [List.find?_cons_of_neg (by simpa using hn)]
theorem findD_hit {l : List Part} {s : ByteArray} {i : Nat} (hi : i < l.length) (h : findP (l.drop i) s = findP l s) (hn : l[i].name = s) : findP l s = some l[i] := by
  rw [← h, List.drop_eq_getElem_cons hi]
  unfold findP
  rw [List.find?_cons_of_pos (by simpa using hn)]
theorem findD_end {l : List Part} {s : ByteArray} {i : Nat} (hi : ¬ i < l.length) (h : findP (l.drop i) s = findP l s) : findP l s = none := by
  rw [← h, List.drop_eq_nil_of_le (by omega)]; rfl
def SmD (d : Dut) : Prop := d.name.size ≤ maxLen ∧ d.kind.size ≤ maxLen ∧ d.key.size ≤ maxLen
section
variable {c : List Kind} {l : List Evt} {p : ByteArray} {day : Int} {ds : List Dut} {d : Dut} {k : ByteArray}
theorem live_no (h : ((!decide ((atF11 c l day).2.2 = 0) || !(findP (atF11 c l day).1 p).isSome) || ((findP (atF11 c l day).1 p).getD zPart).scrapped) = true) : pendF ds c l p day = [] := by
  have : liveK c l p day = none := by
    unfold liveK
    rw [if_neg]
    rintro ⟨h1, h2, h3⟩
    rw [h1, h2, h3] at h; simp at h
  unfold pendF; rw [this]
theorem live_yes (h : ((!decide ((atF11 c l day).2.2 = 0) || !(findP (atF11 c l day).1 p).isSome) || ((findP (atF11 c l day).1 p).getD zPart).scrapped) = false) : liveK c l p day = some ((findP (atF11 c l day).1 p).getD zPart).kind := by
  simp only [Bool.or_eq_false_iff, Bool.not_eq_false', decide_eq_true_eq] at h
  exact if_pos ⟨h.1.1, h.1.2, h.2⟩
theorem pendF_live (h : liveK c l p day = some k) : pendF ds c l p day = ds.filterMap (dueOf k l p day) := by unfold pendF; rw [h]
theorem dueOf_bad (h : validDu d = false) : dueOf k l p day d = none := if_neg fun h2 => by rw [h] at h2; cases h2.1
theorem dueOf_kind (h : ¬ d.kind = k) : dueOf k l p day d = none := if_neg fun h2 => h h2.2
theorem dueOf_no (h : (leastN (pendD d l p day)).isSome = false) : dueOf k l p day d = none := by
  unfold dueOf
  split
  · cases hl : leastN (pendD d l p day) with
    | none => rfl
    | some n => rw [hl] at h; cases h
  · rfl
theorem dueOf_yes (hv : validDu d = true) (hk : d.kind = k) (h : (leastN (pendD d l p day)).isSome = true) : dueOf k l p day d = some ⟨p, d.name, (leastN (pendD d l p day)).getD 0⟩ := by
  unfold dueOf
  rw [if_pos ⟨hv, hk⟩]
  cases hl : leastN (pendD d l p day) with
  | none => rw [hl] at h; cases h
  | some n => rfl
theorem valid_within (h : validDu d = true) : 0 ≤ d.within ∧ d.within ≤ 40000 := by
  simp only [validDu, Bool.and_eq_true, decide_eq_true_eq] at h; omega
end
section
variable {d : Dut} {l : List Evt} {p : ByteArray} {day : Int}
def pendTo (d : Dut) (l : List Evt) (p : ByteArray) (day : Int) (i : Nat) : List Int := (((begL d l p day).take i).filter fun b => !metN d (noteL d l p day) b).map fun b => b + d.within
theorem pendTo_all : pendTo d l p day (begL d l p day).length = pendD d l p day := by unfold pendTo pendD; rw [List.take_length]
theorem pendTo_met {i : Nat} (hi : i < (begL d l p day).length) (h : metN d (noteL d l p day) (begL d l p day)[i] = true) : pendTo d l p day (i + 1) = pendTo d l p day i := by
  unfold pendTo; rw [← take_succ_of hi, List.filter_append]; simp [h]
theorem pendTo_new {i : Nat} (hi : i < (begL d l p day).length) (h : metN d (noteL d l p day) (begL d l p day)[i] = false) : pendTo d l p day (i + 1) = pendTo d l p day i ++ [(begL d l p day)[i] + d.within] := by
  unfold pendTo; rw [← take_succ_of hi, List.filter_append]; simp [h]
theorem beg_day {i : Nat} (hi : i < (begL d l p day).length) : ∃ e ∈ l, e.part = p ∧ e.day ≤ day ∧ e.day = (begL d l p day)[i] := by
  have h := List.getElem_mem hi
  unfold begL at h
  obtain ⟨e, he, h2⟩ := List.mem_map.1 h
  obtain ⟨h3, h4⟩ := List.mem_filter.1 he
  simp only [ownE, Bool.and_eq_true, decide_eq_true_eq] at h4
  exact ⟨e, h3, h4.1.1, h4.1.2, h2⟩
/-- the conditions together -/
def condF (d : Dut) (p : ByteArray) (day : Int) (k1 k2 : FuncId) (f : Fn1) (x : Evt) : Bool := if f.k = k1 then ownE p day x else if f.k = k2 then decide (x.op = 6) && decide (x.key = d.key) else decide (x.op = d.after)
def dayOf (fs : List Fn1) (q : Fn1 → Evt → Bool) (l : List Evt) : List Int := (l.filter fun x => fs.all fun f => q f x).map Evt.day
theorem all_nots {fs : List Fn1} {q : Fn1 → Evt → Bool} {x : Evt} : (!(fs.any fun f => !q f x)) = fs.all fun f => q f x := by
  induction fs with
  | nil => rfl
  | cons f fs ih => simp only [List.any_cons, List.all_cons, Bool.not_or, Bool.not_not, ih]
theorem dayOf_yes {fs : List Fn1} {q : Fn1 → Evt → Bool} {i : Nat} (hi : i < l.length) (h : (fs.all fun f => q f l[i]) = true) : dayOf fs q (l.take (i + 1)) = dayOf fs q (l.take i) ++ [l[i].day] := by
  unfold dayOf; rw [← take_succ_of hi, List.filter_append]; simp only [List.filter_cons, h, if_true, List.filter_nil, List.map_append, List.map_cons, List.map_nil]
theorem dayOf_no {fs : List Fn1} {q : Fn1 → Evt → Bool} {i : Nat} (hi : i < l.length) (h : (fs.all fun f => q f l[i]) = false) : dayOf fs q (l.take (i + 1)) = dayOf fs q (l.take i) := by
  unfold dayOf; rw [← take_succ_of hi, List.filter_append]; simp only [List.filter_cons, h, Bool.false_eq_true, if_false, List.filter_nil, List.append_nil]
theorem dayOf_len {fs : List Fn1} {q : Fn1 → Evt → Bool} : (dayOf fs q l).length ≤ l.length := by unfold dayOf; rw [List.length_map]; exact List.length_filter_le _ _
theorem dayOf_two {k1 k2 : FuncId} {c1 c2 : List Value} (h : k2 ≠ k1) : dayOf [⟨k1, c1⟩, ⟨k2, c2⟩] (condF d p day k1 k2) l = noteL d l p day := by
  unfold dayOf noteL
  congr 2
  funext x
  simp [condF, h]
theorem dayOf_beg {k1 k2 k3 : FuncId} {c1 c2 : List Value} (h : k3 ≠ k1) (h2 : k3 ≠ k2) : dayOf [⟨k1, c1⟩, ⟨k3, c2⟩] (condF d p day k1 k2) l = begL d l p day := by
  unfold dayOf begL
  congr 2
  funext x
  simp [condF, h, h2]
end
end Go.Sx

/- A row of a list: one element is written. -/
set_option linter.all false
namespace Go.Sx
open Go
section
variable {P : Program} {n : Sz} {E : Ent} {I : IMap} {L : LL} {H : List Res} {K : Act → World → Prop}
variable {α : Type} [Enc α]
theorem sx_rowslice {v : Value} {e k m : Nat} {xs : List Value} (h : ∀ A c, v = .slice A m c → SX n E I L (.row v e k m xs :: H) K) : SX n E I L (.row v e k m xs :: H) K := by
  refine sx_know (p := ∃ h, IsRow h v e k m xs) (fun w mm => ⟨_, mm.holds _ (List.mem_cons_self ..)⟩) fun ⟨_, _, hr⟩ => ?_
  rcases hr with ⟨rfl, rfl⟩ | ⟨g, cap, cur, rfl, _⟩
  · exact h _ _ rfl
  · exact h _ _ rfl
end
section
variable {α : Type} [Enc α] {I : IMap} {A : Option Addr} {m c : Nat} {l : List α}
theorem RdS.eqL (h : RdS I (.slice A m c) l) : m = l.length ∧ m ≤ c ∧ c ≤ 9223372036854775807 := by
  obtain ⟨_, _, e, _, h1, h2⟩ := h
  injection e with e1 e2 e3
  subst e3; exact ⟨e2, by omega, h2⟩
theorem RdS.takeM (h : RdS I (.slice A m c) l) (q : Nat) (hq : q ≤ l.length) : RdS I (.slice A q c) (l.take q) := by
  obtain rfl := h.eqL.1; exact h.take q hq
theorem RdS.dropM (h : RdS I (.slice A m c) l) (q : Nat) (hq : q ≤ l.length) : RdS I (.slice (cutA A c q (Enc.k α)) (m - q) (c - q)) (l.drop q) := by
  obtain rfl := h.eqL.1; exact h.drop q hq
theorem RdS.midM (h : RdS I (.slice A m c) l) (q r : Nat) (hq : q ≤ r) (hr : r ≤ l.length) : RdS I (.slice (cutA A c q (Enc.k α)) (r - q) (c - q)) ((l.take r).drop q) := by
  obtain rfl := h.eqL.1; exact h.mid q r hq hr
end
/-! a scope through which the run goes without a jump -/
section
variable {P : Program} {b : Frame} {a : Act} {k : List Item} {cs : List Frame} {w : World} {Q : Exit → Act → World → Prop} {F : Fence}
end
section
variable {P : Program} {ρ : Option Nat} {n : Sz} {E : Ent} {I : IMap} {L : LL} {H : List Res} {Q : Exit → Act → World → Prop}
end
end Go.Sx

/- Sorting what is picked; a callee that changes one thing and leaves memory behind. -/
set_option linter.all false
namespace Go.Sx
open Go
section
variable {α : Type} [Day α]
end
section
variable {P : Program} {ρ : Option Nat} {n : Sz} {E : Ent} {I I' : IMap} {L : LL} {H : List Res} {Q : Exit → Act → World → Prop} {ops : Array Oper} {K : Act → World → Prop} {w0 : World}
variable {d ty : Nat} {pos : String} {af : Array Edge} {fo : Operand} {as_ : List Operand} {ats : Array TypeId} {f : FuncId} {args : List Value} {r r' : Res} {X : List Nat}
theorem FnX.of_V {args : Array Value} {v : Value} {t k : Nat} (h : FnV P f args I v) : FnX P f args I [] (fun u r => u = v ∧ r = .row (.slice none 0 0) t k 0 []) :=
  ⟨fun w m => (h.go w m).mono fun _ _ ⟨u, I', H', he, hm, hq⟩ => by
    obtain ⟨rfl, rfl, rfl⟩ := hq
    exact ⟨_, _, _, he, hm.nilrow t k, rfl, _, rfl, rfl, rfl⟩⟩
theorem FnX.back {args : Array Value} {g e k m cap : Nat} {xss yss rest : List (List Value)} {p : Value → Res → Prop} (hU : Uk k yss) (hR : Uk k rest) (hm : yss.length = m) (hc : m + rest.length = cap) (hl : cap ≤ maxLen)
    (h : FnX P f args I [.blk g e (xss ++ rest).flatten] (fun u r => p u (.row (.slice (some ⟨g, 0, none⟩) m cap) e k m yss.flatten) ∧ r = .blk g e (yss ++ rest).flatten)) : FnX P f args I [.blk g e (xss ++ rest).flatten] p :=
  ⟨fun w m' => (h.go w m').mono fun _ w' ⟨u, I', H', he, hm', hq⟩ => by
    obtain ⟨rfl, r', rfl, hp, rfl⟩ := hq
    refine ⟨_, _, _, he, ?_, rfl, _, rfl, hp⟩
    have hb : w'.heap[g]? = some (.cells (yss ++ rest).flatten.toArray e (0, 0)) := hm'.blk
    exact hm'.step rfl ⟨rfl, Nat.le_refl _⟩ rfl (Nat.le_refl _) (fun _ _ _ => rfl) (IsRow.shut hb hU hR hm hc hl) (fun g' hg' => .inl hg')⟩
end
/-! picking -/
section
variable {day : Int} {l : List Rep} {ch : List Int} {i : Nat} {out : List Pkd}
end
end Go.Sx

/- Lists of texts in a block: their order does not matter, their elements do. -/
set_option linter.all false
namespace Go.Sx
open Go
def strCh (l : List ByteArray) : List (List Value) := l.map fun s => [.string s]
theorem str_flat (I : IMap) : ∀ l : List ByteArray, FlatC I (strCh l) l
  | [] => .nil
  | s :: r => .cons rfl (str_flat I r)
theorem str_of {I : IMap} {xss : List (List Value)} {l : List ByteArray} (h : FlatC I xss l) : xss = strCh l := by
  induction h with
  | nil => rfl
  | cons h1 _ ih => rw [ih]; simp only [strCh, List.map_cons]; rw [show _ = _ from h1]
/-- of the same elements -/
def Pm (l m : List ByteArray) : Prop := m.length = l.length ∧ ∀ x, x ∈ m ↔ x ∈ l
theorem Pm.refl (l : List ByteArray) : Pm l l := ⟨rfl, fun _ => Iff.rfl⟩
theorem Pm.swap {l m : List ByteArray} {i j : Nat} (h : Pm l m) (hi : i < m.length) (hj : j < m.length) : Pm l ((m.set i m[j]).set j m[i]) := by
  have hp : ((m.set i m[j]).set j m[i]).Perm m := List.set_set_perm hi hj
  exact ⟨by rw [List.length_set, List.length_set]; exact h.1, fun x => by rw [hp.mem_iff]; exact h.2 x⟩
theorem conv_u8 (b : UInt8) : IntKind.i64.wrap ((b.toNat : Nat) : Int) = ((b.toNat : Nat) : Int) := by
  have := b.toNat_lt; rw [IntKind.wrap_i64]; omega
theorem conv_add (b : UInt8) : I64 (0 + ((b.toNat : Nat) : Int)) := by
  have := b.toNat_lt; exact ⟨by omega, by omega⟩
/-! what is left of a list of texts without repetitions -/
structure Cpt (l B : List ByteArray) (k p : Nat) : Prop where
  len : B.length = l.length
  kp : k + 1 ≤ p
  pl : p ≤ l.length
  tail : ∀ j, p - 1 ≤ j → B[j]? = l[j]?
  mem : ∀ x, x ∈ B.take k ↔ x ∈ l.take p
theorem Cpt.start {l : List ByteArray} {k : Nat} (hk : 1 ≤ k) (hl : k < l.length) (h : l[k] = l[k - 1]) : Cpt l l k (k + 1) := by
  refine ⟨rfl, Nat.le_refl _, hl, fun _ _ => rfl, fun x => ?_⟩
  rw [← take_succ_of hl]
  constructor
  · intro hx; exact List.mem_append_left _ hx
  · intro hx
    rcases List.mem_append.1 hx with hx | hx
    · exact hx
    · obtain rfl := List.mem_singleton.1 hx
      rw [h]
      exact List.mem_take_iff_getElem.2 ⟨k - 1, by omega, rfl⟩
theorem Cpt.skip {l B : List ByteArray} {k p : Nat} (h : Cpt l B k p) (hp : p < l.length) (he : l[p] = l[p - 1]) (h1 : 1 ≤ p) : Cpt l B k (p + 1) := by
  refine ⟨h.len, by have := h.kp; omega, hp, fun j hj => h.tail j (by omega), fun x => ?_⟩
  rw [h.mem x, ← take_succ_of hp]
  constructor
  · intro hx; exact List.mem_append_left _ hx
  · intro hx
    rcases List.mem_append.1 hx with hx | hx
    · exact hx
    · obtain rfl := List.mem_singleton.1 hx
      rw [he]
      exact List.mem_take_iff_getElem.2 ⟨p - 1, by omega, rfl⟩
theorem Cpt.keep {l B : List ByteArray} {k p : Nat} (h : Cpt l B k p) (hp : p < l.length) : Cpt l (B.set k l[p]) (k + 1) (p + 1) := by
  have hkp := h.kp
  have hkB : k < B.length := by rw [h.len]; omega
  refine ⟨by rw [List.length_set]; exact h.len, by omega, hp, fun j hj => ?_, fun x => ?_⟩
  · rw [List.getElem?_set_ne (by omega)]; exact h.tail j (by omega)
  · rw [← take_succ_of (l := B.set k l[p]) (i := k) (by rw [List.length_set]; exact hkB), ← take_succ_of hp, List.mem_append, List.mem_append, List.getElem_set_self, List.take_set_of_le (Nat.le_refl _), h.mem x]
theorem Cpt.get {l B : List ByteArray} {k p j : Nat} (h : Cpt l B k p) (hj : p - 1 ≤ j) (hl : j < l.length) (hb : j < B.length) : B[j] = l[j] := by
  have := h.tail j hj
  rw [List.getElem?_eq_getElem hl, List.getElem?_eq_getElem hb] at this
  exact Option.some.inj this
theorem Cpt.done {l B : List ByteArray} {k : Nat} (h : Cpt l B k l.length) (x : ByteArray) : x ∈ B.take k ↔ x ∈ l := by
  rw [h.mem x, List.take_length]
section
variable {P : Program} {ρ : Option Nat} {n : Sz} {E : Ent} {I : IMap} {L : LL} {H : List Res} {Q : Exit → Act → World → Prop} {ops : Array Oper} {K : Act → World → Prop}
variable {d ty : Nat} {pos : String} {af : Array Edge} {x y z : Operand}
theorem v_sidxK {ts : Nat} {s : ByteArray} {i : Int} {kd : IntKind} (ht : P.underlying ts = some .string) (hx : ev L x = some (.string s)) (hy : ev L y = some (.int kd i)) (q : Nat) (hq : i = (q : Int)) (hlt : q < s.size) : OV P n E I L H ⟨some d, .index ts x y, ty, pos, af, none⟩ (.int .u8 ((s[q]!.toNat : Nat) : Int)) :=
  (fun a w st _ => by
    subst hq
    have hs : s[q]? = some (s[q]!) := by rw [getElem?_pos s q hlt, getElem!_pos s q hlt]
    simp [execOp, st.ev hx, st.ev hy, Instr.index, asIntOf, run_underlying ht, hs])
theorem FnX.weak {f : FuncId} {args : Array Value} {H : List Res} {p q : Value → Res → Prop} (h : FnX P f args I H p) (hpq : ∀ u r, p u r → q u r) : FnX P f args I H q :=
  ⟨fun w m' => (h.go w m').mono fun _ w' ⟨u, I', H', he, hm', hq⟩ => by
    obtain ⟨rfl, r', rfl, hp⟩ := hq
    exact ⟨_, _, _, he, hm', rfl, _, rfl, hpq _ _ hp⟩⟩
end
end Go.Sx

/- Sorting of any length: from the kit's contracts to contracts over a private row. -/
set_option linter.all false
namespace Go.Sx
open Go
section
variable {α : Type} [Inhabited α] {w : World} {g t : Nat} {cur : Array Value}
theorem getI! (d : Array α) (j : Nat) (h : j < d.size) : d[j]! = d[j] := getElem!_pos d j h
theorem holds_row {enc : α → Value} (hg : w.heap[g]? = some (.cells cur t (0, 0))) (d : Array α) (h : cur.toList.take d.size = d.toList.map enc) : Sort.Holds enc w g 0 d := by
  intro j hj
  have hc : cur[j]? = some (enc d[j]!) := by
    have h1 : (cur.toList.take d.size)[j]? = (d.toList.map enc)[j]? := by rw [h]
    rw [List.getElem?_take, if_pos hj, List.getElem?_map, Array.getElem?_toList, Array.getElem?_toList, Array.getElem?_eq_getElem hj] at h1
    rw [h1, getI! d j hj]; rfl
  constructor
  · simp only [World.cell?, hg, Nat.zero_add]
    exact hc
  · simp [World.frozen?, hg]
/-- what the world holds behind a sort -/
theorem sorted_world {enc : α → Value} (hg : w.heap[g]? = some (.cells cur t (0, 0))) (d : Array α) (hd : d.size ≤ cur.size) (n : Nat) (os : Array Obj) :
    ∃ cur', (Sort.grow (Sort.putRow enc (Sort.ahead w n) g 0 d) os).heap[g]? = some (.cells cur' t (0, 0)) ∧ cur'.size = cur.size ∧ cur'.toList.take d.size = d.toList.map enc ∧
      w.heap.size ≤ (Sort.grow (Sort.putRow enc (Sort.ahead w n) g 0 d) os).heap.size ∧ ∀ k, k < w.heap.size → k ≠ g → (Sort.grow (Sort.putRow enc (Sort.ahead w n) g 0 d) os).heap[k]? = w.heap[k]? := by
  have hlt : g < w.heap.size := (Array.getElem?_eq_some_iff.1 hg).1
  have hh : (Sort.grow (Sort.putRow enc (Sort.ahead w n) g 0 d) os).heap = w.heap.modify g (Sort.onCells (Sort.putCells enc 0 d)) ++ os := rfl
  refine ⟨Sort.putCells enc 0 d cur, ?_, by simp [Sort.putCells], ?_, by rw [hh]; simp, fun k hk hne => ?_⟩
  · rw [hh, Array.getElem?_append_left (by simpa using hlt), Array.getElem?_modify, if_pos rfl, hg]; rfl
  · refine List.ext_getElem? fun j => ?_
    rw [List.getElem?_take, List.getElem?_map, Array.getElem?_toList, Array.getElem?_toList]
    by_cases hj : j < d.size
    · rw [if_pos hj, Array.getElem?_eq_getElem hj]
      simp only [Sort.putCells, Array.getElem?_mapIdx]
      rw [Array.getElem?_eq_getElem (by omega : j < cur.size)]
      simp only [Option.map_some]
      rw [if_pos ⟨Nat.zero_le _, by omega⟩, Nat.sub_zero, getI! d j hj]
    · rw [if_neg hj, Array.getElem?_eq_none (by omega)]; rfl
  · rw [hh, Array.getElem?_append_left (by simpa using hk), Array.getElem?_modify, if_neg (fun e => hne e.symm)]
end
/-- a permutation, sorted -/
def SrtP (l m : List ByteArray) : Prop := m.Perm l ∧ m.Pairwise fun a b => sLt b a = false
def toL (s : ByteArray) : List UInt8 := s.data.toList
def ofL (b : List UInt8) : ByteArray := ⟨b.toArray⟩
theorem toL_ofL (b : List UInt8) : toL (ofL b) = b := rfl
theorem sLt_toL (a b : ByteArray) : sLt a b = decide (toL a < toL b) := by
  unfold sLt
  rw [Proofs.bytesLess_eq, ByteArray.toList_eq, ByteArray.toList_eq]; rfl
theorem srt_strings (l : List ByteArray) : SrtP l (((l.map toL).mergeSort fun x y => decide (x ≤ y)).map ofL) := by
  have h1 := List.mergeSort_perm (l.map toL) (fun x y => decide (x ≤ y))
  have h2 := List.pairwise_mergeSort (le := fun x y : List UInt8 => decide (x ≤ y)) (fun a b c hab hbc => by simp only [decide_eq_true_eq] at *; exact List.le_trans hab hbc) (fun a b => by simp only [Bool.or_eq_true, decide_eq_true_eq]; exact List.le_total a b) (l.map toL)
  constructor
  · have h3 := h1.map ofL
    rw [List.map_map] at h3
    have e : (ofL ∘ toL) = id := by funext s; rfl
    rwa [e, List.map_id] at h3
  · rw [List.pairwise_map]
    refine h2.imp fun {a b} h => ?_
    rw [sLt_toL, toL_ofL, toL_ofL, decide_eq_false_iff_not]
    simp only [decide_eq_true_eq] at h
    exact h
theorem strs_flat (l : List ByteArray) : (strCh l).flatten = l.map Value.string := by
  induction l with
  | nil => rfl
  | cons x l ih => simp only [strCh, List.map_cons, List.flatten_cons] at *; rw [ih]; rfl
section
variable {P : Program} {f : FuncId} {I : IMap}
/-- strings -/
theorem sort_str (he : ∀ args w, (callFunc f args).run P w = .ok (.enter f args) w)
    (hk : ∀ (blk off cap : Nat) (ss : List (List UInt8)) (w : World), Sort.Holds Proofs.encStr w blk off ss.toArray → blk < w.heap.size → ss.length < 4611686018427387904 →
      Calls P f #[.slice (some ⟨blk, off, none⟩) ss.length cap] w fun e w' => e = .returned (.tuple #[]) ∧ ∃ n os, w' = Sort.grow (Sort.putRow Proofs.encStr (Sort.ahead w n) blk off (ss.mergeSort fun x y => decide (x ≤ y)).toArray) os)
    (hnil : FnV P f #[.slice none 0 0] I (.tuple #[])) {v : Value} {t : Nat} {l : List ByteArray} {xs : List Value} (hF : Flat I xs l) (hl : l.length ≤ 1000000) :
    FnX P f #[v] I [.row v t 1 l.length xs] (fun u r => u = .tuple #[] ∧ ∃ m ys, SrtP l m ∧ Flat I ys m ∧ r = .row v t 1 l.length ys) := by
  obtain ⟨xss, rfl, hC⟩ := FlatC.of hF
  obtain rfl := str_of hC
  refine ⟨fun w m => ?_⟩
  have hrow := m.holds _ (List.mem_cons_self ..)
  obtain ⟨hx, h | ⟨g, cap, cur, hv, hg, hn, hc, hs, ht⟩⟩ := hrow
  · obtain ⟨rfl, hl0⟩ := h
    obtain rfl : l = [] := List.eq_nil_of_length_eq_zero hl0
    exact ((FnX.of_V (t := t) (k := 1) hnil).weak (fun u r hur => by
      obtain ⟨rfl, rfl⟩ := hur
      exact ⟨rfl, [], [], ⟨.refl _, .nil⟩, .nil, rfl⟩)).go w m.drop
  subst hv
  unfold After
  rw [he]
  have hflat := strs_flat l
  have hH : Sort.Holds Proofs.encStr w g 0 (l.map toL).toArray := holds_row hg _ (by
    rw [Nat.mul_one] at ht
    simp only [List.size_toArray, List.length_map]
    rw [ht, hflat, List.map_map]
    rfl)
  have hcall := hk g 0 cap (l.map toL) w hH (Array.getElem?_eq_some_iff.1 hg).1 (by rw [List.length_map]; omega)
  rw [List.length_map] at hcall
  refine Calls.mono hcall fun e w' h => ?_
  obtain ⟨rfl, n, os, rfl⟩ := h
  obtain ⟨cur', h1, h2, h3, h4, h5⟩ := sorted_world (enc := Proofs.encStr) hg ((l.map toL).mergeSort fun x y => decide (x ≤ y)).toArray (by
    simp only [List.size_toArray, List.length_mergeSort, List.length_map]; omega) n os
  have hsl : ((l.map toL).mergeSort fun x y => decide (x ≤ y)).length = l.length := by rw [List.length_mergeSort, List.length_map]
  refine ⟨.tuple #[], I, [.row (.slice (some ⟨g, 0, none⟩) l.length cap) t 1 l.length (strCh (((l.map toL).mergeSort fun x y => decide (x ≤ y)).map ofL)).flatten], rfl, ?_, rfl, _, rfl, rfl, _, _, srt_strings l, (str_flat I _).flat, rfl⟩
  refine m.step rfl ⟨rfl, Nat.le_add_right w.drawn n⟩ rfl h4 (fun k hk hne => h5 k hk fun e => hne (by subst e; rfl)) ?_ (fun g' hg' => .inl hg')
  have hfl : ∀ q : List (List UInt8), (strCh (q.map ofL)).flatten = q.map Proofs.encStr := fun q => by rw [strs_flat, List.map_map]; rfl
  refine ⟨by rw [hfl, List.length_map, hsl, Nat.mul_one], .inr ⟨g, cap, cur', rfl, h1, hn, hc, by rw [h2, hs], ?_⟩⟩
  simp only [List.size_toArray, hsl] at h3
  rw [Nat.mul_one, h3, hfl]
end
end Go.Sx

/- Sorting structs of any length by a comparison. -/
set_option linter.all false
namespace Go.Sx
open Go
def I00 : IMap := fun _ => none
theorem mem00 (W : World) : Mem ⟨[], I00, W⟩ I00 [] W :=
  ⟨Upd.refl _ _, fun b o hb => (by cases hb), ILe.refl _, fun b hb => absurd rfl hb, fun r hr => (by cases hr), fun r hr => (by cases hr), List.nodup_nil⟩
/-- a world in which only blocks are new, and draws made -/
theorem upd_world {W W' : World} (h : Upd [] W W') : ∃ q os, W' = Sort.grow (W.drewN q) os := by
  obtain ⟨h1, ⟨h2, h3⟩, h4, h5, h6⟩ := h
  refine ⟨W'.drawn - W.drawn, W'.heap.extract W.heap.size W'.heap.size, ?_⟩
  have hh : W'.heap = W.heap ++ W'.heap.extract W.heap.size W'.heap.size := by
    refine Array.ext_getElem? fun i => ?_
    by_cases hi : i < W.heap.size
    · rw [Array.getElem?_append_left hi]; exact h6 i hi (by simp)
    · rw [Array.getElem?_append_right (by omega), Array.getElem?_extract]
      by_cases hj : i < W'.heap.size
      · rw [if_pos (by omega), show W.heap.size + (i - W.heap.size) = i by omega]
      · rw [if_neg (by omega), Array.getElem?_eq_none (by omega)]
  have hd : W'.drawn = W.drawn + (W'.drawn - W.drawn) := by omega
  cases W with
  | mk hp tp dr os ot =>
    cases W' with
    | mk hp' tp' dr' os' ot' =>
      simp only at h1 h2 h4 hh hd
      subst h1 h2 h4
      unfold Sort.grow World.drewN
      simp only
      rw [← hh, ← hd]
section
variable {P : Program} {α : Type} [Inhabited α] {cells : α → List Value} {k : Nat} {cf : α → α → Int}
theorem cmpLays_of {gf : FuncId} (eg : ∀ args w, (callFunc gf args).run P w = .ok (.enter gf args) w) (hc : ∀ x y, FnV P gf #[.agg (cells x).toArray, .agg (cells y).toArray] I00 (.int .i64 (cf x y))) (blk off size : Nat) (w : World) : Proofs.CmpLays P gf #[] cells k cf blk off size w := by
  intro m os dk _ x y
  have h := (hc x y).go _ (mem00 (Proofs.sortWorldK cells k w blk off m dk os))
  unfold After at h
  rw [eg] at h
  refine Calls.mono h fun e w' hp => ?_
  obtain ⟨v, I', H', rfl, hm, rfl, rfl, rfl⟩ := hp
  obtain ⟨q, os', h2⟩ := upd_world hm.upd
  exact ⟨rfl, q, os', h2⟩
theorem flatK_list (hk : ∀ x, (cells x).length = k) : ∀ l : List α, (Sort.flatK cells k l.toArray).toList = l.flatMap cells
  | [] => by simp [Sort.flatK]
  | x :: l => by
    have ih := flatK_list hk l
    simp only [Sort.flatK, Array.toList_map, Array.toList_range, List.size_toArray] at ih ⊢
    rw [List.length_cons, Nat.add_mul, Nat.one_mul, Nat.add_comm, List.range_add, List.map_append, List.map_map, List.flatMap_cons]
    congr 1
    · refine List.ext_getElem? fun t => ?_
      rw [List.getElem?_map]
      by_cases ht : t < k
      · rw [List.getElem?_range ht, Option.map_some, Nat.div_eq_of_lt ht, Nat.mod_eq_of_lt ht]
        have hl : t < (cells x).length := by rw [hk]; exact ht
        rw [List.getElem?_eq_getElem hl]
        simp [hl]
      · rw [List.getElem?_eq_none (by simpa using ht), List.getElem?_eq_none (by rw [hk]; omega)]; rfl
    · rw [← ih]
      refine List.map_congr_left fun t ht => ?_
      have h0 : 0 < k := by
        rcases Nat.eq_zero_or_pos k with h | h
        · subst h; simp at ht
        · exact h
      simp only [Function.comp]
      rw [Nat.add_div_left _ h0, Nat.add_mod_left]
      have e : (x :: l).toArray[t / k + 1]! = l.toArray[t / k]! := by simp
      rw [e]
def SrtK (cf : α → α → Int) (l m : List α) : Prop := m.Perm l ∧ m.Pairwise fun a b => ¬ cf b a < 0
theorem srtK_of {l : List α} {d' : Array α} (hp : Sort.PermIn 0 l.toArray.size l.toArray d') (hs : Sort.SortedIn (Proofs.ltOf cf) 0 l.toArray.size d') : SrtK cf l d'.toList := by
  obtain ⟨h1, _, h3⟩ := hp
  have hsz : d'.size = l.length := by simpa using h1
  constructor
  · simpa [List.take_of_length_le (show d'.toList.length ≤ l.length by rw [Array.length_toList, hsz]; exact Nat.le_refl _)] using h3
  · rw [List.pairwise_iff_getElem]
    intro i j hi hj hij
    have hj' : j < d'.size := by simpa using hj
    have h := hs i j (Nat.zero_le _) hij (by simp only [List.size_toArray]; omega)
    rw [getI! d' i (by omega), getI! d' j hj'] at h
    simp only [Proofs.ltOf, decide_eq_false_iff_not] at h
    simpa using h
theorem sort_cmp {f gf : FuncId} {I : IMap} (he : ∀ args w, (callFunc f args).run P w = .ok (.enter f args) w) (eg : ∀ args w, (callFunc gf args).run P w = .ok (.enter gf args) w)
    (hk : ∀ (blk off cap : Nat) (d : Array α) (w : World), Proofs.CmpLays P gf #[] cells k cf blk off d.size w → Sort.HoldsK cells k w blk off d → blk < w.heap.size → d.size < 4611686018427387904 →
      Calls P f #[.slice (some ⟨blk, off, none⟩) d.size cap, .func (.func gf) #[] #[]] w fun e w' => e = .returned (.tuple #[]) ∧ ∃ d' n os, Sort.PermIn 0 d.size d d' ∧ Sort.SortedIn (Proofs.ltOf cf) 0 d.size d' ∧ w' = Proofs.sortWorldK cells k w blk off n d' os)
    (hnil : ∀ w, Calls P f #[.slice none 0 0, .func (.func gf) #[] #[]] w fun e w' => e = .returned (.tuple #[]) ∧ w' = w)
    (hc : ∀ x y, FnV P gf #[.agg (cells x).toArray, .agg (cells y).toArray] I00 (.int .i64 (cf x y))) (hlen : ∀ x, (cells x).length = k) {v : Value} {t : Nat} {l : List α} (hl : l.length ≤ 1000000) :
    FnX P f #[v, .func (.func gf) #[] #[]] I [.row v t k l.length (l.flatMap cells)] (fun u r => u = .tuple #[] ∧ ∃ m, SrtK cf l m ∧ r = .row v t k l.length (m.flatMap cells)) := by
  refine ⟨fun w m => ?_⟩
  have hrow := m.holds _ (List.mem_cons_self ..)
  unfold After
  rw [he]
  obtain ⟨hx, h | ⟨g, cap, cur, hv, hg, hn, hcm, hs, ht⟩⟩ := hrow
  · obtain ⟨rfl, hl0⟩ := h
    obtain rfl : l = [] := List.eq_nil_of_length_eq_zero hl0
    refine Calls.mono (hnil w) fun e w' h => ?_
    obtain ⟨rfl, rfl⟩ := h
    exact ⟨_, I, _, rfl, m, rfl, _, rfl, rfl, [], ⟨.refl _, .nil⟩, rfl⟩
  subst hv
  have hfs : ∀ q : List α, q.length = l.length → (Sort.flatK cells k q.toArray).size = l.length * k := fun q hq => by simp [hq]
  have hH : Sort.HoldsK cells k w g 0 l.toArray := by
    refine holds_row (enc := id) hg _ ?_
    rw [hfs l rfl, ht, List.map_id, flatK_list hlen]
  have hcall := hk g 0 cap l.toArray w (cmpLays_of eg hc g 0 _ w) hH (Array.getElem?_eq_some_iff.1 hg).1 (by simp only [List.size_toArray]; omega)
  refine Calls.mono hcall fun e w' h => ?_
  obtain ⟨rfl, d', n, os, hp, hso, rfl⟩ := h
  have hsr := srtK_of hp hso
  have hdl : d'.toList.length = l.length := hsr.1.length_eq
  have hfd : (Sort.flatK cells k d').size = l.length * k := by have := hfs d'.toList hdl; simpa using this
  obtain ⟨cur', h1, h2, h3, h4, h5⟩ := sorted_world (enc := id) hg (Sort.flatK cells k d') (by rw [hfd, hs]; exact Nat.mul_le_mul_right k hn) n os
  have hfl : (Sort.flatK cells k d').toList = d'.toList.flatMap cells := flatK_list hlen d'.toList
  refine ⟨.tuple #[], I, [.row (.slice (some ⟨g, 0, none⟩) l.length cap) t k l.length (d'.toList.flatMap cells)], rfl, ?_, rfl, _, rfl, rfl, _, hsr, rfl⟩
  refine m.step rfl ⟨rfl, Nat.le_add_right w.drawn n⟩ rfl h4 (fun q hq hne => h5 q hq fun e => hne (by subst e; rfl)) ?_ (fun g' hg' => .inl hg')
  rw [hfd, List.map_id, hfl] at h3
  refine ⟨?_, .inr ⟨g, cap, cur', rfl, h1, hn, hcm, by rw [h2, hs], h3⟩⟩
  rw [← hfl, Array.length_toList, hfd]
end
end Go.Sx

/- Due dates compared. -/
set_option linter.all false
namespace Go.Sx
open Go
theorem cmpB_facts : ∀ (x y : List UInt8), (Lib.compareBytes x y < 0 ↔ Op.bytesLess x y = true) ∧ (Lib.compareBytes x y = 0 ↔ x = y)
  | [], [] => by simp [Lib.compareBytes, Op.bytesLess]
  | [], _ :: _ => by simp [Lib.compareBytes, Op.bytesLess]
  | _ :: _, [] => by simp [Lib.compareBytes, Op.bytesLess]
  | a :: x, b :: y => by
    have ih := cmpB_facts x y
    simp only [Lib.compareBytes, Op.bytesLess]
    by_cases h1 : a < b
    · have hne : ¬ a = b := fun e => by subst e; exact absurd h1 (UInt8.lt_irrefl _)
      simp [h1, hne]
    · by_cases h2 : b < a
      · have hne : ¬ a = b := fun e => by subst e; exact absurd h2 (UInt8.lt_irrefl _)
        simp [h1, h2, hne]
      · have he : a = b := UInt8.le_antisymm (UInt8.not_lt.1 h2) (UInt8.not_lt.1 h1)
        subst he
        simp [h1, ih.1, ih.2]
def cmpR (a b : ByteArray) : Int := Lib.compareBytes a.data.toList b.data.toList
theorem cmpR_lt {a b : ByteArray} : cmpR a b < 0 ↔ sLt a b = true := by
  unfold cmpR sLt
  rw [(cmpB_facts _ _).1, ByteArray.toList_eq, ByteArray.toList_eq]
/-- the first that is not 0 -/
def orI : List Int → Int
  | [] => 0
  | x :: l => if x ≠ 0 then x else orI l
theorem or_skip {l : List Int} {i : Nat} (h : i < l.length) (h0 : l[i] = 0) : orI (l.drop i) = orI (l.drop (i + 1)) := by
  rw [List.drop_eq_getElem_cons h, orI, if_neg (by rw [h0]; decide)]
theorem or_hit {l : List Int} {i : Nat} (h : i < l.length) (h0 : ¬ l[i] = 0) : l[i] = orI (l.drop i) := by
  rw [List.drop_eq_getElem_cons h, orI, if_pos h0]
def cfDue (a b : Due) : Int := orI [cmpI a.day b.day, cmpR a.rule b.rule]
theorem cfDue_lt {a b : Due} : cfDue a b < 0 ↔ dueLt a b = true := by
  unfold cfDue orI orI orI cmpI
  simp only [dueLt, Bool.or_eq_true, Bool.and_eq_true, decide_eq_true_eq]
  have hr := cmpR_lt (a := a.rule) (b := b.rule)
  by_cases h1 : a.day < b.day
  · simp [h1]
  · by_cases h2 : b.day < a.day
    · have : ¬ a.day = b.day := by omega
      simp [h1, h2, this]
    · have he : a.day = b.day := by omega
      simp only [he, Int.lt_irrefl, if_false, ne_eq, not_true, true_and, false_or, ← hr]
      split <;> omega
instance : Inhabited Due := ⟨⟨nil8, nil8, 0⟩⟩
theorem ltOf_due : Proofs.ltOf cfDue = dueLt := by
  funext a b
  unfold Proofs.ltOf
  rw [Bool.eq_iff_iff, decide_eq_true_eq, cfDue_lt]
theorem due_swo : Sort.SWO (Proofs.ltOf cfDue) := by
  rw [ltOf_due]
  refine ⟨dueLt_irrefl, dueLt_trans, fun x y z h1 h2 => ?_⟩
  simp only [dueLt, Bool.or_eq_false_iff, Bool.and_eq_false_iff, decide_eq_false_iff_not] at *
  refine ⟨by omega, ?_⟩
  by_cases hd : x.day = z.day
  · right
    have e1 : x.day = y.day := by omega
    have e2 : y.day = z.day := by omega
    have a1 := h1.2.resolve_left (fun h => h e1)
    have a2 := h2.2.resolve_left (fun h => h e2)
    cases h3 : sLt x.rule z.rule with
    | false => rfl
    | true =>
      cases h4 : sLt y.rule x.rule with
      | true => rw [sLt_trans h4 h3] at a2; cases a2
      | false => rw [sLt_tri a1 h4] at h3; rw [h3] at a2; cases a2
  · exact .inl hd
/-- sorted dues without repetition are the ones -/
theorem srt_due {l m : List Due} (h : SrtK cfDue l m) (hn : l.Nodup) (hp : ∀ x ∈ l, ∀ y ∈ l, x.part = y.part) : SrtU dueLt m := by
  have hnm : m.Nodup := (h.1.nodup_iff).2 hn
  have h2 := h.2
  rw [List.nodup_iff_pairwise_ne] at hnm
  have h3 := List.Pairwise.and_mem.1 (h2.and hnm)
  refine h3.imp fun {a b} hab => ?_
  obtain ⟨ha, hb, h4, h5⟩ := hab
  have hpa := hp a (h.1.mem_iff.1 ha) b (h.1.mem_iff.1 hb)
  refine dueLt_tri hpa ?_ (fun e => h5 e.symm)
  cases hc : dueLt b a with
  | false => rfl
  | true => exact absurd (cfDue_lt.2 hc) h4
theorem srt_names {l m : List ByteArray} (h : SrtP l m) (hn : l.Nodup) : SrtU sLt m := by
  have hnm : m.Nodup := (h.1.nodup_iff).2 hn
  rw [List.nodup_iff_pairwise_ne] at hnm
  refine (h.2.and hnm).imp fun {a b} hab => ?_
  cases hc : sLt a b with
  | true => rfl
  | false => exact absurd (sLt_tri hc hab.1) hab.2
theorem keys_step {pre : List ByteArray} {todo a b kvs : List (ByteArray × Value)} {e : ByteArray × Value} (hP : (pre ++ todo.map Prod.fst).Perm (kvs.map Prod.fst)) (h : todo = a ++ e :: b) : (pre ++ [e.1] ++ (a ++ b).map Prod.fst).Perm (kvs.map Prod.fst) := by
  subst h
  refine List.Perm.trans ?_ hP
  rw [List.append_assoc, List.map_append, List.map_append, List.map_cons]
  exact List.Perm.append_left _ (List.perm_middle (a := e.1) (l₁ := a.map Prod.fst) (l₂ := b.map Prod.fst)).symm
theorem keys_lt {pre : List ByteArray} {todo a b kvs : List (ByteArray × Value)} {e : ByteArray × Value} (hP : (pre ++ todo.map Prod.fst).Perm (kvs.map Prod.fst)) (h : todo = a ++ e :: b) : pre.length < kvs.length := by
  subst h
  have := hP.length_eq
  simp at this
  omega
/-- those that are open, of some entries -/
def opL (day : Int) (done : List (Due × Value)) : List Due := (done.map Prod.fst).filter fun x => decide (x.day ≥ day)
theorem opL_yes {day : Int} {done : List (Due × Value)} {e : Due × Value} (h : e.1.day ≥ day) : opL day (done ++ [e]) = opL day done ++ [e.1] := by simp [opL, h]
theorem opL_no {day : Int} {done : List (Due × Value)} {e : Due × Value} (h : ¬ e.1.day ≥ day) : opL day (done ++ [e]) = opL day done := by simp [opL]; omega
theorem opL_len (day : Int) (done : List (Due × Value)) : (opL day done).length ≤ done.length := by unfold opL; exact Nat.le_trans (List.length_filter_le _ _) (by rw [List.length_map]; exact Nat.le_refl _)
theorem due_flat {I : IMap} (l : List Due) : Flat I (l.flatMap Due.cells) l := by
  induction l with
  | nil => exact .nil
  | cons x l ih => exact .cons rfl ih
theorem pendF_len (ds : List Dut) (c : List Kind) (l : List Evt) (p : ByteArray) (day : Int) : (pendF ds c l p day).length ≤ ds.length := by
  unfold pendF
  split
  · exact Nat.zero_le _
  · exact List.length_filterMap_le _ _
theorem KeysD.len {kvs : List (Due × Value)} {L : List Due} (h : KeysD kvs L) : kvs.length ≤ L.length := by
  have := h.1.length_le_of_subset (l₂ := L) fun x hx => (h.2 x).1 hx
  rwa [List.length_map] at this
section
variable {ds : List Dut} {c : List Kind} {l : List Evt} {p : ByteArray} {day : Int} {kvs done : List (Due × Value)}
theorem open_is {m : List Due} (hK : KeysD kvs (pendF ds c l p day)) (hd : done.Perm kvs) (hs : SrtK cfDue (opL day done) m) : openD ds c l p day = m := by
  have hmem : ∀ x, x ∈ opL day done ↔ x ∈ pendF ds c l p day ∧ day ≤ x.day := fun x => by
    unfold opL
    rw [List.mem_filter, (hd.map Prod.fst).mem_iff, hK.2]
    simp
  have hnd : (opL day done).Nodup := List.filter_sublist.nodup ((hd.map Prod.fst).nodup_iff.2 hK.1)
  refine SrtU.uniq dueLt_irrefl dueLt_trans openD_srt (srt_due hs hnd fun x hx y hy => (pend_part ((hmem x).1 hx).1).trans (pend_part ((hmem y).1 hy).1).symm) fun z => ?_
  rw [openD_mem, hs.1.mem_iff, hmem]
end
/-- a set of names -/
def KeysN (kvs : List (ByteArray × Value)) (L : List ByteArray) : Prop := (kvs.map Prod.fst).Nodup ∧ ∀ x, x ∈ kvs.map Prod.fst ↔ x ∈ L
theorem KeysN.nil : KeysN [] [] := ⟨List.nodup_nil, fun x => Iff.rfl⟩
/-- the names of those that are overdue, of some entries -/
def lateL (day : Int) (done : List (Due × Value)) : List ByteArray := ((done.map Prod.fst).filter fun x => decide (x.day < day)).map Due.rule
theorem KeysN.yes {day : Int} {done : List (Due × Value)} {e : Due × Value} {ns : List (ByteArray × Value)} {v : Value} (h : KeysN ns (lateL day done)) (hd : e.1.day < day) : KeysN (mput ns e.1.rule v) (lateL day (done ++ [e])) :=
  ⟨mput_nd h.1, fun x => by rw [mput_mem, h.2]; simp [lateL, hd, or_comm]⟩
theorem KeysN.no {day : Int} {done : List (Due × Value)} {e : Due × Value} {ns : List (ByteArray × Value)} (h : KeysN ns (lateL day done)) (hd : ¬ e.1.day < day) : KeysN ns (lateL day (done ++ [e])) :=
  ⟨h.1, fun x => by rw [h.2]; simp [lateL, hd]⟩
theorem KeysN.len {day : Int} {done : List (Due × Value)} {ns : List (ByteArray × Value)} (h : KeysN ns (lateL day done)) : ns.length ≤ done.length := by
  have h1 := h.1.length_le_of_subset (l₂ := lateL day done) fun x hx => (h.2 x).1 hx
  rw [List.length_map] at h1
  refine Nat.le_trans h1 ?_
  unfold lateL
  rw [List.length_map]
  exact Nat.le_trans (List.length_filter_le _ _) (by rw [List.length_map]; exact Nat.le_refl _)
section
variable {ds : List Dut} {c : List Kind} {l : List Evt} {p : ByteArray} {day : Int} {kvs done : List (Due × Value)} {ns : List (ByteArray × Value)}
theorem late_is {m : List ByteArray} (hK : KeysD kvs (pendF ds c l p day)) (hd : done.Perm kvs) (hN : KeysN ns (lateL day done)) (hs : SrtP (ns.map Prod.fst) m) : lateN ds c l p day = m := by
  refine SrtU.uniq sLt_irrefl (fun a b c h1 h2 => sLt_trans h1 h2) lateN_srt (srt_names hs hN.1) fun z => ?_
  rw [lateN_mem, hs.1.mem_iff, hN.2]
  unfold lateL
  rw [List.mem_map]
  constructor
  · rintro ⟨x, hx, h1, h2⟩
    exact ⟨x, List.mem_filter.2 ⟨(hd.map Prod.fst).mem_iff.2 ((hK.2 x).2 hx), by simpa using h1⟩, h2⟩
  · rintro ⟨x, hx, h2⟩
    obtain ⟨h3, h4⟩ := List.mem_filter.1 hx
    exact ⟨x, (hK.2 x).1 ((hd.map Prod.fst).mem_iff.1 h3), by simpa using h4, h2⟩
end
theorem SrtP.perm {l l' m : List ByteArray} (h : SrtP l m) (hp : l.Perm l') : SrtP l' m := ⟨h.1.trans hp, h.2⟩
section
variable {P : Program} {f : FuncId} {args : Array Value} {v : Value}
/-- a contract of the kit that leaves the world as_ it was -/
theorem FnV.of_calls (he : ∀ w, (callFunc f args).run P w = .ok (.enter f args) w) (h : ∀ w, Calls P f args w fun e w' => e = .returned v ∧ w' = w) (I : IMap) : FnV P f args I v := by
  refine ⟨fun w m => ?_⟩
  unfold After
  rw [he]
  refine Calls.mono (h w) fun e w' h2 => ?_
  obtain ⟨rfl, rfl⟩ := h2
  exact ⟨v, I, [], rfl, m, rfl, rfl, rfl⟩
end
end Go.Sx

/- How long a list can be that comes in. -/
set_option linter.all false
namespace Go.Sx
open Go
/-- the form's own reach: how long a list can be that comes in -/
theorem sized_len {H : Type} {enc : TypeId × Value → H} {P : Program} {w : World} {base fuel j n c : Nat} {sp : Nat → Bool} {held : Bool} {ts : List TypeId} {ds : List (DataW H)} {d : DataW H} {ps : List MemPlace} {t e : TypeId} {A : Option Addr}
    (h : (DataW.weightsEach P ts ds).all (· ≤ reachBytes) = true) (ht : ts[j]? = some t) (hd : ds[j]? = some d) (hu : P.underlying t = some (.slice e)) (htr : DataW.trod enc P w base sp held fuel t [.slice A n c] = some (d, ps)) {b : Nat} (hb : P.bytesOf e = b) : n * b ≤ 140737488351232 := by
  subst hb
  rcases DataW.trod_slice hu htr with ⟨e1, _⟩ | ⟨a, len, cap, elems, rest, n', _, e1, e2, _, _, _, hlen, _⟩
  · cases e1; simp
  · cases e1
    cases e2
    have h1 := sized_slice h ht hd hu
    rw [List.length_map, List.length_map, hlen] at h1
    have h2 : n * P.bytesOf e ≤ (n + rest.length) * P.bytesOf e := Nat.mul_le_mul_right _ (by omega)
    have h3 : reachBytes = 140737488351232 := by decide
    omega
end Go.Sx

/- How duties that come in are read. -/
set_option linter.all false
namespace Go.Sx
open Go
section
variable {P : Program} {t : TypeId}
theorem opens_dut {ts ti : TypeId} (hf : fieldsK P t = some [(ts, 0, 1), (ts, 1, 1), (ts, 2, 1), (ti, 3, 1), (ti, 4, 1)]) (hc : P.cellsOf t = 5) (hs : Opens P ts ByteArray SmB) (hi : Opens P ti Int I64) : Opens P t Dut SmD := by
  intro H enc w base spare held fuel cs x h
  obtain ⟨hl, hall⟩ := trod_fields hf h
  rw [hc] at hl
  obtain ⟨a0, r0_, rfl, l0_⟩ := len_cons hl
  obtain ⟨a1, r1_, rfl, l1_⟩ := len_cons l0_
  obtain ⟨a2, r2_, rfl, l2_⟩ := len_cons l1_
  obtain ⟨a3, r3_, rfl, l3_⟩ := len_cons l2_
  obtain ⟨a4, r4_, rfl, l4_⟩ := len_cons l3_
  obtain rfl := len_nil l4_
  obtain ⟨n0, y0, h0⟩ := hall (ts, 0, 1) (by simp)
  obtain ⟨x0, e0, g0⟩ := hs enc w base spare held n0 _ y0 h0
  have e0 : [a0] = [.string x0] := e0
  cases e0
  obtain ⟨n1, y1, h1⟩ := hall (ts, 1, 1) (by simp)
  obtain ⟨x1, e1, g1⟩ := hs enc w base spare held n1 _ y1 h1
  have e1 : [a1] = [.string x1] := e1
  cases e1
  obtain ⟨n2, y2, h2⟩ := hall (ts, 2, 1) (by simp)
  obtain ⟨x2, e2, g2⟩ := hs enc w base spare held n2 _ y2 h2
  have e2 : [a2] = [.string x2] := e2
  cases e2
  obtain ⟨n3, y3, h3⟩ := hall (ti, 3, 1) (by simp)
  obtain ⟨x3, e3, g3⟩ := hi enc w base spare held n3 _ y3 h3
  have e3 : [a3] = [.int .i64 x3] := e3
  cases e3
  obtain ⟨n4, y4, h4⟩ := hall (ti, 4, 1) (by simp)
  obtain ⟨x4, e4, g4⟩ := hi enc w base spare held n4 _ y4 h4
  have e4 : [a4] = [.int .i64 x4] := e4
  cases e4
  exact ⟨⟨x0, x1, x2, x3, x4⟩, rfl, g0, g1, g2⟩
end
end Go.Sx

/- Runs of steps of a walk that need no word of their own. -/
set_option linter.all false
namespace Go.Sx
open Go
/-- so many steps lie ahead -/
structure HN (n : Nat) (g : Prop) : Prop where
  out : g
theorem HN.z {s : Prop} (h : HN 0 s) : s := h.out
theorem HN.p {s : Prop} {n : Nat} (h : HN (n + 1) s) : HN n s := ⟨h.out⟩
/-- a fact of the program, found by its left side -/
class Has {α : Type} (a : Option α) (b : outParam α) : Prop where
  eq : a = some b
theorem he {α : Type} {a : Option α} {b : α} [h : Has a b] : a = some b := h.eq
theorem sb {L L' : LL} (h : Sub L' L := by repeat (first | exact trivial | refine ⟨rfl, ?_⟩)) : Sub L' L := h
section
variable {P : Program} {ρ : Option Nat} {n : Sz} {E : Ent} {I I' : IMap} {L L' : LL} {H H' : List Res} {K K' : Act → World → Prop} {Q : Exit → Act → World → Prop} {ops : Array Oper}
theorem cb {c : Operand} {x y : Code} {b : Bool} {p q : Prop} (hc : ev L c = some (.bool b)) (ht : b = true → p → SX n E I L H (x.wq ρ P Q)) (hf : b = false → q → SX n E I L H (y.wq ρ P Q))
    (e1 : b = true → p := by first | (intro h; simp only [bO] at h; exact h) | exact fun h => h) (e2 : b = false → q := by first | (intro h; simp only [bO] at h; exact h) | exact fun h => h) :
    SX n E I L H ((Code.cond c x y).wq ρ P Q) := c_cond hc (fun h => ht h (e1 h)) (fun h => hf h (e2 h))
theorem sxb {v : Bool} {p q : Prop} (t : Nat) (h : look L t = some (.bool v)) (h1 : v = true → p → SX n E I L H K) (h2 : v = false → q → SX n E I L H K)
    (e1 : v = true → p := by first | (intro h; simp only [bO] at h; exact h) | exact fun h => h) (e2 : v = false → q := by first | (intro h; simp only [bO] at h; exact h) | exact fun h => h) : SX n E I L H K := sx_split t h (fun h => h1 h (e1 h)) (fun h => h2 h (e2 h))
variable {d ty : Nat} {pos : String} {af : Array Edge} {x y z : Operand} {tt tx tyy q : Nat} {v : Value}
theorem pr_move (h : OV P n E I L H ⟨some d, .move x, ty, pos, af, none⟩ v) : OV P n E I L H ⟨some d, .move x, ty, pos, af, none⟩ v := h
theorem pr_assign (h : OV P n E I L H ⟨some d, .assign x, ty, pos, af, none⟩ v) : OV P n E I L H ⟨some d, .assign x, ty, pos, af, none⟩ v := h
theorem pr_fieldAddr (h : OV P n E I L H ⟨some d, .fieldAddr tt x q, ty, pos, af, none⟩ v) : OV P n E I L H ⟨some d, .fieldAddr tt x q, ty, pos, af, none⟩ v := h
theorem pr_load (h : OV P n E I L H ⟨some d, .load tt x, ty, pos, af, none⟩ v) : OV P n E I L H ⟨some d, .load tt x, ty, pos, af, none⟩ v := h
theorem pr_field (h : OV P n E I L H ⟨some d, .field tt x q, ty, pos, af, none⟩ v) : OV P n E I L H ⟨some d, .field tt x q, ty, pos, af, none⟩ v := h
theorem pr_extract (h : OV P n E I L H ⟨some d, .extract x q, ty, pos, af, none⟩ v) : OV P n E I L H ⟨some d, .extract x q, ty, pos, af, none⟩ v := h
theorem pr_not (h : OV P n E I L H ⟨some d, .unOp .not tt x, ty, pos, af, none⟩ v) : OV P n E I L H ⟨some d, .unOp .not tt x, ty, pos, af, none⟩ v := h
theorem pr_nil (h : OV P n E I L H ⟨some d, .nilCheck x, ty, pos, af, none⟩ v) : OV P n E I L H ⟨some d, .nilCheck x, ty, pos, af, none⟩ v := h
theorem pr_pick (h : OV P n E I L H ⟨some d, .pick x y z, ty, pos, af, none⟩ v) : OV P n E I L H ⟨some d, .pick x y z, ty, pos, af, none⟩ v := h
theorem pr_lss (h : OV P n E I L H ⟨some d, .binOp .lss tx x y tyy, ty, pos, af, none⟩ v) : OV P n E I L H ⟨some d, .binOp .lss tx x y tyy, ty, pos, af, none⟩ v := h
theorem pr_leq (h : OV P n E I L H ⟨some d, .binOp .leq tx x y tyy, ty, pos, af, none⟩ v) : OV P n E I L H ⟨some d, .binOp .leq tx x y tyy, ty, pos, af, none⟩ v := h
theorem pr_gtr (h : OV P n E I L H ⟨some d, .binOp .gtr tx x y tyy, ty, pos, af, none⟩ v) : OV P n E I L H ⟨some d, .binOp .gtr tx x y tyy, ty, pos, af, none⟩ v := h
theorem pr_geq (h : OV P n E I L H ⟨some d, .binOp .geq tx x y tyy, ty, pos, af, none⟩ v) : OV P n E I L H ⟨some d, .binOp .geq tx x y tyy, ty, pos, af, none⟩ v := h
theorem pr_eql (h : OV P n E I L H ⟨some d, .binOp .eql tx x y tyy, ty, pos, af, none⟩ v) : OV P n E I L H ⟨some d, .binOp .eql tx x y tyy, ty, pos, af, none⟩ v := h
theorem pr_neq (h : OV P n E I L H ⟨some d, .binOp .neq tx x y tyy, ty, pos, af, none⟩ v) : OV P n E I L H ⟨some d, .binOp .neq tx x y tyy, ty, pos, af, none⟩ v := h
theorem pr_add (h : OV P n E I L H ⟨some d, .binOp .add tx x y tyy, ty, pos, af, none⟩ v) : OV P n E I L H ⟨some d, .binOp .add tx x y tyy, ty, pos, af, none⟩ v := h
theorem pr_sub (h : OV P n E I L H ⟨some d, .binOp .sub tx x y tyy, ty, pos, af, none⟩ v) : OV P n E I L H ⟨some d, .binOp .sub tx x y tyy, ty, pos, af, none⟩ v := h
theorem pr_len (h : OV P n E I L H ⟨some d, .call { callee := .builtin .len, args := #[x], argTypes := #[tx] }, ty, pos, af, none⟩ v) : OV P n E I L H ⟨some d, .call { callee := .builtin .len, args := #[x], argTypes := #[tx] }, ty, pos, af, none⟩ v := h
/-- the rule of an operation that only computes -/
theorem va {o : Oper} (h : OV P n E I L H o v := by
    first
      | ((with_unfolding_none refine' pr_move ?_); rotate_left; exact v_move rfl)
      | ((with_unfolding_none refine' pr_assign ?_); rotate_left; exact v_assign rfl)
      | ((with_unfolding_none refine' pr_fieldAddr ?_); rotate_left; exact v_fieldAddr he rfl)
      | ((with_unfolding_none refine' pr_load ?_); rotate_left; (first | exact v_ld m0 he rfl rfl | exact v_ld m1 he rfl rfl | exact v_ld m2 he rfl rfl | exact v_ld m3 he rfl rfl | exact v_ld m4 he rfl rfl | exact v_ld m5 he rfl rfl | exact v_ld m6 he rfl rfl | exact v_ldw m0 he rfl rfl | exact v_ldw m1 he rfl rfl | exact v_ldw m2 he rfl rfl | exact v_ldw m3 he rfl rfl | exact v_ldw m4 he rfl rfl | exact v_ldw m5 he rfl rfl | exact v_ldw m6 he rfl rfl))
      | ((with_unfolding_none refine' pr_pick ?_); rotate_left; (first | exact v_and_f rfl rfl | exact v_or_t rfl rfl | exact v_and_t rfl rfl rfl | exact v_or_f rfl rfl rfl | exact v_and_f (by assumption) rfl | exact v_or_t (by assumption) rfl | exact v_and_t (by assumption) rfl rfl | exact v_or_f (by assumption) rfl rfl))
      | ((with_unfolding_none refine' pr_lss ?_); rotate_left; (first | exact v_lss rfl rfl | exact v_slss rfl rfl))
      | ((with_unfolding_none refine' pr_len ?_); rotate_left; (first | exact v_len_slice he rfl | exact v_len_str he rfl))
      | ((with_unfolding_none refine' pr_extract ?_); rotate_left; exact v_extract rfl rfl)
      | ((with_unfolding_none refine' pr_not ?_); rotate_left; exact v_not rfl)
      | ((with_unfolding_none refine' pr_eql ?_); rotate_left; (first | exact v_eql rfl rfl | exact v_seql rfl rfl))
      | ((with_unfolding_none refine' pr_neq ?_); rotate_left; (first | exact v_neq rfl rfl | exact v_sneq rfl rfl))
      | ((with_unfolding_none refine' pr_leq ?_); rotate_left; (first | exact v_leq rfl rfl | exact v_sleq rfl rfl))
      | ((with_unfolding_none refine' pr_gtr ?_); rotate_left; (first | exact v_gtr rfl rfl | exact v_sgtr rfl rfl))
      | ((with_unfolding_none refine' pr_geq ?_); rotate_left; (first | exact v_geq rfl rfl | exact v_sgeq rfl rfl))
      | ((with_unfolding_none refine' pr_add ?_); rotate_left; exact v_add rfl rfl ⟨by omega, by omega⟩)
      | ((with_unfolding_none refine' pr_sub ?_); rotate_left; exact v_sub rfl rfl ⟨by omega, by omega⟩)
      | ((with_unfolding_none refine' pr_nil ?_); rotate_left; exact v_nilCheck rfl)
      | ((with_unfolding_none refine' pr_field ?_); rotate_left; (first | exact v_field he rfl rfl | exact v_fielda _ he rfl rfl))) : OV P n E I L H o v := h
theorem o_va {rest : List Oper} {op : Op} {v : Value} (hd : Nat.blt d n.sz = true) (h : OV P n E I L H ⟨some d, op, ty, pos, af, none⟩ v) (k : SX n E I ((d, v) :: L) H (wpL P ops Q rest)) : SX n E I L H (wpL P ops Q (⟨some d, op, ty, pos, af, none⟩ :: rest)) := o_v hd h k
theorem o_ya {rest : List Oper} {op : Op} {j : Nat} {b : Bool} {v : Value} {t : Nat} {c : Bool} (ht : (ops[j]?).bind (·.dst) = some t) (hb : look L t = some (.bool c)) (hv : c = b) (hd : Nat.blt d n.sz = true) (h : OV P n E I L H ⟨some d, op, ty, pos, af, none⟩ v) (k : SX n E I ((d, v) :: L) H (wpL P ops Q rest)) : SX n E I L H (wpL P ops Q (⟨some d, op, ty, pos, af, some (j, b)⟩ :: rest)) := o_cons (o_yes ht hb hv (o_val hd h k))
theorem o_na {rest : List Oper} {op : Op} {j : Nat} {b : Bool} {t : Nat} {c : Bool} (ht : (ops[j]?).bind (·.dst) = some t) (hb : look L t = some (.bool c)) (hv : c = !b) (hd : Nat.blt d n.sz = true) (k : SX n E I ((d, undef) :: L) H (wpL P ops Q rest)) : SX n E I L H (wpL P ops Q (⟨some d, op, ty, pos, af, some (j, b)⟩ :: rest)) := o_cons (o_no ht hb hv hd k)
theorem o_na' {rest : List Oper} {op : Op} {j : Nat} {b : Bool} {t : Nat} {c : Bool} (ht : (ops[j]?).bind (·.dst) = some t) (hb : look L t = some (.bool c)) (hv : c = !b) (k : SX n E I L H (wpL P ops Q rest)) : SX n E I L H (wpL P ops Q (⟨none, op, ty, pos, af, some (j, b)⟩ :: rest)) := o_cons (o_no' ht hb hv k)
theorem o_ua {rest : List Oper} {op : Op} {j : Nat} {b : Bool} {t : Nat} (ht : (ops[j]?).bind (·.dst) = some t) (hb : look L t = some undef) (hd : Nat.blt d n.sz = true) (k : SX n E I ((d, undef) :: L) H (wpL P ops Q rest)) : SX n E I L H (wpL P ops Q (⟨some d, op, ty, pos, af, some (j, b)⟩ :: rest)) := o_cons (o_nou ht hb hd k)
/-- so many steps -/
theorem go {g s : Prop} (n : Nat) (hs : s) (h : HN n s → g := by
    intro h
    repeat (first
      | exact HN.z h
      | replace h := HN.p h; first
        | ((with_unfolding_none refine' o_va ?_ ?_ ?_); rotate_left; exact rfl; exact va)
        | with_unfolding_none refine q_then ?_
        | with_unfolding_none refine o_nil ?_
        | with_unfolding_none refine c_seq ?_
        | with_unfolding_none refine c_region ?_
        | with_unfolding_none refine c_skip ?_
        | with_unfolding_none refine q_then_ret ?_
        | with_unfolding_none refine c_ret ?_
        | with_unfolding_none refine c_block ?_
        | with_unfolding_none refine q_block ?_
        | with_unfolding_none refine q_then_exit ?_
        | with_unfolding_none refine q_block_ret ?_
        | with_unfolding_none refine c_exit ?_
        | with_unfolding_none refine q_block_eq ?_
        | ((with_unfolding_none refine' o_na ?_ ?_ ?_ ?_ ?_); rotate_left 2; exact rfl; exact rfl; (first | exact rfl | assumption); exact rfl)
        | ((with_unfolding_none refine' o_ua ?_ ?_ ?_ ?_); rotate_left; exact rfl; exact rfl; exact rfl)
        | ((with_unfolding_none refine' o_na' ?_ ?_ ?_ ?_); rotate_left 2; exact rfl; exact rfl; (first | exact rfl | assumption))
        | ((with_unfolding_none refine' o_ya ?_ ?_ ?_ ?_ ?_ ?_); rotate_left 3; exact rfl; exact rfl; (first | exact rfl | assumption); exact rfl; exact va)
        | ((with_unfolding_none refine q_block_ne ?_ ?_); exact rfl)
        | with_unfolding_none refine o_cons ?_)) : g := h ⟨hs⟩
end
end Go.Sx

/- Walks, printed by a program out of the code of the functions: each theorem is a contract of one function. -/
namespace Go.Proofs.YtdkjmaoelojpeaaGreat
open Go Go.Sx
set_option linter.all false
set_option maxRecDepth 20000
set_option maxHeartbeats 4000000
instance T.arr_134 : Has (arrK Tryz.prog 134) (256, 5, 1) := ⟨by kernel_rfl⟩
instance T.elt_30 : Has (eltK Tryz.prog 30) (9, 1) := ⟨by kernel_rfl⟩
instance T.ty_134 : Has (tyK Tryz.prog 134) (true, 256) := ⟨by kernel_rfl⟩
instance T.ty_5 : Has (tyK Tryz.prog 5) (false, 1) := ⟨by kernel_rfl⟩
instance T.ty_9 : Has (tyK Tryz.prog 9) (false, 1) := ⟨by kernel_rfl⟩
instance T.und_3 : Has (Tryz.prog.underlying 3) (.int .i64) := ⟨by kernel_rfl⟩
instance T.und_30 : Has (Tryz.prog.underlying 30) (.slice 9) := ⟨by kernel_rfl⟩
instance T.und_5 : Has (Tryz.prog.underlying 5) (.int .u8) := ⟨by kernel_rfl⟩
instance T.und_9 : Has (Tryz.prog.underlying 9) (.string) := ⟨by kernel_rfl⟩
instance T.zero_134 : Has (zeroK Tryz.prog 134) [.int .u8 0, .int .u8 0, .int .u8 0, .int .u8 0, .int .u8 0, .int .u8 0, .int .u8 0, .int .u8 0, .int .u8 0, .int .u8 0, .int .u8 0, .int .u8 0, .int .u8 0, .int .u8 0, .int .u8 0, .int .u8 0, .int .u8 0, .int .u8 0, .int .u8 0, .int .u8 0, .int .u8 0, .int .u8 0, .int .u8 0, .int .u8 0, .int .u8 0, .int .u8 0, .int .u8 0, .int .u8 0, .int .u8 0, .int .u8 0, .int .u8 0, .int .u8 0, .int .u8 0, .int .u8 0, .int .u8 0, .int .u8 0, .int .u8 0, .int .u8 0, .int .u8 0, .int .u8 0, .int .u8 0, .int .u8 0, .int .u8 0, .int .u8 0, .int .u8 0, .int .u8 0, .int .u8 0, .int .u8 0, .int .u8 0, .int .u8 0, .int .u8 0, .int .u8 0, .int .u8 0, .int .u8 0, .int .u8 0, .int .u8 0, .int .u8 0, .int .u8 0, .int .u8 0, .int .u8 0, .int .u8 0, .int .u8 0, .int .u8 0, .int .u8 0, .int .u8 0, .int .u8 0, .int .u8 0, .int .u8 0, .int .u8 0, .int .u8 0, .int .u8 0, .int .u8 0, .int .u8 0, .int .u8 0, .int .u8 0, .int .u8 0, .int .u8 0, .int .u8 0, .int .u8 0, .int .u8 0, .int .u8 0, .int .u8 0, .int .u8 0, .int .u8 0, .int .u8 0, .int .u8 0, .int .u8 0, .int .u8 0, .int .u8 0, .int .u8 0, .int .u8 0, .int .u8 0, .int .u8 0, .int .u8 0, .int .u8 0, .int .u8 0, .int .u8 0, .int .u8 0, .int .u8 0, .int .u8 0, .int .u8 0, .int .u8 0, .int .u8 0, .int .u8 0, .int .u8 0, .int .u8 0, .int .u8 0, .int .u8 0, .int .u8 0, .int .u8 0, .int .u8 0, .int .u8 0, .int .u8 0, .int .u8 0, .int .u8 0, .int .u8 0, .int .u8 0, .int .u8 0, .int .u8 0, .int .u8 0, .int .u8 0, .int .u8 0, .int .u8 0, .int .u8 0, .int .u8 0, .int .u8 0, .int .u8 0, .int .u8 0, .int .u8 0, .int .u8 0, .int .u8 0, .int .u8 0, .int .u8 0, .int .u8 0, .int .u8 0, .int .u8 0, .int .u8 0, .int .u8 0, .int .u8 0, .int .u8 0, .int .u8 0, .int .u8 0, .int .u8 0, .int .u8 0, .int .u8 0, .int .u8 0, .int .u8 0, .int .u8 0, .int .u8 0, .int .u8 0, .int .u8 0, .int .u8 0, .int .u8 0, .int .u8 0, .int .u8 0, .int .u8 0, .int .u8 0, .int .u8 0, .int .u8 0, .int .u8 0, .int .u8 0, .int .u8 0, .int .u8 0, .int .u8 0, .int .u8 0, .int .u8 0, .int .u8 0, .int .u8 0, .int .u8 0, .int .u8 0, .int .u8 0, .int .u8 0, .int .u8 0, .int .u8 0, .int .u8 0, .int .u8 0, .int .u8 0, .int .u8 0, .int .u8 0, .int .u8 0, .int .u8 0, .int .u8 0, .int .u8 0, .int .u8 0, .int .u8 0, .int .u8 0, .int .u8 0, .int .u8 0, .int .u8 0, .int .u8 0, .int .u8 0, .int .u8 0, .int .u8 0, .int .u8 0, .int .u8 0, .int .u8 0, .int .u8 0, .int .u8 0, .int .u8 0, .int .u8 0, .int .u8 0, .int .u8 0, .int .u8 0, .int .u8 0, .int .u8 0, .int .u8 0, .int .u8 0, .int .u8 0, .int .u8 0, .int .u8 0, .int .u8 0, .int .u8 0, .int .u8 0, .int .u8 0, .int .u8 0, .int .u8 0, .int .u8 0, .int .u8 0, .int .u8 0, .int .u8 0, .int .u8 0, .int .u8 0, .int .u8 0, .int .u8 0, .int .u8 0, .int .u8 0, .int .u8 0, .int .u8 0, .int .u8 0, .int .u8 0, .int .u8 0, .int .u8 0, .int .u8 0, .int .u8 0, .int .u8 0, .int .u8 0, .int .u8 0, .int .u8 0, .int .u8 0, .int .u8 0, .int .u8 0, .int .u8 0, .int .u8 0, .int .u8 0, .int .u8 0, .int .u8 0, .int .u8 0, .int .u8 0, .int .u8 0, .int .u8 0, .int .u8 0, .int .u8 0, .int .u8 0, .int .u8 0, .int .u8 0, .int .u8 0] := ⟨by kernel_rfl⟩
theorem letter05 (I : IMap) (c : UInt8) :
    FnV Tryz.prog 59 #[.int .u8 (c.toNat : Int)] I (.bool (isLetter c)) := by
 refine enter Tryz.func59 Tryz.call59 rfl Tryz.ntmps59 rfl (fun w0 => ?_)
 refine go 10 ?_
 refine sxb 5 rfl (fun h5 p5 => ?_) (fun h5 p5 => ?_)
 ·refine go 4 ?_
  refine sxb 9 rfl (fun h9 p9 => ?_) (fun h9 p9 => ?_)
  ·refine go 11 ?_
   refine fin1 rfl rfl ?_
   exact q_v (by simp [isLetter, h5, h9])
  ·refine go 3 ?_
   refine sxb 12 rfl (fun h12 p12 => ?_) (fun h12 p12 => ?_)
   ·refine go 8 ?_
    refine fin1 rfl rfl ?_
    exact q_v (by simp [isLetter, h5, h9, h12])
   ·refine go 8 ?_
    refine fin1 rfl rfl ?_
    exact q_v (by simp [isLetter, h5, h9, h12])
 ·refine go 7 ?_
  refine sxb 12 rfl (fun h12 p12 => ?_) (fun h12 p12 => ?_)
  ·refine go 8 ?_
   refine fin1 rfl rfl ?_
   exact q_v (by simp [isLetter, h5, h12])
  ·refine go 8 ?_
   refine fin1 rfl rfl ?_
   exact q_v (by simp [isLetter, h5, h12])

theorem digit05 (I : IMap) (c : UInt8) :
    FnV Tryz.prog 87 #[.int .u8 (c.toNat : Int)] I (.bool (isDigit c)) := by
 refine enter Tryz.func87 Tryz.call87 rfl Tryz.ntmps87 rfl (fun w0 => ?_)
 refine go 10 ?_
 refine sxb 5 rfl (fun h5 p5 => ?_) (fun h5 p5 => ?_)
 ·refine go 7 ?_
  refine fin1 rfl rfl ?_
  exact q_v (by simp [isDigit, h5])
 ·refine go 7 ?_
  refine fin1 rfl rfl ?_
  exact q_v (by simp [isDigit, h5])

theorem word05 (I : IMap) (c : UInt8) :
    FnV Tryz.prog 58 #[.int .u8 (c.toNat : Int)] I (.bool (isWord c)) := by
 refine enter Tryz.func58 Tryz.call58 rfl Tryz.ntmps58 rfl (fun w0 => ?_)
 refine go 9 ?_
 refine o_callV (letter05 _ c) rfl rfl ?_
 refine go 1 ?_
 refine sxb 5 rfl (fun h5 p5 => ?_) (fun h5 p5 => ?_)
 ·refine go 11 ?_
  refine fin1 rfl rfl ?_
  exact q_v (by simp [isWord, h5])
 ·refine go 2 ?_
  refine o_yes rfl rfl h5 (o_callV (digit05 _ c) rfl rfl ?_)
  refine go 2 ?_
  refine sxb 9 rfl (fun h9 p9 => ?_) (fun h9 p9 => ?_)
  ·refine go 7 ?_
   refine fin1 rfl rfl ?_
   exact q_v (by simp [isWord, h5, h9])
  ·refine go 7 ?_
   refine fin1 rfl rfl ?_
   exact q_v (by simp [isWord, h5, h9])

theorem name05 (I : IMap) (s : ByteArray) (hs : s.size ≤ 9223372036854775807) :
    FnV Tryz.prog 40 #[.string s] I (.bool (nameRef s)) := by
 refine enter Tryz.func40 Tryz.call40 rfl Tryz.ntmps40 rfl (fun w0 => ?_)
 refine go 12 ?_
 refine c_loop (α := Nat) 0 (fun i => I)
  (fun i => [(0, .string s), (3, .int .i64 (i : Int))])
  (fun i => [])
  (fun i => i ≤ s.size ∧ wordsTo s i = true)
  (fun i => s.size - i) ⟨Nat.zero_le _, rfl⟩ rfl sb rfl ?_
 intro i ⟨hi, hn⟩
 refine go 9 ?_
 refine cb rfl (fun h7 p7 => ?_) (fun h7 p7 => ?_)
 ·refine go 8 ?_
  refine o_v rfl (v_sidx he rfl rfl i (by omega) (by omega)) ?_
  refine go 1 ?_
  refine o_callV (word05 _ _) rfl rfl ?_
  refine go 3 ?_
  refine cb rfl (fun h14 p14 => ?_) (fun h14 p14 => ?_)
  ·refine go 11 ?_
   refine fin1 rfl rfl ?_
   exact q_v (by simp [nameRef, words_not (show i < s.size by omega) p14])
  ·refine go 9 ?_
   exact q_next (i + 1) ⟨by omega, words_succ hn p14⟩ (by omega) rfl sb rfl
 ·refine go 11 ?_
  refine sxb 18 rfl (fun h18 p18 => ?_) (fun h18 p18 => ?_)
  ·refine go 5 ?_
   refine sxb 23 rfl (fun h23 p23 => ?_) (fun h23 p23 => ?_)
   ·refine go 1 ?_
    refine o_cons (o_yes rfl rfl h23 (o_val rfl (v_sidx he rfl rfl 0 (by omega) (by omega)) ?_))
    refine go 1 ?_
    refine o_yes rfl rfl h23 (o_callV (letter05 _ _) rfl rfl ?_)
    refine go 5 ?_
    refine fin1 rfl rfl ?_
    exact q_v (by have e : i = s.size := (by omega); subst e; simp only [nameRef, hn, h7, h18, h23, bS])
   ·refine go 8 ?_
    refine fin1 rfl rfl ?_
    exact q_v (by have e : i = s.size := (by omega); subst e; simp only [nameRef, hn, h7, h18, h23, bS])
  ·refine go 13 ?_
   refine fin1 rfl rfl ?_
   exact q_v (by have e : i = s.size := (by omega); subst e; simp only [nameRef, hn, h7, h18, bS])

theorem in08 (I : IMap) (v : Value) (l : List ByteArray) (s : ByteArray) (hv : RdS I v l) :
    FnV Tryz.prog 121 #[v, .string s] I (.bool (decide (s ∈ l))) := by
 obtain ⟨A, c, rfl, hA, hc, hm⟩ := hv
 refine enter Tryz.func121 Tryz.call121 rfl Tryz.ntmps121 rfl (fun w0 => ?_)
 refine go 12 ?_
 refine c_loop (α := Nat) 0 (fun i => I)
  (fun i => [(0, .slice A l.length c), (1, .string s), (5, .int .i64 (i : Int))])
  (fun i => [])
  (fun i => i ≤ l.length ∧ ∀ j, j < i → l[j]? ≠ some s)
  (fun i => l.length - i) ⟨Nat.zero_le _, fun j hj => absurd hj (Nat.not_lt_zero j)⟩ rfl sb rfl ?_
 intro i ⟨hi, hn⟩
 refine go 9 ?_
 refine cb rfl (fun h9 p9 => ?_) (fun h9 p9 => ?_)
 ·have hlt : i < l.length := by omega
  refine go 8 ?_
  obtain ⟨b14, o14, w14, e14, c14, r14⟩ := RdA.at_ hA (i := i) hlt
  obtain rfl := r14
  refine o_v rfl (v_idx he rfl rfl e14 (i) (by omega) hlt) ?_
  refine o_v rfl (v_ldI he rfl (c14 0 _ rfl)) ?_
  refine go 4 ?_
  refine cb rfl (fun h17 p17 => ?_) (fun h17 p17 => ?_)
  ·refine go 11 ?_
   refine fin1 rfl rfl ?_
   exact q_v (by rw [← p17]; simp)
  ·refine go 9 ?_
   exact q_next (i + 1) ⟨by omega, fun j hj => sx_next hn hlt p17 j hj⟩ (by omega) rfl sb rfl
 ·refine go 11 ?_
  refine fin1 rfl rfl ?_
  exact q_v (by simp only [sx_not_mem l s (fun j hj => hn j (by omega))])

theorem ext_IndexByteString (args : Array Value) (w : World) : (callFunc 173 args).run Tryz.prog w = ((Extern.BytealgIndexByte.indexByte args).run Tryz.prog w).andThen fun v w' => .ok (.value v) w' := by
  have h1 : Extern.findNext Tryz.f173 = none := by kernel_rfl
  have h2 : Extern.find Tryz.f173 = some Extern.BytealgIndexByte.indexByte := by kernel_rfl
  have h3 : (Tryz.f173.name == "runtime.NumGoroutine") = false := by kernel_rfl
  have h4 : Tryz.f173.body.isNone = true := rfl
  simp only [callFunc, Sem.run_bind, run_program, Result.andThen_ok, Tryz.func173, h3, h4, h1, h2]
  simp
theorem indexByteString (I : IMap) (s : ByteArray) (c : UInt8) : FnV Tryz.prog 173 #[.string s, .int .u8 (c.toNat : Int)] I (.int .i64 (Lib.indexByte s.data.toList c)) := by
  refine ⟨fun w m => ?_⟩
  unfold After
  rw [ext_IndexByteString, Lib.run_indexByteString]
  exact ⟨_, I, [], rfl, m, by simp, rfl, rfl⟩

theorem indexByteLite (I : IMap) (s : ByteArray) (c : UInt8) :
    FnV Tryz.prog 143 #[.string s, .int .u8 (c.toNat : Int)] I (.int .i64 (Lib.indexByte s.data.toList c)) := by
 refine enter Tryz.func143 Tryz.call143 rfl Tryz.ntmps143 rfl (fun w0 => ?_)
 refine go 10 ?_
 refine o_callV (indexByteString I s c) rfl rfl ?_
 refine go 4 ?_
 refine fin1 rfl rfl ?_
 exact q_v rfl

theorem indexByte (I : IMap) (s : ByteArray) (c : UInt8) :
    FnV Tryz.prog 113 #[.string s, .int .u8 (c.toNat : Int)] I (.int .i64 (Lib.indexByte s.data.toList c)) := by
 refine enter Tryz.func113 Tryz.call113 rfl Tryz.ntmps113 rfl (fun w0 => ?_)
 refine go 10 ?_
 refine o_callV (indexByteLite I s c) rfl rfl ?_
 refine go 4 ?_
 refine fin1 rfl rfl ?_
 exact q_v rfl

theorem classes (I : IMap) :
    FnV Tryz.prog 88 #[] I (.agg clsTab.toArray) := by
 refine enter Tryz.func88 Tryz.call88 rfl Tryz.ntmps88 rfl (fun w0 => ?_)
 refine go 3 ?_
 refine o_alloc he rfl (fun g0 => ?_)
 refine go 5 ?_
 refine o_alloc he rfl (fun g1 => ?_)
 refine go 9 ?_
 refine c_loop (α := Nat) 0 (fun i => I)
  (fun i => [(1, .pointer (some ⟨g1, 0, none⟩)), (0, .pointer (some ⟨g0, 0, none⟩)), (4, .int .i64 (i : Int))])
  (fun i => [.blk g1 134 (clsRow i), .blk g0 134 (clsRow 0)])
  (fun i => i ≤ 256)
  (fun i => 256 - i) (by omega) rfl sb rfl ?_
 intro i hi
 refine go 6 ?_
 refine cb rfl (fun h5 p5 => ?_) (fun h5 p5 => ?_)
 ·have hlt : i < 256 := by omega
  have hb : ((i.toUInt8.toNat : Nat) : Int) = (i : Int) := by simp; omega
  refine go 3 ?_
  refine c_cut (I' := I) (L' := [(1, .pointer (some ⟨g1, 0, none⟩)), (0, .pointer (some ⟨g0, 0, none⟩)), (4, .int .i64 (i : Int))]) (H' := [.blk g1 134 (clsRow (i + 1)), .blk g0 134 (clsRow 0)]) ?_ ?_
  ·refine go 10 ?_
   refine o_v rfl (v_conv he he rfl (m := ((i.toUInt8.toNat : Nat) : Int)) (by rw [hb]; exact wrap_u8 i hlt)) ?_
   refine go 5 ?_
   refine c_cutL (L' := [(1, .pointer (some ⟨g1, 0, none⟩)), (0, .pointer (some ⟨g0, 0, none⟩)), (4, .int .i64 (i : Int)), (2, .int .i64 (i : Int)), (3, .int .u8 (i.toUInt8.toNat : Int)), (9, .bool (clsLow i.toUInt8 || clsUp i.toUInt8))]) ?_ ?_
   ·refine go 1 ?_
    refine c_cutL (L' := [(1, .pointer (some ⟨g1, 0, none⟩)), (0, .pointer (some ⟨g0, 0, none⟩)), (4, .int .i64 (i : Int)), (2, .int .i64 (i : Int)), (3, .int .u8 (i.toUInt8.toNat : Int)), (9, .bool (clsLow i.toUInt8))]) ?_ ?_
    ·refine go 4 ?_
     refine sxb 12 rfl (fun h12 p12 => ?_) (fun h12 p12 => ?_)
     ·refine go 6 ?_
      exact q_cut ⟨rfl, rfl, rfl, rfl, rfl, (congrArg (fun b => some (Value.bool b)) (by simp only [clsLow, h5, h12, bS])), trivial⟩ rfl rfl
     ·refine go 6 ?_
      exact q_cut ⟨rfl, rfl, rfl, rfl, rfl, (congrArg (fun b => some (Value.bool b)) (by simp only [clsLow, h5, h12, bS])), trivial⟩ rfl rfl
    ·refine cb rfl (fun h9 p9 => ?_) (fun h9 p9 => ?_)
     ·refine go 2 ?_
      exact q_cut ⟨rfl, rfl, rfl, rfl, rfl, (congrArg (fun b => some (Value.bool b)) (by simp only [clsUp, h9, bS])), trivial⟩ rfl rfl
     ·refine go 4 ?_
      refine sxb 18 rfl (fun h18 p18 => ?_) (fun h18 p18 => ?_)
      ·refine go 6 ?_
       exact q_cut ⟨rfl, rfl, rfl, rfl, rfl, (congrArg (fun b => some (Value.bool b)) (by simp only [clsUp, h9, h18, bS])), trivial⟩ rfl rfl
      ·refine go 6 ?_
       exact q_cut ⟨rfl, rfl, rfl, rfl, rfl, (congrArg (fun b => some (Value.bool b)) (by simp only [clsUp, h9, h18, bS])), trivial⟩ rfl rfl
   ·refine cb rfl (fun h9 p9 => ?_) (fun h9 p9 => ?_)
    ·refine go 2 ?_
     refine o_v rfl (v_aidx he rfl rfl i (by omega) (by omega)) ?_
     refine go 1 ?_
     refine o_st1 he rfl rfl rfl (by rw [clsRow_len, Nat.blt_eq]; omega) ?_
     refine go 4 ?_
     exact q_cut sb (congrArg (fun r => [Res.blk g1 _ r, _]) (clsRow_st i hlt _ (clsOf_3 h9))) rfl
    ·refine go 1 ?_
     refine c_cutL (L' := [(1, .pointer (some ⟨g1, 0, none⟩)), (0, .pointer (some ⟨g0, 0, none⟩)), (4, .int .i64 (i : Int)), (2, .int .i64 (i : Int)), (3, .int .u8 (i.toUInt8.toNat : Int)), (24, .bool (isDigit i.toUInt8))]) ?_ ?_
     ·refine go 4 ?_
      refine sxb 27 rfl (fun h27 p27 => ?_) (fun h27 p27 => ?_)
      ·refine go 6 ?_
       exact q_cut ⟨rfl, rfl, rfl, rfl, rfl, (congrArg (fun b => some (Value.bool b)) (by simp only [isDigit, h9, h27, bS])), trivial⟩ rfl rfl
      ·refine go 6 ?_
       exact q_cut ⟨rfl, rfl, rfl, rfl, rfl, (congrArg (fun b => some (Value.bool b)) (by simp only [isDigit, h9, h27, bS])), trivial⟩ rfl rfl
     ·refine cb rfl (fun h24 p24 => ?_) (fun h24 p24 => ?_)
      ·refine go 2 ?_
       refine o_v rfl (v_aidx he rfl rfl i (by omega) (by omega)) ?_
       refine go 1 ?_
       refine o_st1 he rfl rfl rfl (by rw [clsRow_len, Nat.blt_eq]; omega) ?_
       refine go 4 ?_
       exact q_cut sb (congrArg (fun r => [Res.blk g1 _ r, _]) (clsRow_st i hlt _ (clsOf_4 h9 h24))) rfl
      ·refine go 4 ?_
       refine o_callV (indexByte I _ i.toUInt8) rfl rfl ?_
       refine go 4 ?_
       refine cb rfl (fun h33 p33 => ?_) (fun h33 p33 => ?_)
       ·refine go 2 ?_
        refine o_v rfl (v_aidx he rfl rfl i (by omega) (by omega)) ?_
        refine go 1 ?_
        refine o_st1 he rfl rfl rfl (by rw [clsRow_len, Nat.blt_eq]; omega) ?_
        refine go 4 ?_
        exact q_cut sb (congrArg (fun r => [Res.blk g1 _ r, _]) (clsRow_st i hlt _ (clsOf_1 h9 h24 h33))) rfl
       ·refine go 4 ?_
        refine o_callV (indexByte I _ i.toUInt8) rfl rfl ?_
        refine go 4 ?_
        refine cb rfl (fun h39 p39 => ?_) (fun h39 p39 => ?_)
        ·refine go 2 ?_
         refine o_v rfl (v_aidx he rfl rfl i (by omega) (by omega)) ?_
         refine go 1 ?_
         refine o_st1 he rfl rfl rfl (by rw [clsRow_len, Nat.blt_eq]; omega) ?_
         refine go 4 ?_
         exact q_cut sb (congrArg (fun r => [Res.blk g1 _ r, _]) (clsRow_st i hlt _ (clsOf_6 h9 h24 h33 h39))) rfl
        ·refine go 4 ?_
         exact q_cut sb (congrArg (fun r => [Res.blk g1 _ r, _]) (clsRow_skip i hlt (clsOf_0 h9 h24 h33 h39)).symm) rfl
  ·refine go 5 ?_
   exact q_next (i + 1) (by omega) (by omega) rfl sb rfl
 ·refine go 7 ?_
  refine o_v rfl (v_aidx he rfl rfl 35 rfl (by omega)) ?_
  refine go 1 ?_
  refine o_st1 he rfl rfl rfl (by simp only [List.length_set, clsRow_len]; rfl) ?_
  refine o_v rfl (v_aidx he rfl rfl 95 rfl (by omega)) ?_
  refine go 1 ?_
  refine o_st1 he rfl rfl rfl (by simp only [List.length_set, clsRow_len]; rfl) ?_
  refine o_v rfl (v_aidx he rfl rfl 34 rfl (by omega)) ?_
  refine go 1 ?_
  refine o_st1 he rfl rfl rfl (by simp only [List.length_set, clsRow_len]; rfl) ?_
  refine go 6 ?_
  refine bring1 ?_
  refine o_stw _ he rfl rfl rfl rfl rfl rfl ?_
  refine go 3 ?_
  refine fin1 rfl ⟨_, _, _, rfl, m0, .inr ⟨_, he, rfl, rfl⟩⟩ ?_
  have e : i = 256 := (by omega)
  subst e
  exact q_v rfl

theorem lexName (I : IMap) (s : ByteArray) (hs : s.size ≤ 9223372036854775807) :
    FnV Tryz.prog 60 #[.string s] I (.bool (nameOk s)) := by
 refine enter Tryz.func60 Tryz.call60 rfl Tryz.ntmps60 rfl (fun w0 => ?_)
 refine go 8 ?_
 refine o_callV (classes _) rfl rfl ?_
 refine go 1 ?_
 refine o_alloc he rfl (fun g3 => ?_)
 refine go 1 ?_
 refine o_stw _ he rfl rfl rfl rfl rfl rfl ?_
 refine go 11 ?_
 refine c_loop (α := Nat) 0 (fun i => I)
  (fun i => [(0, .string s), (3, .pointer (some ⟨g3, 0, none⟩)), (8, .int .i64 (s.size : Int)), (9, .int .i64 (i : Int))])
  (fun i => [.blk g3 134 clsTab])
  (fun i => i ≤ s.size ∧ charsTo s i = true)
  (fun i => s.size - i) ⟨Nat.zero_le _, rfl⟩ rfl sb rfl ?_
 intro i ⟨hi, hn⟩
 refine go 6 ?_
 refine cb rfl (fun h10 p10 => ?_) (fun h10 p10 => ?_)
 ·refine go 14 ?_
  refine o_v rfl (v_sidx he rfl rfl i (by omega) (by omega)) ?_
  refine o_v rfl (v_aidx he rfl rfl (s[i]!).toNat rfl (s[i]!).toNat_lt) ?_
  refine o_v rfl (v_ld m0 he rfl (by rw [show 0 + (s[i]!).toNat * 1 = (s[i]!).toNat from by omega]; exact clsTab_at _)) ?_
  refine go 8 ?_
  refine sxb 19 rfl (fun h19 p19 => ?_) (fun h19 p19 => ?_)
  ·refine go 3 ?_
   refine sxb 22 rfl (fun h22 p22 => ?_) (fun h22 p22 => ?_)
   ·refine go 10 ?_
    refine c_true rfl ?_
    refine go 11 ?_
    refine fin1 rfl rfl ?_
    exact q_v (by simp only [nameOk, chars_not (show i < s.size by omega) (show nameChar s i = false by simp only [nameChar, ← (cls_is _).1, ← (cls_is _).2.1, ← (cls_is _).2.2]; simp_all), bS])
   ·refine go 3 ?_
    refine sxb 25 rfl (fun h25 p25 => ?_) (fun h25 p25 => ?_)
    ·refine go 7 ?_
     refine cb rfl (fun h30 p30 => ?_) (fun h30 p30 => ?_)
     ·refine go 11 ?_
      refine fin1 rfl rfl ?_
      exact q_v (by simp only [nameOk, chars_not (show i < s.size by omega) (show nameChar s i = false by simp only [nameChar, ← (cls_is _).1, ← (cls_is _).2.1, ← (cls_is _).2.2]; simp_all), bS])
     ·refine go 8 ?_
      exact q_next (i + 1) ⟨by omega, chars_succ hn (by simp only [nameChar, ← (cls_is _).1, ← (cls_is _).2.1, ← (cls_is _).2.2]; simp_all)⟩ (by omega) rfl sb rfl
    ·refine go 7 ?_
     refine c_false rfl ?_
     refine go 8 ?_
     exact q_next (i + 1) ⟨by omega, chars_succ hn (by simp only [nameChar, ← (cls_is _).1, ← (cls_is _).2.1, ← (cls_is _).2.2]; simp_all)⟩ (by omega) rfl sb rfl
  ·refine go 13 ?_
   refine c_false rfl ?_
   refine go 8 ?_
   exact q_next (i + 1) ⟨by omega, chars_succ hn (by simp only [nameChar, ← (cls_is _).1, ← (cls_is _).2.1, ← (cls_is _).2.2]; simp_all)⟩ (by omega) rfl sb rfl
 ·refine go 10 ?_
  refine sxb 34 rfl (fun h34 p34 => ?_) (fun h34 p34 => ?_)
  ·refine go 8 ?_
   refine fin1 rfl rfl ?_
   have e : i = s.size := (by omega)
   subst e
   exact q_v (by simp only [nameOk, hn, h10, h34, bS])
  ·refine go 8 ?_
   refine fin1 rfl rfl ?_
   have e : i = s.size := (by omega)
   subst e
   exact q_v (by simp only [nameOk, hn, h10, h34, bS])

end Go.Proofs.YtdkjmaoelojpeaaGreat

