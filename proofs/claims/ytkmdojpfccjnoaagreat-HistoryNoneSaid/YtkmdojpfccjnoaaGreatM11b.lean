/- Merging two sorted segments: the plain part. -/
import Derived.Test.YtkmdojpfccjnoaaGreatM11
set_option linter.all false
namespace Go.Sx
open Go
variable {α : Type} [Day α]
/-- a piece of a list -/
def pc (l : List α) (a b : Nat) : List α := (l.drop a).take (b - a)
theorem pc_get {l : List α} {a b : Nat} (k : Nat) : (pc l a b)[k]? = if k < b - a then l[a + k]? else none := by
  rw [pc, List.getElem?_take, List.getElem?_drop]
theorem pc_len {l : List α} {a b : Nat} (h : b ≤ l.length) : (pc l a b).length = b - a := by rw [pc, List.length_take, List.length_drop]; omega
theorem pc_mem {l : List α} {a b : Nat} {x : α} (hx : x ∈ pc l a b) : ∃ p, a ≤ p ∧ p < b ∧ l[p]? = some x := by
  obtain ⟨k, hk⟩ := List.getElem?_of_mem hx
  rw [pc_get] at hk
  split at hk
  · exact ⟨a + k, by omega, by omega, hk⟩
  · cases hk
theorem mem_pc {l : List α} {a b p : Nat} {x : α} (h1 : a ≤ p) (h2 : p < b) (hx : l[p]? = some x) : x ∈ pc l a b := by
  refine List.mem_of_getElem? (i := p - a) ?_
  rw [pc_get, if_pos (by omega), show a + (p - a) = p from by omega]
  exact hx
theorem cut3 {l : List α} {a b : Nat} (h1 : a ≤ b) (h2 : b ≤ l.length) : l = l.take a ++ (pc l a b ++ l.drop b) := by
  have e : pc l a b ++ l.drop b = l.drop a := by
    have := List.take_append_drop (b - a) (l.drop a)
    rw [List.drop_drop, show a + (b - a) = b from by omega] at this
    exact this
  rw [e, List.take_append_drop]
theorem day_of {l : List α} {p : Nat} {x : α} (h : l[p]? = some x) : dayAt l p = Day.day x := by simp [dayAt, h]
/-- what has turned within a segment only has the same elements there -/
theorem seg_mem {l m : List α} {a b : Nat} (hs : Stb l m) (ho : ∀ k, k < a ∨ b ≤ k → m[k]? = l[k]?) (h1 : a ≤ b) (h2 : b ≤ l.length) {p : Nat} (hp1 : a ≤ p) (hp2 : p < b) : ∃ q, a ≤ q ∧ q < b ∧ dayAt m p = dayAt l q := by
  have hml : m.length = l.length := hs.1.symm
  have et : m.take a = l.take a := by
    apply List.ext_getElem?
    intro k
    rw [List.getElem?_take, List.getElem?_take]
    split
    · exact ho k (.inl (by omega))
    · rfl
  have ed : m.drop b = l.drop b := by
    apply List.ext_getElem?
    intro k
    rw [List.getElem?_drop, List.getElem?_drop]
    exact ho _ (.inr (by omega))
  have hx : m[p]? = some m[p] := List.getElem?_eq_getElem (by omega)
  obtain ⟨y, hy⟩ : ∃ y, y = m[p] := ⟨_, rfl⟩
  rw [← hy] at hx
  have key : ∀ d : Int, (pc m a b).filter (fun e => decide (Day.day e = d)) = (pc l a b).filter (fun e => decide (Day.day e = d)) := by
    intro d
    have hf := hs.2 d
    rw [show l.filter (fun e => decide (Day.day e = d)) = (l.take a ++ (pc l a b ++ l.drop b)).filter (fun e => decide (Day.day e = d)) from congrArg _ (cut3 h1 h2),
      show m.filter (fun e => decide (Day.day e = d)) = (m.take a ++ (pc m a b ++ m.drop b)).filter (fun e => decide (Day.day e = d)) from congrArg _ (cut3 h1 (by omega)), et, ed] at hf
    simp only [List.filter_append] at hf
    exact List.append_cancel_right (List.append_cancel_left hf)
  have hmem : y ∈ (pc m a b).filter (fun e => decide (Day.day e = Day.day y)) := List.mem_filter.2 ⟨mem_pc hp1 hp2 hx, by simp⟩
  rw [key] at hmem
  obtain ⟨hm1, hm2⟩ := List.mem_filter.1 hmem
  obtain ⟨q, q1, q2, q3⟩ := pc_mem hm1
  exact ⟨q, q1, q2, by rw [day_of hx, day_of q3]⟩
/-- exchanging two blocks, as lists -/
theorem rot_list {l k : List α} {a m b : Nat} (h1 : a ≤ m) (h2 : m ≤ b) (h3 : b ≤ l.length) (hk : k.length = l.length) (hr : ∀ q, k[q]? = rotG (l[·]?) m (m - a) (b - m) q) : k = l.take a ++ (pc l m b ++ (pc l a m ++ l.drop b)) := by
  apply List.ext_getElem?
  intro q
  rw [hr, rotG]
  have l1 : (l.take a).length = a := by rw [List.length_take]; omega
  have l2 := pc_len (l := l) (a := m) (b := b) h3
  have l3 := pc_len (l := l) (a := a) (b := m) (by omega)
  rw [List.getElem?_append, l1, List.getElem?_append, l2, List.getElem?_append, l3, List.getElem?_take, pc_get, pc_get, List.getElem?_drop]
  repeat' split
  all_goals first
    | (exfalso; omega)
    | rfl
    | (congr 1; omega)
theorem rot_stb {l k : List α} {a m b : Nat} (h1 : a ≤ m) (h2 : m ≤ b) (h3 : b ≤ l.length) (hk : k.length = l.length) (hr : ∀ q, k[q]? = rotG (l[·]?) m (m - a) (b - m) q) (hd : ∀ p q, a ≤ p → p < m → m ≤ q → q < b → dayAt l q < dayAt l p) : Stb l k := by
  have e := rot_list h1 h2 h3 hk hr
  have e2 : l = l.take a ++ (pc l a m ++ (pc l m b ++ l.drop b)) := by
    conv => lhs; rw [cut3 (l := l) (a := a) (b := m) h1 (by omega)]
    congr 2
    have := cut3 (l := l.drop m) (a := 0) (b := b - m) (by omega) (by rw [List.length_drop]; omega)
    simp only [List.take_zero, List.nil_append, List.drop_drop, show m + (b - m) = b from by omega] at this
    exact this
  rw [e]
  conv => arg 1; rw [e2]
  refine Stb.block fun x hx y hy => ?_
  obtain ⟨p, p1, p2, p3⟩ := pc_mem hx
  obtain ⟨q, q1, q2, q3⟩ := pc_mem hy
  have := hd p q p1 p2 q1 q2
  rw [day_of p3, day_of q3] at this
  omega
theorem rot_day {l k : List α} {m i j : Nat} (hr : ∀ q, k[q]? = rotG (l[·]?) m i j q) (q : Nat) : dayAt k q = if m - i ≤ q ∧ q < m - i + j then dayAt l (q + i) else if m - i + j ≤ q ∧ q < m + j then dayAt l (q - j) else dayAt l q := by
  unfold dayAt
  rw [hr, rotG]
  repeat' split
  all_goals rfl
/-- merged halves, the first of which is not behind the second -/
theorem seg_join {l m : List α} {a c b : Nat} (hs : Stb l m) (ho : ∀ k, k < a ∨ b ≤ k → m[k]? = l[k]?) (h1 : ∀ p q, a ≤ p → p < q → q < c → dayAt m p ≤ dayAt m q) (h2 : ∀ p q, c ≤ p → p < q → q < b → dayAt m p ≤ dayAt m q) (h3 : ∀ p q, a ≤ p → p < c → c ≤ q → q < b → dayAt m p ≤ dayAt m q) : Seg l m a b :=
  ⟨hs, ho, fun p q p1 p2 p3 => by
    rcases Nat.lt_or_ge q c with hq | hq
    · exact h1 p q p1 p2 hq
    · rcases Nat.lt_or_ge p c with hp | hp
      · exact h3 p q p1 hp hq p3
      · exact h2 p q hp p2 p3⟩
theorem Seg.trans_in {l m k : List α} {a b a' b' : Nat} (h1 : Stb l m) (h2 : ∀ k, k < a ∨ b ≤ k → m[k]? = l[k]?) (h : Seg m k a' b') (ha : a ≤ a') (hb : b' ≤ b) : Stb l k ∧ ∀ q, q < a ∨ b ≤ q → k[q]? = l[q]? :=
  ⟨h1.trans h.stb, fun q hq => (h.out q (by omega)).trans (h2 q hq)⟩
/-- sorted between two places -/
def SrtD (l : List α) (a b : Nat) : Prop := ∀ p q, a ≤ p → p < q → q < b → dayAt l p ≤ dayAt l q
theorem SrtD.le {l : List α} {a b : Nat} (h : SrtD l a b) {p q : Nat} (h1 : a ≤ p) (h2 : p ≤ q) (h3 : q < b) : dayAt l p ≤ dayAt l q := by
  rcases Nat.lt_or_ge p q with hp | hp
  · exact h p q h1 hp h3
  · obtain rfl : p = q := by omega
    exact Int.le_refl _
theorem SrtD.sub {l : List α} {a b a' b' : Nat} (h : SrtD l a b) (h1 : a ≤ a') (h2 : b' ≤ b) : SrtD l a' b' := fun p q p1 p2 p3 => h p q (by omega) p2 (by omega)
theorem SrtD.none {l : List α} {a b : Nat} (h : b ≤ a + 1) : SrtD l a b := fun p q h1 h2 h3 => by omega
theorem Seg.toD {l m : List α} {a b : Nat} (h : Seg l m a b) : SrtD m a b := h.srt
/-- a turn of two neighbouring pieces -/
structure Rot (l k : List α) (a s m e b : Nat) : Prop where
  stb : Stb l k
  out : ∀ q, q < s ∨ e ≤ q → k[q]? = l[q]?
  day : ∀ q, dayAt k q = if s ≤ q ∧ q < s + (e - m) then dayAt l (q + (m - s)) else if s + (e - m) ≤ q ∧ q < e then dayAt l (q - (e - m)) else dayAt l q
theorem Rot.of {l k : List α} {a s m e b : Nat} (h1 : s ≤ m) (h2 : m ≤ e) (h3 : e ≤ l.length) (hk : k.length = l.length) (hr : ∀ q, k[q]? = rotG (l[·]?) m (m - s) (e - m) q) (hd : ∀ p q, s ≤ p → p < m → m ≤ q → q < e → dayAt l q < dayAt l p) : Rot l k a s m e b := by
  refine ⟨rot_stb h1 h2 h3 hk hr hd, fun q hq => ?_, fun q => ?_⟩
  · rw [hr, rotG, if_neg (by omega), if_neg (by omega)]
  · rw [rot_day hr, show m - (m - s) = s from by omega, show m + (e - m) = e from by omega]
theorem Rot.id {l : List α} {a s m e b : Nat} (h : s = m ∨ e = m) (h1 : s ≤ m) (h2 : m ≤ e) : Rot l l a s m e b := by
  refine ⟨Stb.refl l, fun _ _ => rfl, fun q => ?_⟩
  rcases h with rfl | rfl
  · split
    · congr 1; omega
    · split
      · exfalso; omega
      · rfl
  · split
    · exfalso; omega
    · split
      · congr 1; omega
      · rfl
theorem Rot.len {l k : List α} {a s m e b : Nat} (h : Rot l k a s m e b) : k.length = l.length := h.stb.1.symm
/-- the four pieces behind a turn -/
theorem Rot.p1 {l k : List α} {a s m e b : Nat} (h : Rot l k a s m e b) (h1 : SrtD l a m) (g1 : s ≤ m) : SrtD k a s := fun p q p1 p2 p3 => by
  rw [h.day, h.day, if_neg (by omega), if_neg (by omega), if_neg (by omega), if_neg (by omega)]
  exact h1 p q p1 p2 (by omega)
theorem Rot.p2 {l k : List α} {a s m e b : Nat} (h : Rot l k a s m e b) (h2 : SrtD l m b) (g1 : s ≤ m) (g2 : m ≤ e) (g3 : e ≤ b) : SrtD k s (s + (e - m)) := fun p q p1 p2 p3 => by
  rw [h.day, h.day, if_pos (by omega), if_pos (by omega)]
  exact h2 _ _ (by omega) (by omega) (by omega)
theorem Rot.p3 {l k : List α} {a s m e b : Nat} (h : Rot l k a s m e b) (h1 : SrtD l a m) (g0 : a ≤ s) (g1 : s ≤ m) (g2 : m ≤ e) : SrtD k (s + (e - m)) e := fun p q p1 p2 p3 => by
  rw [h.day, h.day, if_neg (by omega), if_pos (by omega), if_neg (by omega), if_pos (by omega)]
  exact h1 _ _ (by omega) (by omega) (by omega)
theorem Rot.p4 {l k : List α} {a s m e b : Nat} (h : Rot l k a s m e b) (h2 : SrtD l m b) (g1 : s ≤ m) (g2 : m ≤ e) : SrtD k e b := fun p q p1 p2 p3 => by
  rw [h.day, h.day, if_neg (by omega), if_neg (by omega), if_neg (by omega), if_neg (by omega)]
  exact h2 p q (by omega) p2 p3
theorem Rot.cross {l k : List α} {a s m e b : Nat} (h : Rot l k a s m e b) (h1 : SrtD l a m) (h2 : SrtD l m b) (g0 : a ≤ s) (g1 : s ≤ m) (g2 : m ≤ e) (g3 : e ≤ b)
    (hx : ∀ p q, s ≤ p → p < m → m ≤ q → q < e → dayAt l q < dayAt l p) (hy : ∀ p q, a ≤ p → p < s → e ≤ q → q < b → dayAt l p ≤ dayAt l q) (p q : Nat) (p1 : a ≤ p) (p2 : p < s + (e - m)) (q1 : s + (e - m) ≤ q) (q2 : q < b) : dayAt k p ≤ dayAt k q := by
  rw [h.day p, h.day q]
  by_cases hp : s ≤ p
  · rw [if_pos ⟨hp, p2⟩]
    by_cases hq : q < e
    · rw [if_neg (by omega), if_pos ⟨q1, hq⟩]
      exact Int.le_of_lt (hx _ _ (by omega) (by omega) (by omega) (by omega))
    · rw [if_neg (by omega), if_neg (by omega)]
      exact h2.le (by omega) (by omega) q2
  · rw [if_neg (by omega), if_neg (by omega)]
    by_cases hq : q < e
    · rw [if_neg (by omega), if_pos ⟨q1, hq⟩]
      exact h1.le p1 (by omega) (by omega)
    · rw [if_neg (by omega), if_neg (by omega)]
      exact hy p q p1 (by omega) (by omega) q2
/-- both halves merged: all of it is -/
theorem Rot.done {l k k1 k2 : List α} {a s m e b c : Nat} (h : Rot l k a s m e b) (h1 : SrtD l a m) (h2 : SrtD l m b) (g0 : a ≤ s) (g1 : s ≤ m) (g2 : m ≤ e) (g3 : e ≤ b) (g4 : b ≤ l.length) (hc : s + (e - m) = c)
    (hx : ∀ p q, s ≤ p → p < m → m ≤ q → q < e → dayAt l q < dayAt l p) (hy : ∀ p q, a ≤ p → p < s → e ≤ q → q < b → dayAt l p ≤ dayAt l q) (s1 : Seg k k1 a c) (s2 : Seg k1 k2 c b) : Seg l k2 a b := by
  subst hc
  have hl := h.len
  have hl1 := s1.len
  have d1 : ∀ p, p < s + (e - m) → k2[p]? = k1[p]? := fun p hp => s2.out p (.inl hp)
  have d2 : ∀ p, s + (e - m) ≤ p → k1[p]? = k[p]? := fun p hp => s1.out p (.inr hp)
  have e1 : ∀ p, p < s + (e - m) → dayAt k2 p = dayAt k1 p := fun p hp => by unfold dayAt; rw [d1 p hp]
  refine seg_join (c := s + (e - m)) (h.stb.trans (s1.stb.trans s2.stb)) (fun q hq => ?_) (fun p q p1 p2 p3 => ?_) (fun p q p1 p2 p3 => s2.srt p q p1 p2 p3) (fun p q p1 p2 p3 p4 => ?_)
  · rw [s2.out q (by omega), s1.out q (by omega), h.out q (by omega)]
  · rw [e1 p (by omega), e1 q p3]; exact s1.srt p q p1 p2 p3
  · rw [e1 p p2]
    obtain ⟨p', a1, a2, a3⟩ := seg_mem s1.stb s1.out (by omega) (by omega) p1 p2
    obtain ⟨q', b1, b2, b3⟩ := seg_mem s2.stb s2.out (by omega) (by omega) p3 p4
    have : dayAt k1 q' = dayAt k q' := by unfold dayAt; rw [d2 q' b1]
    rw [a3, b3, this]
    exact h.cross h1 h2 g0 g1 g2 g3 hx hy p' q' a1 a2 b1 b2
/-- one element on its way up -/
def bub (l : List α) (a : Nat) : Nat → List α
  | 0 => l
  | k + 1 => swp (bub l a k) (a + k) (a + k + 1)
theorem bub_len (l : List α) (a : Nat) : ∀ k, (bub l a k).length = l.length
  | 0 => rfl
  | k + 1 => by rw [bub, swp_len, bub_len l a k]
theorem bub_get {l : List α} {a : Nat} : ∀ (n : Nat), a + n < l.length → ∀ k, (bub l a n)[k]? = rotG (l[·]?) (a + 1) 1 n k
  | 0, _, k => by simp only [bub, rotG]; rw [if_neg (by omega)]; split; · congr 1
                  · rfl
  | n + 1, h, k => by
    have hl := bub_len l a n
    rw [bub, swp_get (by omega) (by omega)]
    have ih := bub_get n (l := l) (a := a) (by omega)
    rw [ih, ih, ih]
    simp only [rotG]
    repeat' split
    all_goals first
      | (exfalso; omega)
      | rfl
      | (congr 1; omega)
/-- .. on its way down -/
def bud (l : List α) (m : Nat) : Nat → List α
  | 0 => l
  | k + 1 => swp (bud l m k) (m - k) (m - k - 1)
theorem bud_len (l : List α) (m : Nat) : ∀ k, (bud l m k).length = l.length
  | 0 => rfl
  | k + 1 => by rw [bud, swp_len, bud_len l m k]
theorem bud_get {l : List α} {m : Nat} (hm : m < l.length) : ∀ (n : Nat), n ≤ m → ∀ k, (bud l m n)[k]? = rotG (l[·]?) m n 1 k
  | 0, _, k => by simp only [bud, rotG]; split; · congr 1
                  · split
                    · exfalso; omega
                    · rfl
  | n + 1, h, k => by
    have hl := bud_len l m n
    rw [bud, swp_get (by omega) (by omega)]
    have ih := bud_get hm n (by omega)
    rw [ih, ih, ih]
    simp only [rotG]
    repeat' split
    all_goals first
      | (exfalso; omega)
      | rfl
      | (congr 1; omega)
/-- the first piece is one element -/
theorem merge_up {l : List α} {a b i : Nat} (hs : SrtD l (a + 1) b) (h1 : a + 1 ≤ i) (h2 : i ≤ b) (h3 : b ≤ l.length) (hlo : ∀ q, a + 1 ≤ q → q < i → dayAt l q < dayAt l a) (hhi : ∀ q, i ≤ q → q < b → dayAt l a ≤ dayAt l q) : Seg l (bub l a (i - 1 - a)) a b := by
  have hR : Rot l (bub l a (i - 1 - a)) a a (a + 1) i b := Rot.of (by omega) h1 (by omega) (bub_len _ _ _) (fun q => by rw [bub_get _ (by omega)]; congr 1 <;> omega)
    (fun p q p1 p2 p3 p4 => by obtain rfl : p = a := by omega
                               exact hlo q p3 p4)
  refine ⟨hR.stb, fun k hk => hR.out k (by omega), fun p q p1 p2 p3 => ?_⟩
  rw [hR.day p, hR.day q]
  by_cases hp : p < i - 1
  · rw [if_pos (by omega)]
    by_cases hq : q < i - 1
    · rw [if_pos (by omega)]; exact hs _ _ (by omega) (by omega) (by omega)
    · by_cases hq2 : q = i - 1
      · rw [if_neg (by omega), if_pos (by omega), show q - (i - (a + 1)) = a from by omega]; exact Int.le_of_lt (hlo _ (by omega) (by omega))
      · rw [if_neg (by omega), if_neg (by omega)]; exact hs _ _ (by omega) (by omega) (by omega)
  · by_cases hp2 : p = i - 1
    · rw [if_neg (by omega), if_pos (by omega), if_neg (by omega), if_neg (by omega), show p - (i - (a + 1)) = a from by omega]; exact hhi _ (by omega) p3
    · rw [if_neg (by omega), if_neg (by omega), if_neg (by omega), if_neg (by omega)]; exact hs _ _ (by omega) (by omega) (by omega)
/-- the second piece is one element -/
theorem merge_down {l : List α} {a m i : Nat} (hs : SrtD l a m) (h1 : a ≤ i) (h2 : i ≤ m) (h3 : m < l.length) (hlo : ∀ q, a ≤ q → q < i → dayAt l q ≤ dayAt l m) (hhi : ∀ q, i ≤ q → q < m → dayAt l m < dayAt l q) : Seg l (bud l m (m - i)) a (m + 1) := by
  have hR : Rot l (bud l m (m - i)) a i m (m + 1) (m + 1) := Rot.of h2 (by omega) (by omega) (bud_len _ _ _) (fun q => by rw [bud_get h3 _ (by omega)]; congr 1; omega)
    (fun p q p1 p2 p3 p4 => by obtain rfl : q = m := by omega
                               exact hhi p p1 p2)
  refine ⟨hR.stb, fun k hk => hR.out k (by omega), fun p q p1 p2 p3 => ?_⟩
  rw [hR.day p, hR.day q]
  by_cases hp : p < i
  · rw [if_neg (by omega), if_neg (by omega)]
    by_cases hq : q < i
    · rw [if_neg (by omega), if_neg (by omega)]; exact hs _ _ (by omega) (by omega) (by omega)
    · by_cases hq2 : q = i
      · rw [if_pos (by omega), show q + (m - i) = m from by omega]; exact hlo _ (by omega) (by omega)
      · rw [if_neg (by omega), if_pos (by omega)]; exact hs _ _ (by omega) (by omega) (by omega)
  · by_cases hp2 : p = i
    · rw [if_pos (by omega), if_neg (by omega), if_pos (by omega), show p + (m - i) = m from by omega]; exact Int.le_of_lt (hhi _ (by omega) (by omega))
    · rw [if_neg (by omega), if_pos (by omega), if_neg (by omega), if_pos (by omega)]; exact hs _ _ (by omega) (by omega) (by omega)
theorem Seg.refl' {k : List α} {a c : Nat} (h : SrtD k a c) : Seg k k a c := ⟨Stb.refl k, fun _ _ => rfl, h⟩
theorem Rot.left {l k : List α} {a s m e b c : Nat} (h : Rot l k a s m e b) (h1 : SrtD l a m) (h2 : SrtD l m b) (g1 : s ≤ m) (g2 : m ≤ e) (g3 : e ≤ b) (hc : s + (e - m) = c) (hn : ¬ (a < s ∧ s < c)) (g0 : a ≤ s) : SrtD k a c := by
  subst hc
  by_cases hs : a = s
  · subst hs; exact h.p2 h2 g1 g2 g3
  · exact (h.p1 h1 g1).sub (Nat.le_refl _) (by omega)
theorem Rot.right {l k : List α} {a s m e b c : Nat} (h : Rot l k a s m e b) (h1 : SrtD l a m) (h2 : SrtD l m b) (g0 : a ≤ s) (g1 : s ≤ m) (g2 : m ≤ e) (hc : s + (e - m) = c) (hn : ¬ (c < e ∧ e < b)) (g3 : e ≤ b) : SrtD k c b := by
  subst hc
  by_cases hs : e = b
  · subst hs; exact h.p3 h1 g0 g1 g2
  · exact (h.p4 h2 g1 g2).sub (by omega) (Nat.le_refl _)
theorem Seg.keepD {k k1 : List α} {a c p q : Nat} (h : Seg k k1 a c) (hc : c ≤ p) (hs : SrtD k p q) : SrtD k1 p q := fun x y h1 h2 h3 => by
  have e : ∀ z, c ≤ z → dayAt k1 z = dayAt k z := fun z hz => by unfold dayAt; rw [h.out z (.inr hz)]
  rw [e x (by omega), e y (by omega)]; exact hs x y h1 h2 h3
/-- where the two sorted pieces are parted -/
theorem spl_fin {l : List α} {a m b c S R s : Nat} (m1 : SrtD l a m) (m2 : SrtD l m b) (ham : a < m) (hmb : m < b) (hc : c = (a + b) / 2) (hS : (c < m ∧ S = c + m - b ∧ R = c) ∨ (m ≤ c ∧ S = a ∧ R = m)) (hs1 : S ≤ s) (hs2 : s ≤ R)
    (lo : ∀ q, S ≤ q → q < s → dayAt l q ≤ dayAt l (c + m - 1 - q)) (hi : ∀ q, s ≤ q → q < R → dayAt l (c + m - 1 - q) < dayAt l q) :
    (∀ p q, s ≤ p → p < m → m ≤ q → q < c + m - s → dayAt l q < dayAt l p) ∧ (∀ p q, a ≤ p → p < s → c + m - s ≤ q → q < b → dayAt l p ≤ dayAt l q) := by
  refine ⟨fun p q p1 p2 q1 q2 => ?_, fun p q p1 p2 q1 q2 => ?_⟩
  · have hlt : s < R := by omega
    have h1 := hi s (Nat.le_refl _) hlt
    have h2 := m1.le (p := s) (q := p) (by omega) p1 p2
    have h3 := m2.le (p := q) (q := c + m - 1 - s) q1 (by omega) (by omega)
    omega
  · have hlt : S < s := by omega
    have h1 := lo (s - 1) (by omega) (by omega)
    have h2 := m1.le (p := p) (q := s - 1) p1 (by omega) (by omega)
    have h3 := m2.le (p := c + m - 1 - (s - 1)) (q := q) (by omega) (by omega) q2
    omega
theorem spl_up {l : List α} {a m b c S R r h : Nat} (m1 : SrtD l a m) (m2 : SrtD l m b) (ham : a < m) (hmb : m < b) (hc : c = (a + b) / 2) (hS : (c < m ∧ S = c + m - b ∧ R = c) ∨ (m ≤ c ∧ S = a ∧ R = m)) (h1 : S ≤ h) (h2 : h < r) (h3 : r ≤ R)
    (hd : dayAt l h ≤ dayAt l (c + m - 1 - h)) (q : Nat) (q1 : S ≤ q) (q2 : q < h + 1) : dayAt l q ≤ dayAt l (c + m - 1 - q) := by
  have e1 := m1.le (p := q) (q := h) (by omega) (by omega) (by omega)
  have e2 := m2.le (p := c + m - 1 - h) (q := c + m - 1 - q) (by omega) (by omega) (by omega)
  omega
theorem spl_dn {l : List α} {a m b c S R s h : Nat} (m1 : SrtD l a m) (m2 : SrtD l m b) (ham : a < m) (hmb : m < b) (hc : c = (a + b) / 2) (hS : (c < m ∧ S = c + m - b ∧ R = c) ∨ (m ≤ c ∧ S = a ∧ R = m)) (h1 : S ≤ s) (h2 : s ≤ h) (h3 : h < R)
    (hd : dayAt l (c + m - 1 - h) < dayAt l h) (q : Nat) (q1 : h ≤ q) (q2 : q < R) : dayAt l (c + m - 1 - q) < dayAt l q := by
  have e1 := m1.le (p := h) (q := q) (by omega) (by omega) (by omega)
  have e2 := m2.le (p := c + m - 1 - q) (q := c + m - 1 - h) (by omega) (by omega) (by omega)
  omega
theorem day_lt {l : List α} {i j : Nat} {hi : i < l.length} {hj : j < l.length} (h : cmpI (Day.day l[i]) (Day.day l[j]) < 0) : dayAt l i < dayAt l j := by
  rw [cmpI_neg] at h; rw [dayAt_eq hi, dayAt_eq hj]; exact h
theorem day_ge {l : List α} {i j : Nat} {hi : i < l.length} {hj : j < l.length} (h : ¬ cmpI (Day.day l[i]) (Day.day l[j]) < 0) : dayAt l j ≤ dayAt l i := by
  rw [cmpI_neg] at h; rw [dayAt_eq hi, dayAt_eq hj]; omega
end Go.Sx
