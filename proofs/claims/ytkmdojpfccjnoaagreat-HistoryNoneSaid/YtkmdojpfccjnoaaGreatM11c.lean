/- The blocks of the stable sort; what is sorted stably is one list alone. -/
import Derived.Test.YtkmdojpfccjnoaaGreatM11b
set_option linter.all false
namespace Go.Sx
open Go
variable {α : Type} [Day α]
/-- the first places, block by block -/
inductive Pre (l : List α) (q : Nat) : Nat → Prop
  | zero : Pre l q 0
  | snoc {a : Nat} : Pre l q a → SrtD l a (a + q) → Pre l q (a + q)
/-- the last places, block by block -/
inductive Blk (l : List α) (q n : Nat) : Nat → Prop
  | done {s : Nat} : n ≤ s → Blk l q n s
  | step {s : Nat} : SrtD l s (min (s + q) n) → Blk l q n (s + q) → Blk l q n s
theorem SrtD.same {l m : List α} {a b : Nat} (h : SrtD l a b) (he : ∀ k, a ≤ k → k < b → m[k]? = l[k]?) : SrtD m a b := fun p q p1 p2 p3 => by
  have e : ∀ z, a ≤ z → z < b → dayAt m z = dayAt l z := fun z h1 h2 => by unfold dayAt; rw [he z h1 h2]
  rw [e p p1 (by omega), e q (by omega) p3]; exact h p q p1 p2 p3
theorem Pre.same {l m : List α} {q a : Nat} (h : Pre l q a) (he : ∀ k, k < a → m[k]? = l[k]?) : Pre m q a := by
  induction h with
  | zero => exact .zero
  | snoc h1 h2 ih => exact .snoc (ih fun k hk => he k (by omega)) (h2.same fun k _ hk => he k hk)
theorem Blk.same {l m : List α} {q n s : Nat} (h : Blk l q n s) (he : ∀ k, s ≤ k → k < n → m[k]? = l[k]?) : Blk m q n s := by
  induction h with
  | done h => exact .done h
  | step h1 h2 ih => exact .step (h1.same fun k h3 h4 => he k h3 (by omega)) (ih fun k hk hk2 => he k (by omega) hk2)
theorem Pre.blk {l : List α} {q n a : Nat} (h : Pre l q a) (han : a ≤ n) (hb : Blk l q n a) : Blk l q n 0 := by
  induction h with
  | zero => exact hb
  | snoc h1 h2 ih => exact ih (by omega) (.step (h2.sub (Nat.le_refl _) (by omega)) hb)
theorem Pre.put {l m : List α} {q a : Nat} (h : Pre l q a) (hs : Seg l m a (a + q)) : Pre m q (a + q) := .snoc (h.same fun k hk => hs.out k (.inl hk)) hs.srt
theorem Pre.last {l m : List α} {q a n : Nat} (h : Pre l q a) (hs : Seg l m a n) (han : a ≤ n) (hq : n < a + q) : Blk m q n 0 :=
  (h.same fun k hk => hs.out k (.inl hk)).blk han (.step (hs.toD.sub (Nat.le_refl _) (by omega)) (.done (by omega)))
theorem Blk.two {l : List α} {q n s : Nat} (h : Blk l q n s) (hs : s + 2 * q ≤ n) (hq : 1 ≤ q) : SrtD l s (s + q) ∧ SrtD l (s + q) (s + 2 * q) ∧ Blk l q n (s + 2 * q) := by
  cases h with
  | done h => omega
  | step h1 h2 => cases h2 with
    | done h => omega
    | step h3 h4 => exact ⟨h1.sub (Nat.le_refl _) (by omega), h3.sub (Nat.le_refl _) (by omega), by rw [show s + 2 * q = s + q + q from by omega]; exact h4⟩
theorem Blk.one {l : List α} {q n s : Nat} (h : Blk l q n s) (hs : s + q < n) : SrtD l s (s + q) ∧ (n ≤ s + 2 * q → SrtD l (s + q) n) := by
  cases h with
  | done h => omega
  | step h1 h2 => cases h2 with
    | done h => omega
    | step h3 h4 => exact ⟨h1.sub (Nat.le_refl _) (by omega), fun h => h3.sub (Nat.le_refl _) (by omega)⟩
theorem Blk.all {l : List α} {q n s : Nat} (h : Blk l q n s) (hs : n ≤ s + q) : SrtD l s n := by
  cases h with
  | done h => exact SrtD.none (by omega)
  | step h1 h2 => exact h1.sub (Nat.le_refl _) (by omega)
/-! one list alone -/
def Srtd (l : List α) : Prop := l.Pairwise fun x y => Day.day x ≤ Day.day y
theorem SrtD.pw {l : List α} (h : SrtD l 0 l.length) : Srtd l := by
  rw [Srtd, List.pairwise_iff_getElem]
  intro i j hi hj hij
  have := h i j (Nat.zero_le _) hij hj
  rwa [dayAt_eq hi, dayAt_eq hj] at this
theorem stb_one : ∀ (m m' : List α), Srtd m → Srtd m' → (∀ d : Int, m.filter (fun e => decide (Day.day e = d)) = m'.filter (fun e => decide (Day.day e = d))) → m = m' := by
  intro m
  induction m with
  | nil =>
    intro m' _ _ h
    cases m' with
    | nil => rfl
    | cons y r => have := h (Day.day y); simp at this
  | cons x r ih =>
    intro m' h1 h2 h
    cases m' with
    | nil => have := h (Day.day x); simp at this
    | cons y r' =>
      unfold Srtd at h1 h2
      rw [List.pairwise_cons] at h1 h2
      have hx : x ∈ (y :: r') := by
        have : x ∈ (y :: r').filter (fun e => decide (Day.day e = Day.day x)) := by rw [← h]; simp
        exact (List.mem_filter.1 this).1
      have hy : y ∈ (x :: r) := by
        have : y ∈ (x :: r).filter (fun e => decide (Day.day e = Day.day y)) := by rw [h]; simp
        exact (List.mem_filter.1 this).1
      have d1 : Day.day y ≤ Day.day x := by
        rcases List.mem_cons.1 hx with e | hx
        · rw [e]; exact Int.le_refl _
        · exact h2.1 x hx
      have d2 : Day.day x ≤ Day.day y := by
        rcases List.mem_cons.1 hy with e | hy
        · rw [e]; exact Int.le_refl _
        · exact h1.1 y hy
      have hd : Day.day y = Day.day x := Int.le_antisymm d1 d2
      have h0 := h (Day.day x)
      simp only [List.filter_cons, hd, decide_true, if_true, List.cons.injEq] at h0
      obtain ⟨rfl, h0⟩ := h0
      congr 1
      refine ih r' h1.2 h2.2 fun d => ?_
      have h3 := h d
      simp only [List.filter_cons] at h3
      split at h3
      · simpa using h3
      · exact h3
def insD (e : α) : List α → List α
  | [] => [e]
  | x :: r => if Day.day e ≤ Day.day x then e :: x :: r else x :: insD e r
/-- the course of a list -/
def sortF (l : List α) : List α := l.foldr insD []
theorem insD_mem {e y : α} : ∀ {l : List α}, y ∈ insD e l ↔ y = e ∨ y ∈ l
  | [] => by simp [insD]
  | x :: r => by
    simp only [insD]
    split
    · simp
    · simp only [List.mem_cons, insD_mem (l := r)]
      constructor
      · rintro (h | h | h)
        · exact .inr (.inl h)
        · exact .inl h
        · exact .inr (.inr h)
      · rintro (h | h | h)
        · exact .inr (.inl h)
        · exact .inl h
        · exact .inr (.inr h)
theorem insD_srt {e : α} : ∀ {l : List α}, Srtd l → Srtd (insD e l)
  | [], _ => by simp [insD, Srtd]
  | x :: r, h => by
    unfold Srtd at h
    have h' := List.pairwise_cons.1 h
    simp only [insD]
    split
    · rename_i hd
      refine List.pairwise_cons.2 ⟨fun y hy => ?_, h⟩
      rcases List.mem_cons.1 hy with rfl | hy
      · exact hd
      · exact Int.le_trans hd (h'.1 y hy)
    · rename_i hd
      refine List.pairwise_cons.2 ⟨fun y hy => ?_, insD_srt h'.2⟩
      rcases insD_mem.1 hy with rfl | hy
      · omega
      · exact h'.1 y hy
theorem insD_len (e : α) : ∀ l : List α, (insD e l).length = l.length + 1
  | [] => rfl
  | x :: r => by simp only [insD]; split; · simp
                 · simp [insD_len e r]
theorem insD_filter (e : α) (d : Int) : ∀ l : List α, (insD e l).filter (fun e => decide (Day.day e = d)) = (e :: l).filter (fun e => decide (Day.day e = d))
  | [] => rfl
  | x :: r => by
    simp only [insD]
    split
    · rfl
    · rename_i hd
      rw [List.filter_cons, insD_filter e d r]
      simp only [List.filter_cons]
      by_cases h1 : Day.day x = d
      · by_cases h2 : Day.day e = d
        · omega
        · simp [h1, h2]
      · simp [h1]
theorem sortF_srt : ∀ l : List α, Srtd (sortF l)
  | [] => List.Pairwise.nil
  | x :: r => insD_srt (sortF_srt r)
theorem sortF_len : ∀ l : List α, (sortF l).length = l.length
  | [] => rfl
  | x :: r => (insD_len x (sortF r)).trans (by rw [sortF_len r]; rfl)
theorem sortF_filter (d : Int) : ∀ l : List α, (sortF l).filter (fun e => decide (Day.day e = d)) = l.filter (fun e => decide (Day.day e = d))
  | [] => rfl
  | x :: r => (insD_filter x d (sortF r)).trans (by rw [List.filter_cons, List.filter_cons, sortF_filter d r])
theorem sortF_is {l m : List α} (h : Stb l m) (hs : Srtd m) : m = sortF l := stb_one m _ hs (sortF_srt l) fun d => by rw [h.2 d, sortF_filter]
theorem sortF_mem {l : List α} {x : α} : x ∈ sortF l ↔ x ∈ l := by
  have h : ∀ (m : List α), x ∈ m ↔ x ∈ m.filter (fun e => decide (Day.day e = Day.day x)) := fun m => by simp
  rw [h, sortF_filter, ← h]
section
variable {P : Program} {n : Sz} {E : Ent} {I : IMap} {L : LL} {H : List Res} {K : Act → World → Prop}
theorem sx_unrow0 {g e k m : Nat} {xss : List (List Value)} (hU : Uk k xss) (hm : xss.length = m) (hl : m ≤ maxLen) (h : SX n E I L (.row (.slice (some ⟨g, 0, none⟩) m m) e k m xss.flatten :: H) K) : SX n E I L (.blk g e xss.flatten :: H) K := by
  have := sx_unrow (rest := []) hU (fun c hc => (by cases hc)) hm (by simp) hl h
  simpa using this
end
end Go.Sx
