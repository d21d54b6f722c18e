/- Histories: what the course of picked events does. -/
import Derived.Test.YtkmdojpfccjnoaaGreatRep
set_option linter.all false
namespace Go.Sx
open Go
section
variable {α β : Type} [Day α] [Day β]
theorem insD_map (f : α → β) (hf : ∀ x, Day.day (f x) = Day.day x) (e : α) : ∀ l : List α, (insD e l).map f = insD (f e) (l.map f)
  | [] => rfl
  | x :: r => by
    simp only [insD, List.map_cons, hf]
    split
    · rfl
    · rw [List.map_cons, insD_map f hf e r]
theorem sortF_map (f : α → β) (hf : ∀ x, Day.day (f x) = Day.day x) : ∀ l : List α, (sortF l).map f = sortF (l.map f)
  | [] => rfl
  | x :: r => by
    show (insD x (sortF r)).map f = insD (f x) (sortF (r.map f))
    rw [insD_map f hf, sortF_map f hf r]
theorem insD_first {e : α} {l : List α} (h : ∀ x ∈ l, Day.day e ≤ Day.day x) : insD e l = e :: l := by
  cases l with
  | nil => rfl
  | cons x r => simp only [insD]; rw [if_pos (h x (by simp))]
theorem insD_filt (p : α → Bool) (e : α) : ∀ {l : List α}, Srtd l → (insD e l).filter p = if p e = true then insD e (l.filter p) else l.filter p
  | [], _ => by by_cases h : p e = true <;> simp [insD, h]
  | x :: r, hs => by
    have hs' := List.pairwise_cons.1 hs
    simp only [insD]
    by_cases hd : Day.day e ≤ Day.day x
    · rw [if_pos hd, List.filter_cons]
      by_cases h : p e = true
      · rw [if_pos h, if_pos h, insD_first]
        intro y hy
        rcases List.mem_cons.1 (List.mem_filter.1 hy).1 with rfl | hy
        · exact hd
        · exact Int.le_trans hd (hs'.1 y hy)
      · rw [if_neg h, if_neg h]
    · rw [if_neg hd, List.filter_cons, insD_filt p e hs'.2, List.filter_cons]
      by_cases h : p e = true
      · rw [if_pos h, if_pos h]
        by_cases hx : p x = true
        · rw [if_pos hx, if_pos hx]; simp only [insD]; rw [if_neg hd]
        · rw [if_neg hx, if_neg hx]
      · rw [if_neg h, if_neg h]
theorem sortF_filt (p : α → Bool) : ∀ l : List α, (sortF l).filter p = sortF (l.filter p)
  | [] => rfl
  | x :: r => by
    show (insD x (sortF r)).filter p = _
    rw [insD_filt p x (sortF_srt r), sortF_filt p r, List.filter_cons]
    split <;> rfl
end
/-- the state that events lead to, if they are possible -/
def runsTo (c : List Kind) : List Part → List Evt → Option (List Part)
  | st, [] => some st
  | st, e :: r => if (applyF c st e).2 = 0 then runsTo c (applyF c st e).1 r else none
theorem runs_app (c : List Kind) : ∀ (a b : List Evt) (st : List Part), runsTo c st (a ++ b) = (runsTo c st a).bind fun s => runsTo c s b
  | [], _, _ => rfl
  | e :: r, b, st => by
    simp only [List.cons_append, runsTo]
    split
    · exact runs_app c r b _
    · rfl
theorem runs_go (c : List Kind) : ∀ (l : List Evt) (st : List Part) (z : Int), (runsTo c st l).isSome = decide ((runGo c st z l).2.2 = 0)
  | [], _, _ => rfl
  | e :: r, st, z => by
    simp only [runsTo, runGo]
    split
    · exact runs_go c r _ _
    · rename_i h; simp [h]
theorem follow_ok (c : List Kind) : ∀ (l : List Pkd) (st : List Part), decide ((followGo c st l).2 = 0) = (runsTo c st (l.map Pkd.e)).isSome
  | [], _ => rfl
  | p :: r, st => by
    simp only [List.map_cons, runsTo, followGo]
    split
    · exact follow_ok c r _
    · rename_i h; simp [h]
theorem follow_app (c : List Kind) : ∀ (a b : List Pkd) (st : List Part), followGo c st (a ++ b) = match runsTo c st (a.map Pkd.e) with | some s => followGo c s b | none => followGo c st a
  | [], _, _ => rfl
  | p :: r, b, st => by
    simp only [List.cons_append, List.map_cons, runsTo, followGo]
    split
    · rw [follow_app c r b]
    · rfl
/-- where it fails -/
theorem follow_at (c : List Kind) : ∀ (l : List Pkd) (st : List Part), (followGo c st l).2 ≠ 0 → ∃ a p b s, l = a ++ p :: b ∧ runsTo c st (a.map Pkd.e) = some s ∧ (applyF c s p.e).2 ≠ 0 ∧ followGo c st l = (p.rep, (applyF c s p.e).2)
  | [], _, h => absurd rfl h
  | p :: r, st, h => by
    simp only [followGo] at h ⊢
    split at h
    · rename_i h0
      obtain ⟨a, q, b, s, rfl, h1, h2, h3⟩ := follow_at c r _ h
      exact ⟨p :: a, q, b, s, rfl, by simp only [List.map_cons, runsTo, if_pos h0]; exact h1, h2, by rw [if_pos h0]; exact h3⟩
    · rename_i h0
      exact ⟨[], p, r, st, rfl, rfl, h0, by rw [if_neg h0]⟩
end Go.Sx
