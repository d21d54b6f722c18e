/- The course of events in plain Lean: states one after the other; deleting in place. -/
import Derived.Test.YtkmdojpfccjnoaaGreatM11c
import Derived.Test.YtkmdojpfccjnoaaGreatSxMany
set_option linter.all false
namespace Go.Sx
open Go
theorem idxF_ge {α : Type} (p : α → Bool) (l : List α) : -1 ≤ idxF p l := by
  cases h : l.findIdx? p with
  | none => have : idxF p l = -1 := by simp [idxF, h]
            omega
  | some k => have : idxF p l = (k : Int) := by simp [idxF, h]
              omega
theorem idxF_pos {α : Type} {p : α → Bool} {l : List α} {i : Nat} (h : idxF p l = (i : Int)) (hi : i < l.length) : p l[i] = true ∧ ∀ j x, j < i → l[j]? = some x → p x = false := by
  cases hf : l.findIdx? p with
  | none => have : idxF p l = -1 := by simp [idxF, hf]
            omega
  | some k =>
    have : idxF p l = (k : Int) := by simp [idxF, hf]
    obtain rfl : k = i := by omega
    rw [List.findIdx?_eq_some_iff_getElem] at hf
    obtain ⟨h1, h2, h3⟩ := hf
    exact ⟨h2, fun j x hj hx => by obtain ⟨hlt, rfl⟩ := List.getElem?_eq_some_iff.1 hx; simpa using h3 j hj⟩
/-- what the iterator of states hands to the loop -/
def rdR2 (I : IMap) (vs : List Value) (x : Res2) : Prop := ∃ w, vs = [.agg #[w], .int .i64 x.2] ∧ RdS I w x.1
/-- what lies in front of a place that is written, what is read behind it -/
structure Del (p : Evt → Bool) (l m : List Evt) (i j : Nat) : Prop where
  len : m.length = l.length
  le : i ≤ j
  hj : j ≤ l.length
  fst : m.take i = (l.take j).filter fun x => !p x
  rest : m.drop j = l.drop j
theorem Del.start {p : Evt → Bool} {l : List Evt} {i : Nat} (hi : i < l.length) (hp : p l[i] = true) (hn : ∀ j x, j < i → l[j]? = some x → p x = false) : Del p l l i (i + 1) := by
  refine ⟨rfl, by omega, by omega, ?_, rfl⟩
  rw [← take_succ_of hi, List.filter_append]
  have h1 : (l.take i).filter (fun x => !p x) = l.take i := by
    rw [List.filter_eq_self]
    intro x hx
    obtain ⟨j, hj, rfl⟩ := List.getElem_of_mem hx
    simp only [List.length_take] at hj
    rw [List.getElem_take, hn j _ (by omega) (List.getElem?_eq_getElem (by omega))]
    rfl
  rw [h1]
  simp [hp]
theorem Del.at_ {p : Evt → Bool} {l m : List Evt} {i j : Nat} (h : Del p l m i j) (hj : j < l.length) : m[j]'(by rw [h.len]; exact hj) = l[j] := by
  have h1 : (m.drop j)[0]? = (l.drop j)[0]? := by rw [h.rest]
  rw [List.getElem?_drop, List.getElem?_drop, List.getElem?_eq_getElem (by rw [h.len]; simpa using hj), List.getElem?_eq_getElem (by simpa using hj)] at h1
  simpa using h1
theorem Del.skip {p : Evt → Bool} {l m : List Evt} {i j : Nat} (h : Del p l m i j) (hj : j < l.length) (hp : p l[j] = true) : Del p l m i (j + 1) := by
  refine ⟨h.len, by have := h.le; omega, by omega, ?_, ?_⟩
  · rw [h.fst, ← take_succ_of hj, List.filter_append]; simp [hp]
  · have := congrArg (List.drop 1) h.rest; simpa [List.drop_drop] using this
theorem Del.keep {p : Evt → Bool} {l m : List Evt} {i j : Nat} (h : Del p l m i j) (hj : j < l.length) (hp : p l[j] = false) : Del p l (m.set i l[j]) (i + 1) (j + 1) := by
  have hl := h.len
  have hle := h.le
  refine ⟨by simp [hl], by omega, by omega, ?_, ?_⟩
  · rw [List.take_succ_eq_append_getElem (by simp; omega), List.take_set_of_le (Nat.le_refl _), h.fst, ← take_succ_of hj, List.filter_append]
    simp [hp]
  · rw [List.drop_set_of_lt (by omega)]
    have := congrArg (List.drop 1) h.rest; simpa [List.drop_drop] using this
/-- the states after the events, until one is not possible -/
def statesF (c : List Kind) : List Part → List Evt → List Res2
  | _, [] => []
  | s, e :: r => applyF c s e :: (if (applyF c s e).2 = 0 then statesF c (applyF c s e).1 r else [])
theorem states_len (c : List Kind) : ∀ (l : List Evt) (s : List Part), (statesF c s l).length ≤ l.length
  | [], _ => Nat.le_refl _
  | e :: r, s => by
    simp only [statesF, List.length_cons]
    split
    · have := states_len c r (applyF c s e).1; omega
    · simp
abbrev Res3 := List Part × Int × Int
/-- the state after all, or where it stops -/
def runGo (c : List Kind) : List Part → Int → List Evt → Res3
  | s, _, [] => (s, -1, 0)
  | s, i, e :: r => if (applyF c s e).2 = 0 then runGo c (applyF c s e).1 (i + 1) r else ([], i, (applyF c s e).2)
def runF (c : List Kind) (l : List Evt) : Res3 := if validC c = false then ([], -1, 1) else runGo c [] 0 (sortF l)
def atF11 (c : List Kind) (l : List Evt) (day : Int) : Res3 := runF c (l.filter fun e => !decide (e.day > day))
def lastS (s : List Part) (pre : List Res2) : List Part := (pre.getLast?.map (·.1)).getD s
theorem run_full {c : List Kind} : ∀ (l : List Evt) (s : List Part) (i : Int), (∀ x ∈ statesF c s l, x.2 = 0) → runGo c s i l = (lastS s (statesF c s l), -1, 0)
  | [], s, i, _ => rfl
  | e :: r, s, i, h => by
    have h1 : (applyF c s e).2 = 0 := h _ (by simp [statesF])
    simp only [runGo, statesF, if_pos h1]
    rw [run_full r _ _ (fun x hx => h x (by simp only [statesF, if_pos h1]; exact List.mem_cons_of_mem _ hx))]
    congr 1
    cases hs : statesF c (applyF c s e).1 r with
    | nil => simp [lastS]
    | cons y t =>
      obtain ⟨z, hz⟩ : ∃ z, (y :: t).getLast? = some z := ⟨_, List.getLast?_eq_some_getLast (by simp)⟩
      simp [lastS, List.getLast?_cons_cons, hz]
theorem run_stop {c : List Kind} : ∀ (l : List Evt) (s : List Part) (i : Int) (pre rest : List Res2) (x : Res2), statesF c s l = pre ++ x :: rest → (∀ y ∈ pre, y.2 = 0) → x.2 ≠ 0 → runGo c s i l = ([], i + (pre.length : Nat), x.2)
  | [], s, i, pre, rest, x, h, _, _ => by simp [statesF] at h
  | e :: r, s, i, pre, rest, x, h, hp, hx => by
    simp only [statesF] at h
    cases pre with
    | nil =>
      simp only [List.nil_append, List.cons.injEq] at h
      simp only [runGo]
      rw [h.1, if_neg hx]
      simp
    | cons y t =>
      simp only [List.cons_append, List.cons.injEq] at h
      obtain ⟨h1, h2⟩ := h
      have h3 : y.2 = 0 := hp y (by simp)
      rw [h1] at h2
      rw [if_pos h3] at h2
      simp only [runGo, h1, if_pos h3]
      rw [run_stop r y.1 (i + 1) t rest x h2 (fun z hz => hp z (by simp [hz])) hx]
      simp only [List.length_cons, Prod.mk.injEq, true_and, and_true]
      omega
/-- a round of the iterator -/
structure StAt (c : List Kind) (l : List Evt) (i : Nat) (st : List Part) : Prop where
  le : i ≤ (statesF c [] l).length
  rest : (statesF c [] l).drop i = statesF c st (l.drop i)
theorem StAt.zero (c : List Kind) (l : List Evt) : StAt c l 0 [] := ⟨Nat.zero_le _, rfl⟩
theorem StAt.step {c : List Kind} {l : List Evt} {i : Nat} {st : List Part} (h : StAt c l i st) (hi : i < l.length) :
    (statesF c [] l).take i ++ [applyF c st l[i]] = (statesF c [] l).take (i + 1) ∧ i < (statesF c [] l).length ∧ ((applyF c st l[i]).2 = 0 → StAt c l (i + 1) (applyF c st l[i]).1) ∧ ((applyF c st l[i]).2 ≠ 0 → (statesF c [] l).take (i + 1) = statesF c [] l) := by
  have h1 := h.rest
  rw [List.drop_eq_getElem_cons hi] at h1
  simp only [statesF] at h1
  have hlt : i < (statesF c [] l).length := by
    rcases Nat.lt_or_ge i (statesF c [] l).length with h2 | h2
    · exact h2
    · rw [List.drop_eq_nil_of_le h2] at h1; cases h1
  rw [List.drop_eq_getElem_cons hlt] at h1
  simp only [List.cons.injEq] at h1
  refine ⟨?_, hlt, fun h0 => ⟨hlt, ?_⟩, fun h0 => ?_⟩
  · rw [← h1.1, take_succ_of hlt]
  · rw [h1.2, if_pos h0]
  · refine List.take_of_length_le ?_
    have h2 := h1.2
    rw [if_neg h0] at h2
    simpa using h2
theorem StAt.last {c : List Kind} {l : List Evt} {i : Nat} {st : List Part} (h : StAt c l i st) (hi : l.length ≤ i) : (statesF c [] l).take i = statesF c [] l := by
  have h1 := h.rest
  rw [List.drop_eq_nil_of_le hi] at h1
  exact List.take_of_length_le (by simpa [statesF] using h1)
/-! small names stay small -/
theorem SmF.nil : SmF [] := fun _ h => by cases h
theorem putL_mem {α : Type} {nm : α → ByteArray} {l : List α} {x y : α} (h : y ∈ putL nm l x) : y = x ∨ y ∈ l := by
  unfold putL at h
  split at h
  · rcases List.mem_or_eq_of_mem_set h with h | h
    · exact .inr h
    · exact .inl h
  · rcases List.mem_append.1 h with h | h
    · exact .inr (List.mem_of_mem_take h)
    · rcases List.mem_cons.1 h with h | h
      · exact .inl h
      · exact .inr (List.mem_of_mem_drop h)
theorem putR_sm {l : List Part} {p : Part} (h : SmF l) (hp : SmP p) : SmF (putR l p).1 := fun q hq => by
  rcases putL_mem (show q ∈ putL Part.name l p from hq) with rfl | hq
  · exact hp
  · exact h q hq
theorem applyF_sm {c : List Kind} {l : List Part} {e : Evt} (h : SmF l) (he : SmE e) : SmF (applyF c l e).1 := by
  have hz : SmP zPart := ⟨(by show (0 : Nat) ≤ _; omega), fun q hq => by simp [zPart] at hq⟩
  have hp : SmP (partP l e) := by
    unfold partP
    cases hf : findP l e.part with
    | none => exact hz
    | some p => exact h p (find_mem hf)
  have hn : SmP (noted e (partP l e)) := ⟨hp.1, fun q hq => by
    rcases putL_mem (show q ∈ putL Prp.key (partP l e).props ⟨e.key, e.value⟩ from hq) with rfl | hq
    · exact he.2.2.2.2.1
    · exact hp.2 q hq⟩
  have hnew : SmP (newP e) := ⟨he.1, fun q hq => by simp [newP] at hq⟩
  have hfail : ∀ k, SmF (failR k).1 := fun k => SmF.nil
  unfold applyF
  split
  · exact hfail 1
  · split
    · unfold applyMake
      repeat' split
      all_goals first
        | exact hfail _
        | exact putR_sm h hnew
    · unfold applyRest
      split
      · exact hfail _
      · split
        · exact hfail _
        · unfold applyOp applyFit applyRemove applyRun applyNote applyScrap
          repeat' split
          all_goals first
            | exact hfail _
            | exact putR_sm h hp
            | exact putR_sm h hn
            | exact putR_sm h ⟨hp.1, hp.2⟩
end Go.Sx
