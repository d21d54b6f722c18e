/- The laws of the course in plain Lean. -/
import Derived.Test.YtkmdojpfccjnoaaGreatM13
set_option linter.all false
namespace Go.Sx
open Go
/-! the order -/
section
variable {α : Type} [Day α]
theorem srtd_take {l : List α} (h : Srtd l) (n : Nat) : Srtd (l.take n) := List.Pairwise.sublist (List.take_sublist n l) h
theorem srtd_drop {l : List α} (h : Srtd l) (n : Nat) : Srtd (l.drop n) := List.Pairwise.sublist (List.drop_sublist n l) h
theorem sortF_of {l m : List α} (hs : Srtd m) (h : ∀ d : Int, m.filter (fun e => decide (Day.day e = d)) = l.filter (fun e => decide (Day.day e = d))) : sortF l = m :=
  stb_one _ _ (sortF_srt l) hs fun d => by rw [sortF_filter, h]
theorem sortF_self {l : List α} (h : Srtd l) : sortF l = l := sortF_of h fun _ => rfl
theorem sortF_idem (l : List α) : sortF (sortF l) = sortF l := sortF_self (sortF_srt l)
theorem sortF_congr {l m : List α} (h : ∀ d : Int, m.filter (fun e => decide (Day.day e = d)) = l.filter (fun e => decide (Day.day e = d))) : sortF m = sortF l :=
  sortF_of (sortF_srt l) fun d => by rw [sortF_filter, h]
/-- the earlier ones, the later ones -/
theorem sortF_part (l : List α) (p : α → Bool) (h : ∀ x ∈ l, ∀ y ∈ l, p x = true → p y = false → Day.day x ≤ Day.day y) (hd : ∀ x ∈ l, ∀ y ∈ l, Day.day x = Day.day y → p x = p y) :
    sortF l = sortF (l.filter p) ++ sortF (l.filter fun x => !p x) := by
  refine sortF_of ?_ fun d => ?_
  · rw [Srtd, List.pairwise_append]
    refine ⟨sortF_srt _, sortF_srt _, fun x hx y hy => ?_⟩
    rw [sortF_mem, List.mem_filter] at hx hy
    exact h x hx.1 y hy.1 hx.2 (by simpa using hy.2)
  · rw [List.filter_append, sortF_filter, sortF_filter, List.filter_filter, List.filter_filter]
    by_cases hp : ∃ x ∈ l, Day.day x = d ∧ p x = true
    · obtain ⟨x, hx, hxd, hxp⟩ := hp
      have e1 : l.filter (fun a => decide (Day.day a = d) && p a) = l.filter fun a => decide (Day.day a = d) := by
        apply List.filter_congr
        intro y hy
        by_cases hyd : Day.day y = d
        · simp [hyd, ← hd x hx y hy (by omega), hxp]
        · simp [hyd]
      have e2 : l.filter (fun a => decide (Day.day a = d) && !p a) = [] := by
        rw [List.filter_eq_nil_iff]
        intro y hy
        by_cases hyd : Day.day y = d
        · simp [← hd x hx y hy (by omega), hxp]
        · simp [hyd]
      rw [e1, e2, List.append_nil]
    · have e1 : l.filter (fun a => decide (Day.day a = d) && p a) = [] := by
        rw [List.filter_eq_nil_iff]
        intro y hy hc
        simp only [Bool.and_eq_true, decide_eq_true_eq] at hc
        exact hp ⟨y, hy, hc.1, hc.2⟩
      have e2 : l.filter (fun a => decide (Day.day a = d) && !p a) = l.filter fun a => decide (Day.day a = d) := by
        apply List.filter_congr
        intro y hy
        by_cases hyd : Day.day y = d
        · have : p y = false := by
            cases h : p y
            · rfl
            · exact absurd ⟨y, hy, hyd, h⟩ hp
          simp [hyd, this]
        · simp [hyd]
      rw [e1, e2, List.nil_append]
/-- the elements of one day, in what is sorted -/
theorem day_block : ∀ (t : List α) (d : Int), Srtd t → (∀ y ∈ t, d ≤ Day.day y) → ∃ rest, t = t.filter (fun e => decide (Day.day e = d)) ++ rest ∧ ∀ y ∈ rest, d < Day.day y
  | [], d, _, _ => ⟨[], rfl, fun _ h => by cases h⟩
  | x :: r, d, hs, hd => by
    have hs' := List.pairwise_cons.1 hs
    by_cases hx : Day.day x = d
    · obtain ⟨rest, h1, h2⟩ := day_block r d hs'.2 (fun y hy => hd y (List.mem_cons_of_mem _ hy))
      refine ⟨rest, ?_, h2⟩
      simp only [List.filter_cons, hx, decide_true, if_true, List.cons_append]
      rw [← h1]
    · refine ⟨x :: r, ?_, fun y hy => ?_⟩
      · have : (x :: r).filter (fun e => decide (Day.day e = d)) = [] := by
          rw [List.filter_eq_nil_iff]
          intro y hy
          have h1 := hd x (by simp)
          rcases List.mem_cons.1 hy with rfl | hy
          · simp [hx]
          · have := hs'.1 y hy
            simp; omega
        rw [this]; rfl
      · have h1 := hd x (by simp)
        rcases List.mem_cons.1 hy with rfl | hy
        · omega
        · have := hs'.1 y hy; omega
/-- where the elements of a day begin -/
def Beg (s : List α) (a : Nat) : Prop := ∀ j x y, j < a → s[j]? = some x → s[a]? = some y → Day.day x < Day.day y
theorem Beg.zero (s : List α) : Beg s 0 := fun j x y h => absurd h (Nat.not_lt_zero j)
theorem beg_block {s : List α} {a : Nat} (hs : Srtd s) (hb : Beg s a) (ha : a < s.length) :
    ∃ rest, s = s.take a ++ (s.filter (fun e => decide (Day.day e = Day.day s[a])) ++ rest) ∧ (∀ y ∈ rest, Day.day s[a] < Day.day y) ∧ ∀ x ∈ s.take a, Day.day x < Day.day s[a] := by
  have h0 : ∀ x ∈ s.take a, Day.day x < Day.day s[a] := fun x hx => by
    obtain ⟨j, hj, rfl⟩ := List.getElem_of_mem hx
    rw [List.length_take] at hj
    rw [List.getElem_take]
    exact hb j _ _ (by omega) (List.getElem?_eq_getElem (by omega)) (List.getElem?_eq_getElem ha)
  have h1 : ∀ y ∈ s.drop a, Day.day s[a] ≤ Day.day y := fun y hy => by
    rw [List.drop_eq_getElem_cons ha] at hy
    rcases List.mem_cons.1 hy with rfl | hy
    · exact Int.le_refl _
    · have := srtd_drop hs a
      rw [List.drop_eq_getElem_cons ha] at this
      exact (List.pairwise_cons.1 this).1 y hy
  obtain ⟨rest, h2, h3⟩ := day_block (s.drop a) (Day.day s[a]) (srtd_drop hs a) h1
  refine ⟨rest, ?_, h3, h0⟩
  have h4 : s.filter (fun e => decide (Day.day e = Day.day s[a])) = (s.drop a).filter (fun e => decide (Day.day e = Day.day s[a])) := by
    have e : s.filter (fun e => decide (Day.day e = Day.day s[a])) = (s.take a).filter (fun e => decide (Day.day e = Day.day s[a])) ++ (s.drop a).filter (fun e => decide (Day.day e = Day.day s[a])) := by rw [← List.filter_append, List.take_append_drop]
    rw [e]
    have : (s.take a).filter (fun e => decide (Day.day e = Day.day s[a])) = [] := by
      rw [List.filter_eq_nil_iff]
      intro x hx
      have := h0 x hx
      simp; omega
    rw [this, List.nil_append]
  rw [h4, ← h2, List.take_append_drop]
/-- how many of a day stand in front -/
def cntD (l : List α) (d : Int) (i : Nat) : Nat := ((l.take i).filter fun e => decide (Day.day e = d)).length
theorem cnt_zero (l : List α) (d : Int) : cntD l d 0 = 0 := rfl
theorem cnt_skip {l : List α} {d : Int} {i : Nat} (hi : i < l.length) (h : ¬ Day.day l[i] = d) : cntD l d (i + 1) = cntD l d i := by
  rw [cntD, ← take_succ_of hi, List.filter_append]; simp [h, cntD]
theorem cnt_step {l : List α} {d : Int} {i : Nat} (hi : i < l.length) (h : Day.day l[i] = d) : cntD l d (i + 1) = cntD l d i + 1 := by
  rw [cntD, ← take_succ_of hi, List.filter_append]; simp [h, cntD]
theorem cnt_all (l : List α) (d : Int) : cntD l d l.length = (l.filter fun e => decide (Day.day e = d)).length := by rw [cntD, List.take_length]
theorem cnt_at {l : List α} {d : Int} {i : Nat} (hi : i < l.length) (h : Day.day l[i] = d) : (l.filter fun e => decide (Day.day e = d))[cntD l d i]? = some l[i] := by
  have e : l.filter (fun e => decide (Day.day e = d)) = (l.take i).filter (fun e => decide (Day.day e = d)) ++ (l.drop i).filter (fun e => decide (Day.day e = d)) := by rw [← List.filter_append, List.take_append_drop]
  rw [e, cntD, List.getElem?_append_right (Nat.le_refl _), Nat.sub_self, List.drop_eq_getElem_cons hi, List.filter_cons_of_pos (by simp [h])]
  rfl
theorem ord_at {l : List α} {a i : Nat} (hb : Beg (sortF l) a) (ha : a < (sortF l).length) (hi : i < l.length) (h : Day.day l[i] = Day.day (sortF l)[a]) : (sortF l)[a + cntD l (Day.day (sortF l)[a]) i]? = some l[i] := by
  obtain ⟨rest, h1, h2, h3⟩ := beg_block (sortF_srt l) hb ha
  have h4 := cnt_at hi h
  have hlt := (List.getElem?_eq_some_iff.1 h4).1
  rw [sortF_filter] at h1
  conv => lhs; arg 1; rw [h1]
  rw [List.getElem?_append_right (by rw [List.length_take]; omega), List.length_take, show a + cntD l (Day.day (sortF l)[a]) i - min a (sortF l).length = cntD l (Day.day (sortF l)[a]) i from by omega, List.getElem?_append_left hlt]
  exact h4
theorem ord_next {l : List α} {a : Nat} (hb : Beg (sortF l) a) (ha : a < (sortF l).length) : Beg (sortF l) (a + cntD l (Day.day (sortF l)[a]) l.length) ∧ a + cntD l (Day.day (sortF l)[a]) l.length ≤ (sortF l).length ∧ 0 < cntD l (Day.day (sortF l)[a]) l.length := by
  obtain ⟨rest, h1, h2, h3⟩ := beg_block (sortF_srt l) hb ha
  rw [sortF_filter] at h1
  rw [cnt_all]
  generalize hd : Day.day (sortF l)[a] = d at *
  generalize hf : l.filter (fun e => decide (Day.day e = d)) = f at *
  have hl : (sortF l).length = a + (f.length + rest.length) := by
    have := congrArg List.length h1
    simp only [List.length_append, List.length_take] at this
    omega
  have hfd : ∀ x ∈ f, Day.day x = d := fun x hx => by rw [← hf] at hx; simpa using (List.mem_filter.1 hx).2
  have hpos : 0 < f.length := by
    refine List.length_pos_of_mem (a := (sortF l)[a]) ?_
    rw [← hf, List.mem_filter]
    exact ⟨sortF_mem.1 (List.getElem_mem ha), by simp [hd]⟩
  refine ⟨fun j x y hj hx hy => ?_, by omega, hpos⟩
  have hy' : y ∈ rest := by
    rw [h1, ← List.append_assoc, List.getElem?_append_right (by simp only [List.length_append, List.length_take]; omega)] at hy
    exact List.mem_of_getElem? hy
  have hx' : x ∈ (sortF l).take a ++ f := by
    rw [h1, ← List.append_assoc, List.getElem?_append_left (by simp only [List.length_append, List.length_take]; omega)] at hx
    exact List.mem_of_getElem? hx
  have := h2 y hy'
  rcases List.mem_append.1 hx' with h | h
  · have := h3 x h; omega
  · have := hfd x h; omega
end
/-! running on -/
theorem go_none {c : List Kind} : ∀ (l : List Evt) (s : List Part) (i : Int), (runGo c s i l).2.2 = 0 → (runGo c s i l).2.1 = -1
  | [], _, _, _ => rfl
  | e :: r, s, i, h => by
    simp only [runGo] at h ⊢
    split at h
    · rename_i h0; rw [if_pos h0]; exact go_none r _ _ h
    · rename_i h0; exact absurd h h0
theorem go_fail {c : List Kind} : ∀ (l : List Evt) (s : List Part) (i : Int), (runGo c s i l).2.2 ≠ 0 → (runGo c s i l).1 = []
  | [], _, _, h => absurd rfl h
  | e :: r, s, i, h => by
    simp only [runGo] at h ⊢
    split at h
    · rename_i h0; rw [if_pos h0]; exact go_fail r _ _ h
    · rename_i h0; rw [if_neg h0]
theorem go_app_ok {c : List Kind} : ∀ (a b : List Evt) (s : List Part) (i : Int), (runGo c s i a).2.2 = 0 → runGo c s i (a ++ b) = runGo c (runGo c s i a).1 (i + (a.length : Nat)) b
  | [], b, s, i, _ => by simp [runGo]
  | e :: r, b, s, i, h => by
    simp only [runGo, List.cons_append] at h ⊢
    split at h
    · rename_i h0
      rw [if_pos h0, if_pos h0, go_app_ok r b _ _ h]
      congr 1
      simp only [List.length_cons]; omega
    · rename_i h0; exact absurd h h0
theorem go_app_err {c : List Kind} : ∀ (a b : List Evt) (s : List Part) (i : Int), (runGo c s i a).2.2 ≠ 0 → runGo c s i (a ++ b) = runGo c s i a
  | [], b, s, i, h => absurd rfl h
  | e :: r, b, s, i, h => by
    simp only [runGo, List.cons_append] at h ⊢
    split at h
    · rename_i h0; rw [if_pos h0, if_pos h0]; exact go_app_err r b _ _ h
    · rename_i h0; rw [if_neg h0, if_neg h0]
theorem run_none {c : List Kind} {l : List Evt} (h : (runF c l).2.2 = 0) : (runF c l).2.1 = -1 := by
  unfold runF at h ⊢
  split at h
  · cases h
  · rename_i hv; rw [if_neg hv]; exact go_none _ _ _ h
theorem run_fail {c : List Kind} {l : List Evt} (h : (runF c l).2.2 ≠ 0) : (runF c l).1 = [] := by
  unfold runF at h ⊢
  split at h
  · rename_i hv; rw [if_pos hv]
  · rename_i hv; rw [if_neg hv]; exact go_fail _ _ _ h
theorem run_valid {c : List Kind} {l : List Evt} (h : (runF c l).2.2 = 0) : validC c = true := by
  unfold runF at h
  split at h
  · cases h
  · rename_i hv; simpa using hv
theorem runF_eq {c : List Kind} (hc : validC c = true) (l : List Evt) : runF c l = runGo c [] 0 (sortF l) := by unfold runF; rw [if_neg (by simp [hc])]
/-- the course of the events up to a day, of those behind it -/
def upD (l : List Evt) (day : Int) : List Evt := l.filter fun e => !decide (e.day > day)
def laD (l : List Evt) (day : Int) : List Evt := l.filter fun e => decide (e.day > day)
theorem sort_day (l : List Evt) (day : Int) : sortF l = sortF (upD l day) ++ sortF (laD l day) := by
  have h := sortF_part l (fun e => !decide (e.day > day)) (fun x _ y _ hx hy => by
    simp only [Bool.not_eq_true', decide_eq_false_iff_not, Bool.not_eq_false', decide_eq_true_eq] at hx hy
    show x.day ≤ y.day; omega) (fun x _ y _ h => by
    have : x.day = y.day := h
    simp only [this])
  rw [h, upD, laD]
  congr 2
  apply List.filter_congr
  intro x _
  simp
theorem up_up (l : List Evt) {a b : Int} (h : a ≤ b) : upD (upD l b) a = upD l a := by
  rw [upD, upD, upD, List.filter_filter]
  apply List.filter_congr
  intro x _
  by_cases h1 : x.day > a
  · simp [h1]
  · have : ¬ x.day > b := by omega
    simp [h1, this]
theorem at_eq (c : List Kind) (l : List Evt) (day : Int) : atF11 c l day = runF c (upD l day) := rfl
theorem at_none {c : List Kind} {l : List Evt} {a : Int} (h : (atF11 c l a).2.2 = 0) : (atF11 c l a).2.1 = -1 := run_none h
theorem at_fail {c : List Kind} {l : List Evt} {a : Int} (h : (atF11 c l a).2.2 ≠ 0) : (atF11 c l a).1 = [] := run_fail h
theorem days_err {c : List Kind} {l : List Evt} {a b : Int} (hab : a ≤ b) (h : (atF11 c l a).2.2 ≠ 0) : atF11 c l b = atF11 c l a := by
  rw [at_eq, at_eq] at *
  cases hv : validC c with
  | false => simp [runF, hv]
  | true =>
    rw [runF_eq hv] at h ⊢
    rw [runF_eq hv, sort_day (upD l b) a, up_up l hab]
    exact go_app_err _ _ _ _ h
theorem run_err {c : List Kind} {l : List Evt} {a : Int} (h : (atF11 c l a).2.2 ≠ 0) : runF c l = atF11 c l a := by
  rw [at_eq] at *
  cases hv : validC c with
  | false => simp [runF, hv]
  | true =>
    rw [runF_eq hv] at h ⊢
    rw [runF_eq hv, sort_day l a]
    exact go_app_err _ _ _ _ h
theorem run_ok {c : List Kind} {l : List Evt} {a : Int} (h : (atF11 c l a).2.2 = 0) : runF c l = runGo c (atF11 c l a).1 ((upD l a).length : Nat) (sortF (laD l a)) := by
  rw [at_eq] at *
  have hv := run_valid h
  rw [runF_eq hv] at h ⊢
  rw [runF_eq hv, sort_day l a, go_app_ok _ _ _ _ h, sortF_len]
  simp
theorem at_all {c : List Kind} {l : List Evt} {b : Int} (h : ∀ e ∈ l, ¬ e.day > b) : atF11 c l b = runF c l := by
  rw [at_eq]
  congr 1
  rw [upD, List.filter_eq_self]
  intro e he
  simpa using h e he
theorem reord (l : List Evt) (day : Int) : sortF (l.filter (fun e => !decide (e.day = day)) ++ l.filter (fun e => decide (e.day = day))) = sortF l := by
  refine sortF_congr fun d => ?_
  rw [List.filter_append, List.filter_filter, List.filter_filter]
  by_cases hd : d = day
  · subst hd
    have e1 : l.filter (fun a => decide (Day.day a = d) && !decide (a.day = d)) = [] := by
      rw [List.filter_eq_nil_iff]
      intro y _
      show ¬ (decide (y.day = d) && !decide (y.day = d)) = true
      by_cases hy : y.day = d <;> simp [hy]
    have e2 : l.filter (fun a => decide (Day.day a = d) && decide (a.day = d)) = l.filter fun a => decide (Day.day a = d) := by
      apply List.filter_congr
      intro y _
      show (decide (y.day = d) && decide (y.day = d)) = decide (y.day = d)
      simp
    rw [e1, e2, List.nil_append]
  · have e1 : l.filter (fun a => decide (Day.day a = d) && !decide (a.day = day)) = l.filter fun a => decide (Day.day a = d) := by
      apply List.filter_congr
      intro y _
      show (decide (y.day = d) && !decide (y.day = day)) = decide (y.day = d)
      by_cases hy : y.day = d
      · have : ¬ y.day = day := by omega
        simp [hy, hd]
      · simp [hy]
    have e2 : l.filter (fun a => decide (Day.day a = d) && decide (a.day = day)) = [] := by
      rw [List.filter_eq_nil_iff]
      intro y _
      show ¬ (decide (y.day = d) && decide (y.day = day)) = true
      by_cases hy : y.day = d
      · simp [hy, hd]
      · simp [hy]
    rw [e1, e2, List.append_nil]
theorem run_reord (c : List Kind) (l : List Evt) (day : Int) : runF c (l.filter (fun e => !decide (e.day = day)) ++ l.filter (fun e => decide (e.day = day))) = runF c l := by
  unfold runF; rw [reord]
/-- where it stops -/
theorem go_stops {c : List Kind} : ∀ (l : List Evt) (s : List Part) (i : Int), (runGo c s i l).2.2 ≠ 0 → ∃ (k : Nat) (h : k < l.length), (runGo c s i l).2.1 = i + (k : Nat) ∧ (runGo c s i (l.take k)).2.2 = 0 ∧ (applyF c (runGo c s i (l.take k)).1 l[k]).2 = (runGo c s i l).2.2
  | [], s, i, h => absurd rfl h
  | e :: r, s, i, h => by
    simp only [runGo] at h ⊢
    split at h
    · rename_i h0
      obtain ⟨k, hk, h1, h2, h3⟩ := go_stops r _ _ h
      refine ⟨k + 1, by simp; omega, ?_, ?_, ?_⟩
      · rw [if_pos h0, h1]; push_cast; omega
      · simp only [List.take_succ_cons, runGo, if_pos h0]; exact h2
      · simp only [List.take_succ_cons, runGo, if_pos h0, List.getElem_cons_succ]; exact h3
    · rename_i h0
      refine ⟨0, by simp, ?_, rfl, ?_⟩
      · rw [if_neg h0]; simp
      · rw [if_neg h0]; rfl
theorem run_stops {c : List Kind} {l : List Evt} (hv : validC c = true) (h : (runF c l).2.2 ≠ 0) : ∃ (k : Nat) (hk : k < (sortF l).length), (runF c l).2.1 = (k : Nat) ∧ (runF c ((sortF l).take k)).2.2 = 0 ∧ (applyF c (runF c ((sortF l).take k)).1 (sortF l)[k]).2 = (runF c l).2.2 := by
  rw [runF_eq hv] at h
  obtain ⟨k, hk, h1, h2, h3⟩ := go_stops _ _ _ h
  have hs : sortF ((sortF l).take k) = (sortF l).take k := sortF_self (srtd_take (sortF_srt l) k)
  refine ⟨k, hk, ?_, ?_, ?_⟩
  · rw [runF_eq hv, h1]; simp
  · rw [runF_eq hv, hs]; exact h2
  · rw [runF_eq hv, runF_eq hv, hs]; exact h3
/-! what a loop gathers -/
theorem laD_nil (l : List Evt) (day : Int) : laD (l.take 0) day = [] := rfl
theorem laD_yes {l : List Evt} {i : Nat} {day : Int} (hi : i < l.length) (h : l[i].day > day) : laD (l.take (i + 1)) day = laD (l.take i) day ++ [l[i]] := by
  rw [← take_succ_of hi, laD, List.filter_append]; simp [h, laD]
theorem laD_no {l : List Evt} {i : Nat} {day : Int} (hi : i < l.length) (h : ¬ l[i].day > day) : laD (l.take (i + 1)) day = laD (l.take i) day := by
  rw [← take_succ_of hi, laD, List.filter_append]; simp [h, laD]
theorem upD_yes {l : List Evt} {i : Nat} {day : Int} (hi : i < l.length) (h : ¬ l[i].day > day) : (upD (l.take (i + 1)) day).length = (upD (l.take i) day).length + 1 := by
  rw [← take_succ_of hi, upD, List.filter_append]; simp [h, upD]
theorem upD_no {l : List Evt} {i : Nat} {day : Int} (hi : i < l.length) (h : l[i].day > day) : (upD (l.take (i + 1)) day).length = (upD (l.take i) day).length := by
  rw [← take_succ_of hi, upD, List.filter_append]; simp [h, upD]
theorem laD_len (l : List Evt) (day : Int) (i : Nat) : (laD (l.take i) day).length ≤ i := Nat.le_trans (List.length_filter_le _ _) (List.length_take_le _ _)
theorem upD_len (l : List Evt) (day : Int) (i : Nat) : (upD (l.take i) day).length ≤ i := Nat.le_trans (List.length_filter_le _ _) (List.length_take_le _ _)
def eqD (l : List Evt) (day : Int) : List Evt := l.filter fun e => decide (e.day = day)
def neD (l : List Evt) (day : Int) : List Evt := l.filter fun e => !decide (e.day = day)
theorem eqD_yes {l : List Evt} {i : Nat} {day : Int} (hi : i < l.length) (h : l[i].day = day) : eqD (l.take (i + 1)) day = eqD (l.take i) day ++ [l[i]] := by
  rw [← take_succ_of hi, eqD, List.filter_append]; simp [h, eqD]
theorem eqD_no {l : List Evt} {i : Nat} {day : Int} (hi : i < l.length) (h : ¬ l[i].day = day) : eqD (l.take (i + 1)) day = eqD (l.take i) day := by
  rw [← take_succ_of hi, eqD, List.filter_append]; simp [h, eqD]
theorem neD_yes {l : List Evt} {i : Nat} {day : Int} (hi : i < l.length) (h : ¬ l[i].day = day) : neD (l.take (i + 1)) day = neD (l.take i) day ++ [l[i]] := by
  rw [← take_succ_of hi, neD, List.filter_append]; simp [h, neD]
theorem neD_no {l : List Evt} {i : Nat} {day : Int} (hi : i < l.length) (h : l[i].day = day) : neD (l.take (i + 1)) day = neD (l.take i) day := by
  rw [← take_succ_of hi, neD, List.filter_append]; simp [h, neD]
theorem eqD_len (l : List Evt) (day : Int) (i : Nat) : (eqD (l.take i) day).length ≤ i := Nat.le_trans (List.length_filter_le _ _) (List.length_take_le _ _)
theorem neD_len (l : List Evt) (day : Int) (i : Nat) : (neD (l.take i) day).length ≤ i := Nat.le_trans (List.length_filter_le _ _) (List.length_take_le _ _)
theorem evCh_snoc (l : List Evt) (e : Evt) : (evCh (l ++ [e])).flatten = (evCh l).flatten ++ e.cells := by
  simp [evCh, List.map_append]; rfl
theorem evCh_app (l m : List Evt) : (evCh (l ++ m)).flatten = (evCh l).flatten ++ (evCh m).flatten := by simp [evCh]
theorem go_sm {c : List Kind} : ∀ (l : List Evt) (s : List Part) (i : Int), SmF s → (∀ e ∈ l, SmE e) → SmF (runGo c s i l).1
  | [], _, _, h, _ => h
  | e :: r, s, i, h, he => by
    simp only [runGo]
    split
    · exact go_sm r _ _ (applyF_sm h (he e (by simp))) (fun x hx => he x (by simp [hx]))
    · exact SmF.nil
theorem run_sm {c : List Kind} {l : List Evt} (he : ∀ e ∈ l, SmE e) : SmF (runF c l).1 := by
  unfold runF
  split
  · exact SmF.nil
  · exact go_sm _ _ _ SmF.nil fun e h => he e (sortF_mem.1 h)
/-! both catalogs -/
theorem name_same (s : ByteArray) : nameOk s = nameRef s := by
  rw [Bool.eq_iff_iff]
  simp only [nameOk, nameRef, Bool.and_eq_true, Bool.not_eq_true', decide_eq_false_iff_not, decide_eq_true_eq, charsTo, wordsTo, List.all_eq_true, List.mem_range, nameChar, isWord, Bool.or_eq_true]
  have he : s = ⟨#[]⟩ ↔ s.size = 0 := by
    constructor
    · rintro rfl; rfl
    · intro h
      cases s with | mk d => congr 1; exact Array.eq_empty_of_size_eq_zero h
  constructor
  · rintro ⟨h1, h2, h3⟩
    have hp : 0 < s.size := by rcases Nat.eq_zero_or_pos s.size with h | h; · exact absurd (he.2 h) h2
                               · exact h
    refine ⟨fun i hi => ?_, ⟨by omega, h3⟩, ?_⟩
    · rcases h1 i hi with h | ⟨_, h | h⟩
      · exact .inl (.inl h)
      · exact .inl (.inr h)
      · exact .inr h
    · rcases h1 0 hp with h | ⟨h, _⟩
      · exact h
      · exact absurd rfl h
  · rintro ⟨h1, ⟨h2, h3⟩, h4⟩
    refine ⟨fun i hi => ?_, fun h => by have := he.1 h; omega, h3⟩
    by_cases h0 : i = 0
    · subst h0; exact .inl h4
    · rcases h1 i hi with (h | h) | h
      · exact .inl h
      · exact .inr ⟨h0, .inl h⟩
      · exact .inr ⟨h0, .inr h⟩
theorem hit_id (ks : List ByteArray) (n : ByteArray) : hit id ks n = decide (n ∈ ks) := by
  rw [hit_eq, Bool.eq_iff_iff, List.any_eq_true, decide_eq_true_eq]
  constructor
  · rintro ⟨x, hx, he⟩; obtain rfl : x = n := by simpa using he
    exact hx
  · intro h; exact ⟨n, h, by simp⟩
theorem hit_map {α : Type} (nm : α → ByteArray) (l : List α) (s : ByteArray) : hit nm l s = decide (s ∈ l.map nm) := by
  rw [hit_eq, Bool.eq_iff_iff, List.any_eq_true, decide_eq_true_eq, List.mem_map]
  constructor
  · rintro ⟨x, hx, he⟩; exact ⟨x, hx, by simpa using he⟩
  · rintro ⟨x, hx, he⟩; exact ⟨x, hx, by simp [he]⟩
theorem kindIn_same (pre : List Kind) (ks : List ByteArray) (n : ByteArray) : kindIn pre ks n = kindInR pre ks n := by
  unfold kindIn kindInR
  rw [hit_id]
  have h : hitV Kind.name (fun k => !k.vehicle) pre n = ((findK pre n).isSome && !((findK pre n).getD zKind).vehicle) := by
    unfold hitV findK
    cases pre.find? fun k => decide (k.name = n) <;> rfl
  rw [h]
  cases decide (n ∈ ks) <;> cases (findK pre n).isSome <;> cases ((findK pre n).getD zKind).vehicle <;> rfl
theorem slotFine_same (pre : List Kind) (sl : List Slot) (s : Slot) : slotFine pre sl s = slotFineR pre sl s := by
  unfold slotFine slotFineR slotR
  rw [hit_map, name_same, show kindIn pre = kindInR pre from funext fun ks => funext fun n => kindIn_same pre ks n]
  cases decide (s.name ∈ sl.map Slot.name) <;> cases nameRef s.name <;> cases decide (s.normal < 1) <;> cases decide ((s.kinds.length : Int) < s.normal) <;> cases allP (kindInR pre) s.kinds s.kinds.length <;> rfl
theorem kindFine_same (pre : List Kind) (k : Kind) : kindFine pre k = kindFineR pre k := by
  unfold kindFine kindFineR
  rw [name_same, show slotFine pre = slotFineR pre from funext fun sl => funext fun s => slotFine_same pre sl s]
  rfl
theorem valid_same (c : List Kind) : validC c = validR c := by
  unfold validC validR
  rw [show kindFine = kindFineR from funext fun pre => funext fun k => kindFine_same pre k, Bool.and_comm]
  congr 1
  rw [Bool.eq_iff_iff]
  simp
end Go.Sx
