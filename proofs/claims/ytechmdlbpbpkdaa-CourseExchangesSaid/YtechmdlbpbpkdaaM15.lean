/- The course with two events exchanged. -/
import Derived.Test.YtechmdlbpbpkdaaMVal
import Derived.Test.YtechmdlbpbpkdaaM14
set_option linter.all false
namespace Go.Sx
open Go
theorem names_of {e : Evt} (hv : validE e = true) (s : ByteArray) : s ∈ namesE e ↔ s ∈ mentions e := by
  unfold namesE mentions
  rw [if_neg (by simp [hv])]
  split
  · unfold minS maxS
    cases h1 : sLt e.part e.into with
    | true => simp
    | false =>
      by_cases h2 : e.part = e.into
      · rw [h2]; simp
      · simp [h2]
        constructor
        · rintro (h | h)
          · exact .inr h
          · exact .inl h
        · rintro (h | h)
          · exact .inr h
          · exact .inl h
  · rfl
theorem go_ok_valid {c : List Kind} {s : List Part} {e : Evt} (h : (applyF c s e).2 = 0) : validE e = true := by
  obtain ⟨_, hs⟩ := of_apply h
  exact hs.ve
theorem go_swap {c : List Kind} {a b : List Evt} {x y : Evt} {s : List Part} {i : Int} (h : (runGo c s i (a ++ x :: y :: b)).2.2 = 0) (h3 : x.op ≠ 3) (h3' : y.op ≠ 3) (hd : ∀ z ∈ namesE x, z ∉ namesE y) :
    runGo c s i (a ++ y :: x :: b) = runGo c s i (a ++ x :: y :: b) := by
  have h0 : (runGo c s i a).2.2 = 0 := by
    by_cases h0 : (runGo c s i a).2.2 = 0
    · exact h0
    · rw [go_app_err a _ s i h0] at h; exact absurd h h0
  rw [go_app_ok a _ s i h0] at h ⊢
  rw [go_app_ok a _ s i h0]
  generalize (runGo c s i a).1 = st at *
  generalize i + (a.length : Nat) = k at *
  simp only [runGo] at h ⊢
  split at h
  · rename_i hx
    split at h
    · rename_i hy
      have hd' : ∀ z ∈ mentions x, z ∉ mentions y := fun z hz hz' => hd z ((names_of (go_ok_valid hx) z).2 hz) ((names_of (go_ok_valid hy) z).2 hz')
      obtain ⟨e1, e2, e3⟩ := apply_swap hx hy h3 h3' hd'
      rw [if_pos e1, if_pos e2, e3, if_pos hx, if_pos hy]
    · rename_i hy; exact absurd h hy
  · rename_i hx; exact absurd h hx
theorem list_at2 (m : List Evt) {k : Nat} (hk : k + 1 < m.length) : m = m.take k ++ m[k] :: m[k + 1] :: m.drop (k + 2) := by
  have := split2 m hk
  simpa using this
theorem swp_at2 (m : List Evt) {k : Nat} (hk : k + 1 < m.length) : swp m (k + 1) k = m.take k ++ m[k + 1] :: m[k] :: m.drop (k + 2) := by
  have := swp_adj m hk
  simpa using this
theorem exchange {c : List Kind} {l : List Evt} {k : Nat} (h : (runF c l).2.2 = 0) (hk : k + 1 < (sortF l).length) (hd : (sortF l)[k].day = (sortF l)[k + 1].day) (h3 : (sortF l)[k].op ≠ 3) (h3' : (sortF l)[k + 1].op ≠ 3)
    (hn : ∀ z ∈ namesE (sortF l)[k], z ∉ namesE (sortF l)[k + 1]) : runF c (swp (sortF l) (k + 1) k) = runF c l := by
  have hv := run_valid h
  have e1 := list_at2 (sortF l) hk
  have e2 := swp_at2 (sortF l) hk
  have hs : sortF (swp (sortF l) (k + 1) k) = swp (sortF l) (k + 1) k := by
    apply sortF_self
    have h1 := sortF_srt l
    unfold Srtd at h1 ⊢
    rw [e1] at h1
    rw [e2]
    rw [List.pairwise_append, List.pairwise_cons, List.pairwise_cons] at h1 ⊢
    obtain ⟨a1, ⟨a2, a3, a4⟩, a5⟩ := h1
    have hday : Day.day (sortF l)[k] = Day.day (sortF l)[k + 1] := hd
    refine ⟨a1, ⟨fun z hz => ?_, fun z hz => ?_, a4⟩, fun z hz w hw => ?_⟩
    · rcases List.mem_cons.1 hz with rfl | hz
      · exact Int.le_of_eq hday.symm
      · exact a3 z hz
    · exact a2 z (List.mem_cons_of_mem _ hz)
    · refine a5 z hz w ?_
      simp only [List.mem_cons] at hw ⊢
      rcases hw with h | h | h
      · exact .inr (.inl h)
      · exact .inl h
      · exact .inr (.inr h)
  rw [runF_eq hv] at h
  rw [runF_eq hv, runF_eq hv, hs, e2]
  conv => rhs; rw [e1]
  rw [e1] at h
  exact go_swap h h3 h3' hn
theorem swp_sub {l : List Evt} {i j : Nat} {x : Evt} (h : x ∈ swp l i j) : x ∈ l := by
  unfold swp at h
  split at h
  · rename_i a b ha hb
    rcases List.mem_or_eq_of_mem_set h with h | rfl
    · rcases List.mem_or_eq_of_mem_set h with h | rfl
      · exact h
      · exact List.mem_of_getElem? hb
    · exact List.mem_of_getElem? ha
  · exact h
theorem swp_rest2 {l : List Evt} {k : Nat} {rest : List (List Value)} (hk : k + 1 < l.length) : ((evCh l ++ rest).set k (Day.ch l[k + 1])).set (k + 1) (Day.ch l[k]) = evCh (swp l (k + 1) k) ++ rest := by
  rw [evCh_set' _ _ _ (by omega), evCh_set' _ _ _ (by simpa using hk), swp_eq hk (by omega), List.set_comm _ _ (by omega)]
theorem swp_rest2' {l : List Evt} {k : Nat} {rest : List (List Value)} (hk : k + 1 < l.length) : ((evCh l ++ rest).set (k + 1) (Day.ch l[k])).set k (Day.ch l[k + 1]) = evCh (swp l (k + 1) k) ++ rest := by
  rw [evCh_set' _ _ _ hk, evCh_set' _ _ _ (by simp; omega), swp_eq hk (by omega)]
end Go.Sx
