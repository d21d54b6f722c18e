/- The events that are picked, without the reports' places. -/
import Derived.Test.YtkmdojpfccjnoaaGreatMHF
set_option linter.all false
namespace Go.Sx
open Go
/-- the events that are picked before a day -/
def pickE (day : Int) (l : List Rep) (ch : List Int) : List Evt := (l.zip ch).filterMap fun p => optAt day p.1 p.2
theorem pickE_take (day : Int) (l : List Rep) (ch : List Int) (hl : ch.length = l.length) (hv : ∀ r ∈ l, validRep r = true) : ∀ n, n ≤ l.length → (pickF day l ch n).map Pkd.e = ((l.zip ch).take n).filterMap fun p => optAt day p.1 p.2 := by
  intro n
  induction n with
  | zero => intro _; rfl
  | succ n ih =>
    intro hn
    have h1 : n < l.length := by omega
    have h2 : n < ch.length := by omega
    have h3 : n < (l.zip ch).length := by simp; omega
    rw [pick_succ, List.map_append, ih (by omega), ← take_succ_of h3, List.filterMap_append]
    congr 1
    have e : (l.zip ch)[n] = (l[n], ch[n]) := by simp
    rw [e, pkd, at2_eq h1 h2]
    cases hq : optAt day l[n] ch[n] with
    | none => simp [hq]
    | some x =>
      have hd := validE_day (validRep_e (hv _ (List.getElem_mem h1)) x (opt_some hq))
      simp [hq, hd]
theorem pickE_eq {day : Int} {l : List Rep} {ch : List Int} (hl : ch.length = l.length) (hv : ∀ r ∈ l, validRep r = true) : (pickF day l ch l.length).map Pkd.e = pickE day l ch := by
  rw [pickE_take day l ch hl hv l.length (Nat.le_refl _), pickE, List.take_of_length_le (by simp; omega)]
/-- whether it is possible depends on the events alone -/
theorem follow_ev {c : List Kind} {l : List Rep} {ch : List Int} {day : Int} (hl : ch.length = l.length) (hv : ∀ r ∈ l, validRep r = true) : decide ((followF c l ch day).2 = 0) = (runsTo c [] (sortF (pickE day l ch))).isSome := by
  rw [followF, follow_ok, sortF_map Pkd.e (fun _ => rfl), pickE_eq hl hv]
/-- without the element at an index -/
def cutAt {α : Type} (l : List α) (k : Nat) : List α := l.take k ++ l.drop (k + 1)
theorem cutAt_len {α : Type} {l : List α} {k : Nat} (h : k < l.length) : (cutAt l k).length + 1 = l.length := by
  simp only [cutAt, List.length_append, List.length_take, List.length_drop]; omega
theorem cutAt_mem {α : Type} {l : List α} {k : Nat} {x : α} (h : x ∈ cutAt l k) : x ∈ l := by
  rcases List.mem_append.1 h with h | h
  · exact List.mem_of_mem_take h
  · exact List.mem_of_mem_drop h
theorem cut_whole {α : Type} {l : List α} {k : Nat} (h : k < l.length) : l = l.take k ++ l[k] :: l.drop (k + 1) := by
  rw [← List.drop_eq_getElem_cons h, List.take_append_drop]
theorem zip_cut {day : Int} {l : List Rep} {ch : List Int} {k : Nat} (hl : ch.length = l.length) (h1 : k < l.length) (h2 : k < ch.length) (h : optAt day l[k] ch[k] = none) : pickE day (cutAt l k) (cutAt ch k) = pickE day l ch := by
  have e1 : (l.take k).length = (ch.take k).length := by simp; omega
  conv => rhs; rw [cut_whole h1, cut_whole h2]
  unfold pickE cutAt
  rw [List.zip_append e1, List.zip_append e1, List.filterMap_append, List.filterMap_append, List.zip_cons_cons, List.filterMap_cons, h]
theorem allTo_zip {f : Rep → Int → Bool} {l : List Rep} {ch : List Int} (hl : ch.length = l.length) : allTo f l ch l.length = (l.zip ch).all fun p => f p.1 p.2 := by
  rw [Bool.eq_iff_iff, List.all_eq_true]
  constructor
  · intro h p hp
    obtain ⟨i, hi, rfl⟩ := List.getElem_of_mem hp
    have hi' : i < l.length := by simp at hi; omega
    have := allTo_at h hi' hi' (by omega)
    simpa using this
  · intro h
    refine allTo_of (fun i h1 h2 => ?_) hl
    have h3 : i < (l.zip ch).length := by simp; omega
    have := h _ (List.getElem_mem h3)
    simpa using this
theorem all_cut {f : Rep → Int → Bool} {l : List Rep} {ch : List Int} {k : Nat} (hl : ch.length = l.length) (h1 : k < l.length) (h2 : k < ch.length) (h : f l[k] ch[k] = true) : ((cutAt l k).zip (cutAt ch k)).all (fun p => f p.1 p.2) = (l.zip ch).all fun p => f p.1 p.2 := by
  have e1 : (l.take k).length = (ch.take k).length := by simp; omega
  conv => rhs; rw [cut_whole h1, cut_whole h2]
  unfold cutAt
  rw [List.zip_append e1, List.zip_append e1, List.all_append, List.all_append, List.zip_cons_cons, List.all_cons, h, Bool.true_and]
theorem given_cut {c : List Kind} {l : List Rep} {ch : List Int} {k : Nat} {n : Int} (hl : ch.length = l.length) (h1 : k < l.length) (h2 : k < ch.length) (h : chFine n l[k] ch[k] = true) : givenF c (cutAt l k) (cutAt ch k) n = givenF c l ch n := by
  have e1 := cutAt_len h1
  have e2 := cutAt_len h2
  have e3 : (cutAt ch k).length = (cutAt l k).length := by omega
  simp only [givenF]
  rw [allTo_zip e3, allTo_zip hl, all_cut hl h1 h2 h]
  simp [hl, e3]
theorem open_take (l : List Rep) (ch : List Int) (hl : ch.length = l.length) : ∀ n, n ≤ l.length → openDays l ch n = ((l.zip ch).take n).flatMap fun p => if p.2 < 0 then p.1.options.map Evt.day else [] := by
  intro n
  induction n with
  | zero => intro _; rfl
  | succ n ih =>
    intro hn
    have h1 : n < l.length := by omega
    have h2 : n < ch.length := by omega
    have h3 : n < (l.zip ch).length := by simp; omega
    rw [open_succ, ih (by omega), ← take_succ_of h3, List.flatMap_append]
    congr 1
    have e : (l.zip ch)[n] = (l[n], ch[n]) := by simp
    rw [e, at2_eq h1 h2]
    simp
theorem open_zip {l : List Rep} {ch : List Int} (hl : ch.length = l.length) : openDays l ch l.length = (l.zip ch).flatMap fun p => if p.2 < 0 then p.1.options.map Evt.day else [] := by
  rw [open_take l ch hl l.length (Nat.le_refl _), List.take_of_length_le (by simp; omega)]
theorem open_cut {l : List Rep} {ch : List Int} {k : Nat} (hl : ch.length = l.length) (h1 : k < l.length) (h2 : k < ch.length) (h : ¬ ch[k] < 0) : openDays (cutAt l k) (cutAt ch k) (cutAt l k).length = openDays l ch l.length := by
  have e1 := cutAt_len h1
  have e2 := cutAt_len h2
  have e3 : (l.take k).length = (ch.take k).length := by simp; omega
  rw [open_zip (by omega), open_zip hl]
  conv => rhs; rw [cut_whole h1, cut_whole h2]
  unfold cutAt
  rw [List.zip_append e3, List.zip_append e3, List.flatMap_append, List.flatMap_append, List.zip_cons_cons, List.flatMap_cons, if_neg h, List.nil_append]
theorem is_ev {c : List Kind} {l : List Rep} {ch : List Int} (hg : givenF c l ch 0 = true) : isF c l ch = (runsTo c [] (sortF (pickE 40001 l ch))).isSome := by
  obtain ⟨hl, hv⟩ := given_all hg
  rw [isF, failsF, if_neg (by rw [hg]; decide), follow_ev hl hv]
theorem is_no {c : List Kind} {l : List Rep} {ch : List Int} (hg : givenF c l ch 0 = false) : isF c l ch = false := by
  rw [isF, failsF, if_pos hg]; rfl
theorem is_cut {c : List Kind} {l : List Rep} {ch : List Int} {k : Nat} (hl : ch.length = l.length) (h1 : k < l.length) (h2 : k < ch.length) (hf : chFine 0 l[k] ch[k] = true) (hn : ∀ day, optAt day l[k] ch[k] = none) : isF c (cutAt l k) (cutAt ch k) = isF c l ch := by
  have e := given_cut (c := c) hl h1 h2 hf
  cases hg : givenF c l ch 0 with
  | false => rw [is_no hg, is_no (by rw [e, hg])]
  | true => rw [is_ev hg, is_ev (by rw [e, hg]), zip_cut hl h1 h2 (hn _)]
theorem false_cut {c : List Kind} {l : List Rep} {ch : List Int} {k : Nat} (hl : ch.length = l.length) (h1 : k < l.length) (h2 : k < ch.length) (hf : chFine (-1) l[k] ch[k] = true) (h0 : ¬ ch[k] < 0) (hn : ∀ day, optAt day l[k] ch[k] = none) : falseF c (cutAt l k) (cutAt ch k) = falseF c l ch := by
  have e := given_cut (c := c) hl h1 h2 hf
  cases hg : givenF c l ch (-1) with
  | false =>
    have hg2f : givenF c (cutAt l k) (cutAt ch k) (-1) = false := by rw [e, hg]
    rw [falseF, falseF, if_pos hg2f, if_pos hg]
  | true =>
    obtain ⟨_, hv⟩ := given_all hg
    have hg2 : givenF c (cutAt l k) (cutAt ch k) (-1) = true := by rw [e, hg]
    obtain ⟨hl2, hv2⟩ := given_all hg2
    rw [falseF, falseF, if_neg (by rw [hg2]; decide), if_neg (by rw [hg]; decide), open_cut hl h1 h2 h0, follow_ev hl hv, follow_ev hl2 hv2, zip_cut hl h1 h2 (hn _)]
theorem sort_swap {α : Type} [Day α] (A B : List α) (x y : α) (h : Day.day x ≠ Day.day y) : sortF (A ++ y :: x :: B) = sortF (A ++ x :: y :: B) := by
  refine sortF_is ⟨?_, fun d => ?_⟩ (sortF_srt _)
  · rw [sortF_len]; simp
  · rw [sortF_filter, List.filter_append, List.filter_append]
    congr 1
    simp only [List.filter_cons]
    by_cases hx : Day.day x = d
    · have hy : ¬ Day.day y = d := fun e => h (hx.trans e.symm)
      simp [hx, hy]
    · simp [hx]
/-! the law -/
theorem none_opt (r : Rep) (day : Int) : optAt day r ((r.options.length : Nat) : Int) = none := by
  unfold optAt
  rw [if_pos (by omega), Int.toNat_natCast, List.getElem?_eq_none (Nat.le_refl _)]
theorem none_fine {r : Rep} (hv : validRep r = true) (hd : r.doubtful = true) {n : Int} (hn : n ≤ 0) : chFine n r ((r.options.length : Nat) : Int) = true := by
  simp only [chFine, chs, hv, hd, Bool.true_eq_false, if_true, if_false, Bool.not_eq_true', Bool.or_eq_false_iff, decide_eq_false_iff_not]
  omega
theorem law_none_is {c : List Kind} {l : List Rep} {ch : List Int} {k : Nat} (hl : ch.length = l.length) (h1 : k < l.length) (h2 : k < ch.length) (hv : validRep l[k] = true) (hd : l[k].doubtful = true) (he : ch[k] = ((l[k].options.length : Nat) : Int)) :
    (isF c l ch == isF c (cutAt l k) (cutAt ch k)) = true := by
  rw [is_cut hl h1 h2 (by rw [he]; exact none_fine hv hd (by omega)) (fun day => by rw [he]; exact none_opt _ _)]; simp
theorem law_none_false {c : List Kind} {l : List Rep} {ch : List Int} {k : Nat} (hl : ch.length = l.length) (h1 : k < l.length) (h2 : k < ch.length) (hv : validRep l[k] = true) (hd : l[k].doubtful = true) (he : ch[k] = ((l[k].options.length : Nat) : Int)) :
    (falseF c l ch == falseF c (cutAt l k) (cutAt ch k)) = true := by
  rw [false_cut hl h1 h2 (by rw [he]; exact none_fine hv hd (by omega)) (by rw [he]; omega) (fun day => by rw [he]; exact none_opt _ _)]; simp
end Go.Sx
