/- What a valid state is, part by part; an event that happens keeps it. -/
import Derived.Test.YtechmdlbpbpkdaaMPut
set_option linter.all false
namespace Go.Sx
open Go
theorem allP_iff {α : Type} {f : List α → α → Bool} {l : List α} : allP f l l.length = true ↔ ∀ (i : Nat) (h : i < l.length), f (l.take i) l[i] = true := by
  rw [allP, List.all_eq_true]
  constructor
  · intro h i hi
    have := h i (List.mem_range.2 hi)
    simpa only [List.getElem?_eq_getElem hi] using this
  · intro h i hi
    have hi := List.mem_range.1 hi
    simp only [List.getElem?_eq_getElem hi]
    exact h i hi
theorem allP_all {α : Type} {f : α → Bool} {l : List α} : allP (fun _ x => f x) l l.length = true ↔ ∀ x ∈ l, f x = true := by
  rw [allP_iff]
  constructor
  · intro h x hx; obtain ⟨i, hi, rfl⟩ := List.getElem_of_mem hx; exact h i hi
  · intro h i hi; exact h _ (List.getElem_mem hi)
theorem ord_iff {α : Type} {nm : α → ByteArray} {l : List α} : ordF nm l = true ↔ Inc nm l := by
  constructor
  · exact fun h => inc_of (Srt.of_ord h)
  · intro h
    unfold ordF
    rw [allP_iff]
    intro i hi
    unfold ordAt
    cases i with
    | zero => simp
    | succ i =>
      have : (l.take (i + 1)).getLast? = some l[i] := by
        rw [List.getLast?_eq_getElem?, List.length_take, Nat.min_eq_left (by omega), List.getElem?_take, if_pos (by omega)]
        simp
      rw [this]
      exact (List.pairwise_iff_getElem.1 h) i (i + 1) (by omega) hi (by omega)
/-- a part in its place -/
structure Sits (c : List Kind) (st : List Part) (p : Part) : Prop where
  alive : p.scrapped = false
  host : ∃ q, q ∈ st ∧ q.name = p.into ∧ q.scrapped = false ∧ takesF c q.kind p.slot p.kind = true
structure VS (c : List Kind) (st : List Part) : Prop where
  cat : validC c = true
  len : st.length ≤ 20000
  inc : Inc Part.name st
  right : ∀ p ∈ st, rightP c p = true
  both : ∀ p ∈ st, (p.into = nil8 ↔ p.slot = nil8)
  sits : ∀ p ∈ st, p.into ≠ nil8 → Sits c st p
  apart : ∀ p ∈ st, ∀ q ∈ st, p.into ≠ nil8 → p.into = q.into → p.slot = q.slot → p = q
theorem seated_hit {pre : List Part} {x : ByteArray × ByteArray} : hit seatOf (seated pre) x = true ↔ ∃ q ∈ pre, q.into ≠ nil8 ∧ seatOf q = x := by
  rw [hit_eq, List.any_eq_true]
  constructor
  · rintro ⟨q, hq, he⟩
    rw [seated, List.mem_filter] at hq
    exact ⟨q, hq.1, by simpa using hq.2, by simpa using he⟩
  · rintro ⟨q, h1, h2, h3⟩
    exact ⟨q, by rw [seated, List.mem_filter]; exact ⟨h1, by simpa using h2⟩, by simpa using h3⟩
theorem inc_idx {l : List Part} (h : Inc Part.name l) {i j : Nat} {hi : i < l.length} {hj : j < l.length} (he : l[i] = l[j]) : i = j := by
  rw [Inc, List.pairwise_iff_getElem] at h
  rcases Nat.lt_trichotomy i j with hij | hij | hij
  · have := h i j hi hj hij; rw [he, sLt_irrefl] at this; cases this
  · exact hij
  · have := h j i hj hi hij; rw [he, sLt_irrefl] at this; cases this
theorem validS_iff {c : List Kind} {st : List Part} : validS c st = true ↔ VS c st := by
  unfold validS bad0S
  simp only [Bool.and_eq_true, Bool.not_eq_true', Bool.or_eq_false_iff, Bool.not_eq_false', decide_eq_false_iff_not]
  rw [ord_iff, allP_iff]
  constructor
  · rintro ⟨⟨⟨h1, h2⟩, h3⟩, h4⟩
    have key : ∀ (i : Nat) (hi : i < st.length), rightP c st[i] = true ∧ (st[i].into = nil8 ↔ st[i].slot = nil8) ∧ (st[i].into ≠ nil8 → Sits c st st[i] ∧ ∀ q ∈ st.take i, q.into ≠ nil8 → seatOf q ≠ seatOf st[i]) := by
      intro i hi
      have h5 := h4 i hi
      simp only [partFine, bad1P, Bool.and_eq_true, Bool.not_eq_true', Bool.or_eq_false_iff, Bool.not_eq_false', Bool.or_eq_true, decide_eq_true_eq] at h5
      obtain ⟨⟨h6, h7⟩, h8⟩ := h5
      refine ⟨h6, ?_, fun hne => ?_⟩
      · have h7 : decide (st[i].into = nil8) = decide (st[i].slot = nil8) := by simpa using h7
        by_cases ha : st[i].into = nil8 <;> by_cases hb : st[i].slot = nil8 <;> simp [ha, hb] at h7 ⊢
      · rcases h8 with h8 | h8
        · exact absurd h8 hne
        · simp only [bad2P, Bool.or_eq_false_iff, Bool.not_eq_false'] at h8
          obtain ⟨⟨⟨⟨h9, h10⟩, h11⟩, h12⟩, h13⟩ := h8
          obtain ⟨q, hq⟩ := Option.isSome_iff_exists.1 h9
          rw [hq] at h11 h13
          have hq' := (find_iff h3).1 hq
          refine ⟨⟨h10, q, hq'.1, hq'.2, h11, h13⟩, fun q' hq' hn he => ?_⟩
          have : hit seatOf (seated (st.take i)) (seatOf st[i]) = true := seated_hit.2 ⟨q', hq', hn, he⟩
          rw [h12] at this; cases this
    refine ⟨h1, by omega, h3, fun p hp => ?_, fun p hp => ?_, fun p hp => ?_, fun p hp q hq hn he hs => ?_⟩
    · obtain ⟨i, hi, rfl⟩ := List.getElem_of_mem hp; exact (key i hi).1
    · obtain ⟨i, hi, rfl⟩ := List.getElem_of_mem hp; exact (key i hi).2.1
    · obtain ⟨i, hi, rfl⟩ := List.getElem_of_mem hp; exact fun h => ((key i hi).2.2 h).1
    · obtain ⟨i, hi, rfl⟩ := List.getElem_of_mem hp
      obtain ⟨j, hj, rfl⟩ := List.getElem_of_mem hq
      have hse : seatOf st[i] = seatOf st[j] := by simp [seatOf, he, hs]
      rcases Nat.lt_trichotomy i j with hij | rfl | hij
      · exact absurd hse (((key j hj).2.2 (by rw [← he]; exact hn)).2 st[i] (by rw [List.mem_iff_getElem?]; exact ⟨i, by rw [List.getElem?_take, if_pos hij]; simp⟩) hn)
      · rfl
      · exact absurd hse.symm (((key i hi).2.2 hn).2 st[j] (by rw [List.mem_iff_getElem?]; exact ⟨j, by rw [List.getElem?_take, if_pos hij]; simp⟩) (by rw [← he]; exact hn))
  · intro h
    refine ⟨⟨⟨h.cat, by have := h.len; omega⟩, h.inc⟩, fun i hi => ?_⟩
    have hm := List.getElem_mem hi
    have hb := h.both _ hm
    simp only [partFine, bad1P, Bool.and_eq_true, Bool.not_eq_true', Bool.or_eq_false_iff, Bool.not_eq_false', Bool.or_eq_true, decide_eq_true_eq]
    refine ⟨⟨h.right _ hm, ?_⟩, ?_⟩
    · by_cases ha : st[i].into = nil8
      · simp [ha, hb.1 ha]
      · have : ¬ st[i].slot = nil8 := fun hs => ha (hb.2 hs)
        simp [ha, this]
    · by_cases ha : st[i].into = nil8
      · exact .inl ha
      · right
        obtain ⟨h1, q, h2, h3, h4, h5⟩ := h.sits _ hm ha
        have hf : findP st st[i].into = some q := (find_iff h.inc).2 ⟨h2, h3⟩
        simp only [bad2P, Bool.or_eq_false_iff, Bool.not_eq_false']
        rw [hf]
        refine ⟨⟨⟨⟨rfl, h1⟩, h4⟩, ?_⟩, h5⟩
        rw [Bool.eq_false_iff]
        intro hh
        obtain ⟨q', h6, h7, h8⟩ := seated_hit.1 hh
        have h9 : q' ∈ st := List.mem_of_mem_take h6
        have h10 : q' = st[i] := h.apart _ h9 _ hm h7 (congrArg (·.1) h8) (congrArg (·.2) h8)
        obtain ⟨j, hj, hje⟩ := List.getElem_of_mem h6
        rw [List.length_take] at hj
        rw [List.getElem_take, h10] at hje
        have := inc_idx h.inc hje
        omega
/-! what an event does -/
/-- the part that an event leaves behind, if it is possible -/
structure Step (c : List Kind) (st : List Part) (e : Evt) (p' : Part) : Prop where
  vs : VS c st
  ve : validE e = true
  how : (e.op = 1 ∧ findP st e.part = none ∧ (findK c e.kind).isSome = true ∧ st.length ≠ 20000 ∧ p' = newP e) ∨
    ∃ p, findP st e.part = some p ∧ p.scrapped = false ∧
      ((e.op = 2 ∧ ∃ q, findP st e.into = some q ∧ q.scrapped = false ∧ ((findK c p.kind).getD zKind).vehicle = false ∧ takesF c q.kind e.slot p.kind = true ∧ p.into = nil8 ∧ seatTaken st e = false ∧ p' = { p with into := e.into, slot := e.slot }) ∨
       (e.op = 3 ∧ p.into ≠ nil8 ∧ p' = { p with into := nil8, slot := nil8 }) ∨
       (e.op = 4 ∧ ((findK c p.kind).getD zKind).vehicle = true ∧ p' = p) ∨
       (e.op = 5 ∧ p' = overhauled e p) ∨
       (e.op = 6 ∧ (noted e p).props.length ≤ 60 ∧ p' = noted e p) ∨
       (e.op = 7 ∧ p.into = nil8 ∧ holdsAny st p.name = false ∧ p' = { p with scrapped := true }))
theorem validE_op {e : Evt} (h : validE e = true) : 1 ≤ e.op ∧ e.op < 8 := by
  simp only [validE, evBad, Bool.and_eq_true, Bool.not_eq_true', Bool.or_eq_false_iff, decide_eq_false_iff_not] at h
  have := h.1.1.1.1.1.1
  rw [wordOf_empty] at this
  omega
theorem apply_of {c : List Kind} {st : List Part} {e : Evt} {p' : Part} (h : Step c st e p') : applyF c st e = putR st p' := by
  have hv := validS_iff.2 h.vs
  unfold applyF
  rw [if_neg (by simp [hv, h.ve])]
  rcases h.how with ⟨h1, h2, h3, h4, rfl⟩ | ⟨p, h1, h2, h3⟩
  · rw [if_pos h1]
    unfold applyMake
    rw [if_neg (by simp [h2]), if_neg (by simp [h3]), if_neg (by omega)]
  · have hpp : partP st e = p := by simp [partP, h1]
    have h5 := validE_op h.ve
    rcases h3 with ⟨h3, q, h4, h6, h7, h8, h9, h10, rfl⟩ | ⟨h3, h4, rfl⟩ | ⟨h3, h4, rfl⟩ | ⟨h3, rfl⟩ | ⟨h3, h4, rfl⟩ | ⟨h3, h4, h6, rfl⟩
    · have ho : otherO st e = some q := by simp [otherO, h3, h4]
      simp only [applyRest, h3, ho, h1, hpp, otherP, kindP, h2, h6, applyOp, applyFit, h7, h8, h9, h10, Option.isSome_some, Option.getD_some]
      simp
    · have ho : otherO st e = some p := by simp [otherO, h3, h1]
      simp only [applyRest, h3, ho, h1, hpp, otherP, kindP, h2, applyOp, applyRemove, Option.isSome_some, Option.getD_some]
      simp [h4]
    · have ho : otherO st e = some p' := by simp [otherO, h3, h1]
      simp only [applyRest, h3, ho, h1, hpp, otherP, kindP, h2, applyOp, applyRun, h4, Option.isSome_some, Option.getD_some]
      simp
    · have ho : otherO st e = some p := by simp [otherO, h3, h1]
      simp only [applyRest, h3, ho, h1, hpp, otherP, kindP, h2, applyOp, Option.isSome_some, Option.getD_some]
      simp
    · have ho : otherO st e = some p := by simp [otherO, h3, h1]
      simp only [applyRest, h3, ho, h1, hpp, otherP, kindP, h2, applyOp, applyNote, Option.isSome_some, Option.getD_some]
      simp; omega
    · have ho : otherO st e = some p := by simp [otherO, h3, h1]
      simp only [applyRest, h3, ho, h1, hpp, otherP, kindP, h2, applyOp, applyScrap, h4, h6, Option.isSome_some, Option.getD_some]
      simp
theorem of_apply {c : List Kind} {st : List Part} {e : Evt} (h : (applyF c st e).2 = 0) : ∃ p', Step c st e p' := by
  unfold applyF at h
  split at h
  · cases h
  · rename_i hv
    have hv : validS c st = true ∧ validE e = true := by simpa using hv
    have hop := validE_op hv.2
    split at h
    · rename_i h1
      unfold applyMake at h
      split at h
      · cases h
      · rename_i h2
        split at h
        · cases h
        · rename_i h3
          split at h
          · cases h
          · rename_i h4
            exact ⟨_, validS_iff.1 hv.1, hv.2, .inl ⟨h1, by simpa using h2, by rw [Option.isSome_iff_ne_none]; simpa using h3, by omega, rfl⟩⟩
    · rename_i h1
      unfold applyRest at h
      split at h
      · cases h
      · rename_i h2
        split at h
        · cases h
        · rename_i h3
          have h2 : (findP st e.part).isSome = true ∧ (otherO st e).isSome = true := by rw [Option.isSome_iff_ne_none, Option.isSome_iff_ne_none]; simpa using h2
          obtain ⟨p, hp⟩ := Option.isSome_iff_exists.1 h2.1
          obtain ⟨q, hq⟩ := Option.isSome_iff_exists.1 h2.2
          have hpp : partP st e = p := by simp [partP, hp]
          have hqq : otherP st e = q := by simp [otherP, hq]
          have hkk : kindP c st e = (findK c p.kind).getD zKind := by simp [kindP, hpp]
          rw [hpp, hqq] at h3
          have h3 : p.scrapped = false ∧ q.scrapped = false := by simpa using h3
          rw [hpp, hqq, hkk] at h
          unfold applyOp at h
          split at h
          · rename_i h4
            unfold applyFit at h
            split at h
            · cases h
            · rename_i h5
              split at h
              · cases h
              · rename_i h6
                split at h
                · cases h
                · rename_i h7
                  have h5 : ((findK c p.kind).getD zKind).vehicle = false ∧ takesF c q.kind e.slot p.kind = true := by simpa using h5
                  exact ⟨_, validS_iff.1 hv.1, hv.2, .inr ⟨p, hp, h3.1, .inl ⟨h4, q, by simpa [otherO, h4] using hq, h3.2, h5.1, h5.2, by simpa using h6, by simpa using h7, rfl⟩⟩⟩
          · rename_i h4
            split at h
            · rename_i h5
              unfold applyRemove at h
              split at h
              · cases h
              · rename_i h6; exact ⟨_, validS_iff.1 hv.1, hv.2, .inr ⟨p, hp, h3.1, .inr (.inl ⟨h5, h6, rfl⟩)⟩⟩
            · rename_i h5
              split at h
              · rename_i h6
                unfold applyRun at h
                split at h
                · cases h
                · rename_i h7; exact ⟨_, validS_iff.1 hv.1, hv.2, .inr ⟨p, hp, h3.1, .inr (.inr (.inl ⟨h6, by simpa using h7, rfl⟩))⟩⟩
              · rename_i h6
                split at h
                · rename_i h7; exact ⟨_, validS_iff.1 hv.1, hv.2, .inr ⟨p, hp, h3.1, .inr (.inr (.inr (.inl ⟨h7, rfl⟩)))⟩⟩
                · rename_i h7
                  split at h
                  · rename_i h8
                    unfold applyNote at h
                    split at h
                    · cases h
                    · rename_i h9; exact ⟨_, validS_iff.1 hv.1, hv.2, .inr ⟨p, hp, h3.1, .inr (.inr (.inr (.inr (.inl ⟨h8, by omega, rfl⟩))))⟩⟩
                  · rename_i h8
                    split at h
                    · rename_i h9
                      unfold applyScrap at h
                      split at h
                      · cases h
                      · rename_i h10
                        have h10 : p.into = nil8 ∧ holdsAny st p.name = false := by simpa using h10
                        exact ⟨_, validS_iff.1 hv.1, hv.2, .inr ⟨p, hp, h3.1, .inr (.inr (.inr (.inr (.inr ⟨h9, h10.1, h10.2, rfl⟩))))⟩⟩
                    · exfalso; omega
theorem validE_parts {e : Evt} (h : validE e = true) : nameOk e.part = true ∧ 0 ≤ e.day ∧ e.day ≤ 40000 ∧ (e.op = 2 → nameOk e.into = true ∧ nameOk e.slot = true ∧ e.into ≠ e.part) ∧ (e.op = 6 → nameOk e.key = true ∧ e.value ≠ nil8 ∧ ((e.value.size : Nat) : Int) ≤ 200) := by
  simp only [validE, evBad, Bool.and_eq_true, Bool.not_eq_true', Bool.or_eq_false_iff, decide_eq_false_iff_not, Bool.not_eq_false'] at h
  obtain ⟨⟨⟨⟨⟨⟨h1, h2⟩, h3⟩, h4⟩, h5⟩, h6⟩, h7⟩ := h
  refine ⟨h4, by omega, by omega, fun h8 => ?_, fun h8 => ?_⟩
  · have h9 : namesOf e = [e.into, e.slot] := by simp [namesOf, h8]
    rw [h9] at h7
    simp only [List.any_cons, List.any_nil, Bool.or_eq_false_iff, Bool.not_eq_false'] at h7
    have h10 : opBad e = decide (e.into = e.part) := by simp [opBad, h8]
    rw [h10, decide_eq_false_iff_not] at h5
    exact ⟨h7.1, h7.2.1, h5⟩
  · have h9 : namesOf e = [e.key] := by simp [namesOf, h8]
    rw [h9] at h7
    simp only [List.any_cons, List.any_nil, Bool.or_eq_false_iff, Bool.not_eq_false'] at h7
    have h10 : opBad e = (decide (e.value = nil8) || decide ((200 : Int) < (e.value.size : Nat))) := by simp [opBad, h8]
    rw [h10, Bool.or_eq_false_iff, decide_eq_false_iff_not, decide_eq_false_iff_not] at h5
    exact ⟨h7.1, h5.1, by omega⟩
theorem name_ne {s : ByteArray} (h : nameOk s = true) : s ≠ nil8 := by
  rintro rfl
  simp [nameOk] at h
/-- what is right of a part alone -/
structure RP (c : List Kind) (p : Part) : Prop where
  kind : (findK c p.kind).isSome = true
  name : nameOk p.name = true
  made : 0 ≤ p.made
  since : p.made ≤ p.since
  since2 : p.since ≤ 40000
  few : p.props.length ≤ 60
  props : ∀ q ∈ p.props, propOk q = true
  inc : Inc Prp.key p.props
  km : lifeOk p.life.km = true
  cycles : lifeOk p.life.cycles = true
  damage : lifeOk p.life.damage = true
theorem right_iff {c : List Kind} {p : Part} : rightP c p = true ↔ RP c p := by
  unfold rightP partBad
  simp only [Bool.and_eq_true, Bool.not_eq_true', Bool.or_eq_false_iff, Bool.not_eq_false', decide_eq_false_iff_not]
  rw [ord_iff, allP_all]
  constructor
  · rintro ⟨⟨⟨⟨⟨⟨⟨h1, h2⟩, h3⟩, h4⟩, h5⟩, h6⟩, h7⟩, ⟨⟨h8, h9⟩, h10⟩, h11⟩
    exact ⟨h1, h2, by omega, by omega, by omega, by omega, h7, h8, h9, h10, h11⟩
  · rintro ⟨h1, h2, h3, h4, h5, h6, h7, h8, h9, h10, h11⟩
    exact ⟨⟨⟨⟨⟨⟨⟨h1, h2⟩, by omega⟩, by omega⟩, by omega⟩, by omega⟩, h7⟩, ⟨⟨h8, h9⟩, h10⟩, h11⟩
theorem Step.name {c : List Kind} {st : List Part} {e : Evt} {p' : Part} (h : Step c st e p') : p'.name = e.part := by
  rcases h.how with ⟨_, _, _, _, rfl⟩ | ⟨p, h1, _, h3⟩
  · rfl
  · have hn : p.name = e.part := ((find_iff h.vs.inc).1 h1).2
    rcases h3 with ⟨_, q, _, _, _, _, _, _, rfl⟩ | ⟨_, _, rfl⟩ | ⟨_, _, rfl⟩ | ⟨_, rfl⟩ | ⟨_, _, rfl⟩ | ⟨_, _, _, rfl⟩ <;> exact hn
theorem Step.kind {c : List Kind} {st : List Part} {e : Evt} {p' p : Part} (h : Step c st e p') (hp : findP st e.part = some p) : p'.kind = p.kind := by
  rcases h.how with ⟨_, h2, _, _, rfl⟩ | ⟨p0, h1, _, h3⟩
  · rw [hp] at h2; cases h2
  · rw [hp] at h1; cases h1
    rcases h3 with ⟨_, q, _, _, _, _, _, _, rfl⟩ | ⟨_, _, rfl⟩ | ⟨_, _, rfl⟩ | ⟨_, rfl⟩ | ⟨_, _, rfl⟩ | ⟨_, _, _, rfl⟩ <;> rfl
theorem Step.right {c : List Kind} {st : List Part} {e : Evt} {p' : Part} (h : Step c st e p') : RP c p' := by
  obtain ⟨v1, v2, v3, v4, v5⟩ := validE_parts h.ve
  rcases h.how with ⟨_, _, h3, _, rfl⟩ | ⟨p, h1, _, h3⟩
  · exact ⟨h3, v1, v2, Int.le_refl _, v3, by simp [newP], fun _ h => by simp [newP] at h, by simp [newP, Inc], rfl, rfl, rfl⟩
  · have hr := right_iff.1 (h.vs.right p ((find_iff h.vs.inc).1 h1).1)
    rcases h3 with ⟨_, q, _, _, _, _, _, _, rfl⟩ | ⟨_, _, rfl⟩ | ⟨_, _, rfl⟩ | ⟨_, rfl⟩ | ⟨h6, h7, rfl⟩ | ⟨_, _, _, rfl⟩
    · exact ⟨hr.kind, hr.name, hr.made, hr.since, hr.since2, hr.few, hr.props, hr.inc, hr.km, hr.cycles, hr.damage⟩
    · exact ⟨hr.kind, hr.name, hr.made, hr.since, hr.since2, hr.few, hr.props, hr.inc, hr.km, hr.cycles, hr.damage⟩
    · exact hr
    · have hs := hr.since
      have hs2 := hr.since2
      refine ⟨hr.kind, hr.name, hr.made, ?_, ?_, hr.few, hr.props, hr.inc, rfl, rfl, rfl⟩
      · show p.made ≤ (if e.day > p.since then e.day else p.since); split <;> omega
      · show (if e.day > p.since then e.day else p.since) ≤ 40000; split <;> omega
    · obtain ⟨k1, k2, k3⟩ := v5 h6
      refine ⟨hr.kind, hr.name, hr.made, hr.since, hr.since2, h7, fun q hq => ?_, put_inc _ hr.inc, hr.km, hr.cycles, hr.damage⟩
      rcases (put_mem hr.inc).1 hq with rfl | ⟨hq, _⟩
      · simp only [propOk, k1, Bool.true_and, Bool.and_eq_true, Bool.not_eq_true', decide_eq_false_iff_not, decide_eq_true_eq]
        exact ⟨k2, k3⟩
      · exact hr.props q hq
    · exact ⟨hr.kind, hr.name, hr.made, hr.since, hr.since2, hr.few, hr.props, hr.inc, hr.km, hr.cycles, hr.damage⟩
theorem takes_known {c : List Kind} {k s p : ByteArray} (h : takesF c k s p = true) : (findK c k).isSome = true := by
  unfold takesF slotF at h
  cases hf : findK c k with
  | none => rw [hf] at h; simp [zKind] at h
  | some x => rfl
theorem taken_iff {st : List Part} {e : Evt} : seatTaken st e = false ↔ ∀ x ∈ st, ¬ (x.into = e.into ∧ x.slot = e.slot) := by
  unfold seatTaken
  rw [List.any_eq_false]
  simp
theorem holds_iff {st : List Part} {s : ByteArray} : holdsAny st s = false ↔ ∀ x ∈ st, x.into ≠ s := by
  unfold holdsAny
  rw [List.any_eq_false]
  simp
theorem Step.valid {c : List Kind} {st : List Part} {e : Evt} {p' : Part} (h : Step c st e p') : VS c (putL Part.name st p') := by
  have hv := h.vs
  have hi := hv.inc
  have hn := h.name
  obtain ⟨v1, v2, v3, v4, v5⟩ := validE_parts h.ve
  have hm : ∀ z, z ∈ putL Part.name st p' ↔ z = p' ∨ (z ∈ st ∧ z.name ≠ e.part) := fun z => by rw [put_mem hi, hn]
  -- the new part in its place
  have hpl : (p'.into = nil8 ↔ p'.slot = nil8) ∧ (p'.into ≠ nil8 → p'.scrapped = false ∧ ∃ q, q ∈ st ∧ q.name = p'.into ∧ q.scrapped = false ∧ takesF c q.kind p'.slot p'.kind = true) ∧
      (p'.into ≠ nil8 → ∀ z ∈ st, z.name ≠ e.part → ¬ (z.into = p'.into ∧ z.slot = p'.slot)) ∧ (p'.scrapped = true → ∀ z ∈ st, z.into ≠ e.part) := by
    rcases h.how with ⟨_, h2, _, _, rfl⟩ | ⟨p, h1, h2, h3⟩
    · exact ⟨⟨fun _ => rfl, fun _ => rfl⟩, fun h => absurd rfl h, fun h => absurd rfl h, fun h => by cases h⟩
    · have hp := (find_iff hi).1 h1
      have hb := hv.both p hp.1
      have hold : p.into ≠ nil8 → p.scrapped = false ∧ ∃ q, q ∈ st ∧ q.name = p.into ∧ q.scrapped = false ∧ takesF c q.kind p.slot p.kind = true := fun hne => by
        obtain ⟨s1, q, s2, s3, s4, s5⟩ := hv.sits p hp.1 hne
        exact ⟨s1, q, s2, s3, s4, s5⟩
      have hap : p.into ≠ nil8 → ∀ z ∈ st, z.name ≠ e.part → ¬ (z.into = p.into ∧ z.slot = p.slot) := fun hne z hz hzn ⟨e1, e2⟩ => by
        have := hv.apart p hp.1 z hz hne e1.symm e2.symm
        subst this
        exact hzn hp.2
      rcases h3 with ⟨o1, q, o2, o3, o4, o5, o6, o7, rfl⟩ | ⟨_, _, rfl⟩ | ⟨_, _, rfl⟩ | ⟨_, rfl⟩ | ⟨_, _, rfl⟩ | ⟨_, o2, o3, rfl⟩
      · obtain ⟨k1, k2, k3⟩ := v4 o1
        have hq := (find_iff hi).1 o2
        exact ⟨⟨fun hh => absurd hh (name_ne k1), fun hh => absurd hh (name_ne k2)⟩, fun _ => ⟨h2, q, hq.1, hq.2, o3, o5⟩, fun _ z hz _ => taken_iff.1 o7 z hz, fun hh => by
          have : p.scrapped = true := hh
          rw [h2] at this; cases this⟩
      · exact ⟨⟨fun _ => rfl, fun _ => rfl⟩, fun h => absurd rfl h, fun h => absurd rfl h, fun hh => by
          have : p.scrapped = true := hh
          rw [h2] at this; cases this⟩
      · exact ⟨hb, hold, hap, fun hh => by rw [h2] at hh; cases hh⟩
      · exact ⟨hb, hold, hap, fun hh => by
          have : p.scrapped = true := hh
          rw [h2] at this; cases this⟩
      · exact ⟨hb, hold, hap, fun hh => by
          have : p.scrapped = true := hh
          rw [h2] at this; cases this⟩
      · exact ⟨hb, fun hne => absurd o2 hne, fun hne => absurd o2 hne, fun _ z hz => by rw [← hp.2]; exact holds_iff.1 o3 z hz⟩
  obtain ⟨c1, c2, c3, c4⟩ := hpl
  have hk : ∀ q ∈ st, q.name = e.part → p'.kind = q.kind := fun q hq hqn => h.kind ((find_iff hi).2 ⟨hq, hqn⟩)
  refine ⟨hv.cat, ?_, put_inc _ hi, fun z hz => ?_, fun z hz => ?_, fun z hz hne => ?_, fun z hz w hw hne e1 e2 => ?_⟩
  · rw [put_len hi, at_find hi, hn]
    split
    · exact hv.len
    · rename_i hnf
      rcases h.how with ⟨_, _, _, h4, _⟩ | ⟨p, h1, _, _⟩
      · have := hv.len; omega
      · exact absurd (by rw [show st.find? (fun y => decide (y.name = e.part)) = some p from h1]; rfl) hnf
  · rcases (hm z).1 hz with rfl | ⟨hz, _⟩
    · exact right_iff.2 h.right
    · exact hv.right z hz
  · rcases (hm z).1 hz with rfl | ⟨hz, _⟩
    · exact c1
    · exact hv.both z hz
  · rcases (hm z).1 hz with rfl | ⟨hz, hzn⟩
    · obtain ⟨d1, q, d2, d3, d4, d5⟩ := c2 hne
      by_cases hq : q.name = e.part
      · exact ⟨d1, z, (hm z).2 (.inl rfl), by rw [hn, ← hq, d3], d1, by rw [hk q d2 hq]; rw [hk q d2 hq] at d5; exact d5⟩
      · exact ⟨d1, q, (hm q).2 (.inr ⟨d2, hq⟩), d3, d4, d5⟩
    · obtain ⟨d1, q, d2, d3, d4, d5⟩ := hv.sits z hz hne
      by_cases hq : q.name = e.part
      · have hsc : p'.scrapped = false := by
          cases hs : p'.scrapped with
          | false => rfl
          | true => exact absurd (by rw [← d3, hq]) (c4 hs z hz)
        exact ⟨d1, p', (hm p').2 (.inl rfl), by rw [hn, ← hq, d3], hsc, by rw [hk q d2 hq]; exact d5⟩
      · exact ⟨d1, q, (hm q).2 (.inr ⟨d2, hq⟩), d3, d4, d5⟩
  · rcases (hm z).1 hz with hz1 | ⟨hz1, hzn⟩ <;> rcases (hm w).1 hw with hw1 | ⟨hw1, hwn⟩
    · rw [hz1, hw1]
    · subst hz1; exact absurd ⟨e1.symm, e2.symm⟩ (c3 hne w hw1 hwn)
    · subst hw1; exact absurd ⟨e1, e2⟩ (c3 (by rw [← e1]; exact hne) z hz1 hzn)
    · exact hv.apart z hz1 w hw1 hne e1 e2
/-! two events, the one for the other -/
def mentions (e : Evt) : List ByteArray := if e.op = 2 then [e.part, e.into] else [e.part]
theorem Step.swap {c : List Kind} {st : List Part} {x y : Evt} {p1 p2 : Part} (hx : Step c st x p1) (hy : Step c (putL Part.name st p1) y p2) (h3 : x.op ≠ 3) (h3' : y.op ≠ 3) (hd : ∀ s ∈ mentions x, s ∉ mentions y) :
    Step c st y p2 ∧ Step c (putL Part.name st p2) x p1 := by
  have hi := hx.vs.inc
  have n1 := hx.name
  have n2 := hy.name
  have xp : x.part ∈ mentions x := by unfold mentions; split <;> simp
  have yp : y.part ∈ mentions y := by unfold mentions; split <;> simp
  have hne : x.part ≠ y.part := fun e => hd _ xp (by rw [e]; exact yp)
  have vx := validE_parts hx.ve
  have vy := validE_parts hy.ve
  have f1 : ∀ s, s ≠ x.part → findP (putL Part.name st p1) s = findP st s := fun s hs => by
    unfold findP; rw [put_find hi, n1, if_neg (fun e => hs e.symm)]
  have f2 : ∀ s, s ≠ y.part → findP (putL Part.name st p2) s = findP st s := fun s hs => by
    unfold findP; rw [put_find hi, n2, if_neg (fun e => hs e.symm)]
  have m1 : ∀ z, z ∈ putL Part.name st p1 ↔ z = p1 ∨ (z ∈ st ∧ z.name ≠ x.part) := fun z => by rw [put_mem hi, n1]
  have m2 : ∀ z, z ∈ putL Part.name st p2 ↔ z = p2 ∨ (z ∈ st ∧ z.name ≠ y.part) := fun z => by rw [put_mem hi, n2]
  -- where the part of x was, and is
  have wx : ∀ z ∈ st, z.name = x.part → z.into ≠ nil8 → p1.into = z.into ∧ p1.slot = z.slot := fun z hz hzn hzi => by
    rcases hx.how with ⟨_, h2, _, _, _⟩ | ⟨p, h1, _, h3x⟩
    · exact absurd hzn (find_none.1 h2 z hz)
    · have hp := (find_iff hi).1 h1
      have : z = p := inc_uniq hi hz hp.1 (by rw [hzn, hp.2])
      subst this
      rcases h3x with ⟨_, q, _, _, _, _, o6, _, rfl⟩ | ⟨o1, _, _⟩ | ⟨_, _, rfl⟩ | ⟨_, rfl⟩ | ⟨_, _, rfl⟩ | ⟨_, _, _, rfl⟩
      · exact absurd o6 hzi
      · exact absurd o1 h3
      all_goals exact ⟨rfl, rfl⟩
  have hyst : Step c st y p2 := by
    refine ⟨hx.vs, hy.ve, ?_⟩
    rcases hy.how with ⟨o1, o2, o3, o4, o5⟩ | ⟨p, h1, h2, h3y⟩
    · rw [f1 _ (Ne.symm hne)] at o2
      refine .inl ⟨o1, o2, o3, fun hl => o4 ?_, o5⟩
      have := hx.vs.len
      rw [put_len hi, at_find hi, n1]
      split
      · exact hl
      · rename_i hnf
        rcases hx.how with ⟨_, _, _, h4, _⟩ | ⟨p, h1, _, _⟩
        · exact absurd hl h4
        · exact absurd (by rw [show st.find? (fun y => decide (y.name = x.part)) = some p from h1]; rfl) hnf
    · rw [f1 _ (Ne.symm hne)] at h1
      refine .inr ⟨p, h1, h2, ?_⟩
      rcases h3y with ⟨o1, q, o2, o3, o4, o5, o6, o7, o8⟩ | ⟨o1, _, _⟩ | h | h | h | ⟨o1, o2, o3, o4⟩
      · have hyi : y.into ∈ mentions y := by simp [mentions, o1]
        have hni : y.into ≠ x.part := fun e => hd _ xp (by rw [← e]; exact hyi)
        rw [f1 _ hni] at o2
        refine .inl ⟨o1, q, o2, o3, o4, o5, o6, taken_iff.2 fun z hz ⟨e1, e2⟩ => ?_, o8⟩
        by_cases hzn : z.name = x.part
        · obtain ⟨w1, w2⟩ := wx z hz hzn (by rw [e1]; exact name_ne (vy.2.2.2.1 o1).1)
          exact taken_iff.1 o7 p1 ((m1 _).2 (.inl rfl)) ⟨by rw [w1, e1], by rw [w2, e2]⟩
        · exact taken_iff.1 o7 z ((m1 _).2 (.inr ⟨hz, hzn⟩)) ⟨e1, e2⟩
      · exact absurd o1 h3'
      · exact .inr (.inr (.inl h))
      · exact .inr (.inr (.inr (.inl h)))
      · exact .inr (.inr (.inr (.inr (.inl h))))
      · refine .inr (.inr (.inr (.inr (.inr ⟨o1, o2, holds_iff.2 fun z hz e1 => ?_, o4⟩))))
        have hp := (find_iff hi).1 h1
        by_cases hzn : z.name = x.part
        · obtain ⟨w1, w2⟩ := wx z hz hzn (by rw [e1, hp.2]; exact name_ne vy.1)
          exact holds_iff.1 o3 p1 ((m1 _).2 (.inl rfl)) (by rw [w1, e1])
        · exact holds_iff.1 o3 z ((m1 _).2 (.inr ⟨hz, hzn⟩)) e1
  refine ⟨hyst, hyst.valid, hx.ve, ?_⟩
  -- where the part of y is
  have wy : ∀ s, s ∈ mentions x → s ≠ nil8 → p2.into = s → ∃ z ∈ st, z.into = s ∧ z.slot = p2.slot ∧ z.name = y.part := fun s hs hsn he => by
    rcases hyst.how with ⟨_, h2, _, _, rfl⟩ | ⟨p, h1, _, h3y⟩
    · exact absurd he.symm hsn
    · have hp := (find_iff hi).1 h1
      rcases h3y with ⟨o1, q, _, _, _, _, o6, _, rfl⟩ | ⟨o1, _, _⟩ | ⟨_, _, rfl⟩ | ⟨_, rfl⟩ | ⟨_, _, rfl⟩ | ⟨_, _, _, rfl⟩
      · exact absurd (by rw [← he]; simp [mentions, o1]) (hd s hs)
      · exact absurd o1 h3'
      all_goals exact ⟨_, hp.1, he, rfl, hp.2⟩
  rcases hx.how with ⟨o1, o2, o3, o4, o5⟩ | ⟨p, h1, h2, h3x⟩
  · refine .inl ⟨o1, by rw [f2 _ hne]; exact o2, o3, fun hl => ?_, o5⟩
    rw [put_len hi, at_find hi, n2] at hl
    split at hl
    · exact o4 hl
    · rename_i hnf
      rcases hy.how with ⟨_, _, _, h4, _⟩ | ⟨p, h1, _, _⟩
      · apply h4
        rw [put_len hi, at_find hi, n1, if_neg]
        · exact hl
        · rw [show st.find? (fun y => decide (y.name = x.part)) = none from o2]; simp
      · rw [f1 _ (Ne.symm hne)] at h1
        exact hnf (by rw [show st.find? (fun z => decide (z.name = y.part)) = some p from h1]; rfl)
  · refine .inr ⟨p, by rw [f2 _ hne]; exact h1, h2, ?_⟩
    have hp := (find_iff hi).1 h1
    rcases h3x with ⟨o1, q, o2, o3, o4, o5, o6, o7, o8⟩ | ⟨o1, _, _⟩ | h | h | h | ⟨o1, o2, o3, o4⟩
    · have hxi : x.into ∈ mentions x := by simp [mentions, o1]
      have hni : x.into ≠ y.part := fun e => hd _ hxi (by rw [e]; exact yp)
      refine .inl ⟨o1, q, by rw [f2 _ hni]; exact o2, o3, o4, o5, o6, taken_iff.2 fun z hz ⟨e1, e2⟩ => ?_, o8⟩
      rcases (m2 z).1 hz with rfl | ⟨hz, _⟩
      · obtain ⟨w, hw, w1, w2, _⟩ := wy _ hxi (name_ne (vx.2.2.2.1 o1).1) e1
        exact taken_iff.1 o7 w hw ⟨w1, by rw [w2, e2]⟩
      · exact taken_iff.1 o7 z hz ⟨e1, e2⟩
    · exact absurd o1 h3
    · exact .inr (.inr (.inl h))
    · exact .inr (.inr (.inr (.inl h)))
    · exact .inr (.inr (.inr (.inr (.inl h))))
    · refine .inr (.inr (.inr (.inr (.inr ⟨o1, o2, holds_iff.2 fun z hz e1 => ?_, o4⟩))))
      rcases (m2 z).1 hz with rfl | ⟨hz, _⟩
      · obtain ⟨w, hw, w1, _, _⟩ := wy _ xp (name_ne vx.1) (by rw [e1, hp.2])
        exact holds_iff.1 o3 w hw (by rw [w1, hp.2])
      · exact holds_iff.1 o3 z hz e1
theorem apply_swap {c : List Kind} {st : List Part} {x y : Evt} (hx : (applyF c st x).2 = 0) (hy : (applyF c (applyF c st x).1 y).2 = 0) (h3 : x.op ≠ 3) (h3' : y.op ≠ 3) (hd : ∀ s ∈ mentions x, s ∉ mentions y) :
    (applyF c st y).2 = 0 ∧ (applyF c (applyF c st y).1 x).2 = 0 ∧ (applyF c (applyF c st y).1 x).1 = (applyF c (applyF c st x).1 y).1 := by
  obtain ⟨p1, s1⟩ := of_apply hx
  rw [apply_of s1] at hy ⊢
  obtain ⟨p2, s2⟩ := of_apply hy
  have s2 : Step c (putL Part.name st p1) y p2 := s2
  obtain ⟨t1, t2⟩ := s1.swap s2 h3 h3' hd
  rw [apply_of t1]
  have e1 : applyF c (putR st p2).1 x = putR (putL Part.name st p2) p1 := apply_of t2
  have e2 : applyF c (putR st p1).1 y = putR (putL Part.name st p1) p2 := apply_of s2
  rw [e1, e2]
  refine ⟨rfl, rfl, put_comm s1.vs.inc ?_⟩
  rw [s1.name, s2.name]
  intro e
  exact hd x.part (by unfold mentions; split <;> simp) (by rw [← e]; unfold mentions; split <;> simp)
end Go.Sx
