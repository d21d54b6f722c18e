/- The library of a symbolic run and the walks: merged. -/
import Derived.Test.YtdapmfkbpnjkmaaGreatZPld
import Derived.Ground.NamesProg
import Derived.Ground.SlsfProg
import Derived.Laws.Bits64b
import Derived.Lib.Bytealg
import Derived.Lib.Mul64
import Derived.Maps.RangeRun
import Derived.Shelf.SlGeneric
import Derived.Shelf.SlSortCmp.NoneTotal
import Derived.Shelf.Small.Strs
import Derived.Shelf.Sort.Plain
import Derived.Test.YtdapmfkbpnjkmaaGreatProg
/- What a valid state is, part by part; an event that happens keeps it. -/
set_option linter.all false
namespace Go.Sx
open Go
theorem allP_iff {α : Type} {f : List α → α → Bool} {l : List α} : allP f l l.length = true ↔ ∀ (i : Nat) (h : i < l.length), f (l.take i) l[i] = true := by
  rw [allP, List.all_eq_true]
  constructor
  · intro h i hi
    have := h i (List.mem_range.2 hi)
    simpa only [List.getElem?_eq_getElem hi] using this
  · intro h i hi
    have hi := List.mem_range.1 hi
    simp only [List.getElem?_eq_getElem hi]
    exact h i hi
theorem allP_all {α : Type} {f : α → Bool} {l : List α} : allP (fun _ x => f x) l l.length = true ↔ ∀ x ∈ l, f x = true := by
  rw [allP_iff]
  constructor
  · intro h x hx; obtain ⟨i, hi, rfl⟩ := List.getElem_of_mem hx; exact h i hi
  · intro h i hi; exact h _ (List.getElem_mem hi)
theorem ord_iff {α : Type} {nm : α → ByteArray} {l : List α} : ordF nm l = true ↔ Inc nm l := by
  constructor
  · exact fun h => inc_of (Srt.of_ord h)
  · intro h
    unfold ordF
    rw [allP_iff]
    intro i hi
    unfold ordAt
    cases i with
    | zero => simp
    | succ i =>
      have : (l.take (i + 1)).getLast? = some l[i] := by
        rw [List.getLast?_eq_getElem?, List.length_take, Nat.min_eq_left (by omega), List.getElem?_take, if_pos (by omega)]
        simp
      rw [this]
      exact (List.pairwise_iff_getElem.1 h) i (i + 1) (by omega) hi (by omega)
/-- a part in its place -/
structure Sits (c : List Kind) (st : List Part) (p : Part) : Prop where
  alive : p.scrapped = false
  host : ∃ q, q ∈ st ∧ q.name = p.into ∧ q.scrapped = false ∧ takesF c q.kind p.slot p.kind = true
structure VS (c : List Kind) (st : List Part) : Prop where
  cat : validC c = true
  len : st.length ≤ 20000
  inc : Inc Part.name st
  right : ∀ p ∈ st, rightP c p = true
  both : ∀ p ∈ st, (p.into = nil8 ↔ p.slot = nil8)
  sits : ∀ p ∈ st, p.into ≠ nil8 → Sits c st p
  apart : ∀ p ∈ st, ∀ q ∈ st, p.into ≠ nil8 → p.into = q.into → p.slot = q.slot → p = q
theorem seated_hit {pre : List Part} {x : ByteArray × ByteArray} : hit seatOf (seated pre) x = true ↔ ∃ q ∈ pre, q.into ≠ nil8 ∧ seatOf q = x := by
  rw [hit_eq, List.any_eq_true]
  constructor
  · rintro ⟨q, hq, he⟩
    rw [seated, List.mem_filter] at hq
    exact ⟨q, hq.1, by simpa using hq.2, by simpa using he⟩
  · rintro ⟨q, h1, h2, h3⟩
    exact ⟨q, by rw [seated, List.mem_filter]; exact ⟨h1, by simpa using h2⟩, by simpa using h3⟩
theorem inc_idx {l : List Part} (h : Inc Part.name l) {i j : Nat} {hi : i < l.length} {hj : j < l.length} (he : l[i] = l[j]) : i = j := by
  rw [Inc, List.pairwise_iff_getElem] at h
  rcases Nat.lt_trichotomy i j with hij | hij | hij
  · have := h i j hi hj hij; rw [he, sLt_irrefl] at this; cases this
  · exact hij
  · have := h j i hj hi hij; rw [he, sLt_irrefl] at this; cases this
theorem validS_iff {c : List Kind} {st : List Part} : validS c st = true ↔ VS c st := by
  unfold validS bad0S
  simp only [Bool.and_eq_true, Bool.not_eq_true', Bool.or_eq_false_iff, Bool.not_eq_false', decide_eq_false_iff_not]
  rw [ord_iff, allP_iff]
  constructor
  · rintro ⟨⟨⟨h1, h2⟩, h3⟩, h4⟩
    have key : ∀ (i : Nat) (hi : i < st.length), rightP c st[i] = true ∧ (st[i].into = nil8 ↔ st[i].slot = nil8) ∧ (st[i].into ≠ nil8 → Sits c st st[i] ∧ ∀ q ∈ st.take i, q.into ≠ nil8 → seatOf q ≠ seatOf st[i]) := by
      intro i hi
      have h5 := h4 i hi
      simp only [partFine, bad1P, Bool.and_eq_true, Bool.not_eq_true', Bool.or_eq_false_iff, Bool.not_eq_false', Bool.or_eq_true, decide_eq_true_eq] at h5
      obtain ⟨⟨h6, h7⟩, h8⟩ := h5
      refine ⟨h6, ?_, fun hne => ?_⟩
      · have h7 : decide (st[i].into = nil8) = decide (st[i].slot = nil8) := by simpa using h7
        by_cases ha : st[i].into = nil8 <;> by_cases hb : st[i].slot = nil8 <;> simp [ha, hb] at h7 ⊢
      · rcases h8 with h8 | h8
        · exact absurd h8 hne
        · simp only [bad2P, Bool.or_eq_false_iff, Bool.not_eq_false'] at h8
          obtain ⟨⟨⟨⟨h9, h10⟩, h11⟩, h12⟩, h13⟩ := h8
          obtain ⟨q, hq⟩ := Option.isSome_iff_exists.1 h9
          rw [hq] at h11 h13
          have hq' := (find_iff h3).1 hq
          refine ⟨⟨h10, q, hq'.1, hq'.2, h11, h13⟩, fun q' hq' hn he => ?_⟩
          have : hit seatOf (seated (st.take i)) (seatOf st[i]) = true := seated_hit.2 ⟨q', hq', hn, he⟩
          rw [h12] at this; cases this
    refine ⟨h1, by omega, h3, fun p hp => ?_, fun p hp => ?_, fun p hp => ?_, fun p hp q hq hn he hs => ?_⟩
    · obtain ⟨i, hi, rfl⟩ := List.getElem_of_mem hp; exact (key i hi).1
    · obtain ⟨i, hi, rfl⟩ := List.getElem_of_mem hp; exact (key i hi).2.1
    · obtain ⟨i, hi, rfl⟩ := List.getElem_of_mem hp; exact fun h => ((key i hi).2.2 h).1
    · obtain ⟨i, hi, rfl⟩ := List.getElem_of_mem hp
      obtain ⟨j, hj, rfl⟩ := List.getElem_of_mem hq
      have hse : seatOf st[i] = seatOf st[j] := by simp [seatOf, he, hs]
      rcases Nat.lt_trichotomy i j with hij | rfl | hij
      · exact absurd hse (((key j hj).2.2 (by rw [← he]; exact hn)).2 st[i] (by rw [List.mem_iff_getElem?]; exact ⟨i, by rw [List.getElem?_take, if_pos hij]; simp⟩) hn)
      · rfl
      · exact absurd hse.symm (((key i hi).2.2 hn).2 st[j] (by rw [List.mem_iff_getElem?]; exact ⟨j, by rw [List.getElem?_take, if_pos hij]; simp⟩) (by rw [← he]; exact hn))
  · intro h
    refine ⟨⟨⟨h.cat, by have := h.len; omega⟩, h.inc⟩, fun i hi => ?_⟩
    have hm := List.getElem_mem hi
    have hb := h.both _ hm
    simp only [partFine, bad1P, Bool.and_eq_true, Bool.not_eq_true', Bool.or_eq_false_iff, Bool.not_eq_false', Bool.or_eq_true, decide_eq_true_eq]
    refine ⟨⟨h.right _ hm, ?_⟩, ?_⟩
    · by_cases ha : st[i].into = nil8
      · simp [ha, hb.1 ha]
      · have : ¬ st[i].slot = nil8 := fun hs => ha (hb.2 hs)
        simp [ha, this]
    · by_cases ha : st[i].into = nil8
      · exact .inl ha
      · right
        obtain ⟨h1, q, h2, h3, h4, h5⟩ := h.sits _ hm ha
        have hf : findP st st[i].into = some q := (find_iff h.inc).2 ⟨h2, h3⟩
        simp only [bad2P, Bool.or_eq_false_iff, Bool.not_eq_false']
        rw [hf]
        refine ⟨⟨⟨⟨rfl, h1⟩, h4⟩, ?_⟩, h5⟩
        rw [Bool.eq_false_iff]
        intro hh
        obtain ⟨q', h6, h7, h8⟩ := seated_hit.1 hh
        have h9 : q' ∈ st := List.mem_of_mem_take h6
        have h10 : q' = st[i] := h.apart _ h9 _ hm h7 (congrArg (·.1) h8) (congrArg (·.2) h8)
        obtain ⟨j, hj, hje⟩ := List.getElem_of_mem h6
        rw [List.length_take] at hj
        rw [List.getElem_take, h10] at hje
        have := inc_idx h.inc hje
        omega
/-! what an event does -/
/-- the part that an event leaves behind, if it is possible -/
structure Step (c : List Kind) (st : List Part) (e : Evt) (p' : Part) : Prop where
  vs : VS c st
  ve : validE e = true
  how : (e.op = 1 ∧ findP st e.part = none ∧ (findK c e.kind).isSome = true ∧ st.length ≠ 20000 ∧ p' = newP e) ∨
    ∃ p, findP st e.part = some p ∧ p.scrapped = false ∧
      ((e.op = 2 ∧ ∃ q, findP st e.into = some q ∧ q.scrapped = false ∧ ((findK c p.kind).getD zKind).vehicle = false ∧ takesF c q.kind e.slot p.kind = true ∧ p.into = nil8 ∧ seatTaken st e = false ∧ p' = { p with into := e.into, slot := e.slot }) ∨
       (e.op = 3 ∧ p.into ≠ nil8 ∧ p' = { p with into := nil8, slot := nil8 }) ∨
       (e.op = 4 ∧ ((findK c p.kind).getD zKind).vehicle = true ∧ p' = p) ∨
       (e.op = 5 ∧ p' = overhauled e p) ∨
       (e.op = 6 ∧ (noted e p).props.length ≤ 60 ∧ p' = noted e p) ∨
       (e.op = 7 ∧ p.into = nil8 ∧ holdsAny st p.name = false ∧ p' = { p with scrapped := true }))
theorem validE_op {e : Evt} (h : validE e = true) : 1 ≤ e.op ∧ e.op < 8 := by
  simp only [validE, evBad, Bool.and_eq_true, Bool.not_eq_true', Bool.or_eq_false_iff, decide_eq_false_iff_not] at h
  have := h.1.1.1.1.1.1
  rw [wordOf_empty] at this
  omega
theorem apply_of {c : List Kind} {st : List Part} {e : Evt} {p' : Part} (h : Step c st e p') : applyF c st e = putR st p' := by
  have hv := validS_iff.2 h.vs
  unfold applyF
  rw [if_neg (by simp [hv, h.ve])]
  rcases h.how with ⟨h1, h2, h3, h4, rfl⟩ | ⟨p, h1, h2, h3⟩
  · rw [if_pos h1]
    unfold applyMake
    rw [if_neg (by simp [h2]), if_neg (by simp [h3]), if_neg (by omega)]
  · have hpp : partP st e = p := by simp [partP, h1]
    have h5 := validE_op h.ve
    rcases h3 with ⟨h3, q, h4, h6, h7, h8, h9, h10, rfl⟩ | ⟨h3, h4, rfl⟩ | ⟨h3, h4, rfl⟩ | ⟨h3, rfl⟩ | ⟨h3, h4, rfl⟩ | ⟨h3, h4, h6, rfl⟩
    · have ho : otherO st e = some q := by simp [otherO, h3, h4]
      simp only [applyRest, h3, ho, h1, hpp, otherP, kindP, h2, h6, applyOp, applyFit, h7, h8, h9, h10, Option.isSome_some, Option.getD_some]
      simp
    · have ho : otherO st e = some p := by simp [otherO, h3, h1]
      simp only [applyRest, h3, ho, h1, hpp, otherP, kindP, h2, applyOp, applyRemove, Option.isSome_some, Option.getD_some]
      simp [h4]
    · have ho : otherO st e = some p' := by simp [otherO, h3, h1]
      simp only [applyRest, h3, ho, h1, hpp, otherP, kindP, h2, applyOp, applyRun, h4, Option.isSome_some, Option.getD_some]
      simp
    · have ho : otherO st e = some p := by simp [otherO, h3, h1]
      simp only [applyRest, h3, ho, h1, hpp, otherP, kindP, h2, applyOp, Option.isSome_some, Option.getD_some]
      simp
    · have ho : otherO st e = some p := by simp [otherO, h3, h1]
      simp only [applyRest, h3, ho, h1, hpp, otherP, kindP, h2, applyOp, applyNote, Option.isSome_some, Option.getD_some]
      simp; omega
    · have ho : otherO st e = some p := by simp [otherO, h3, h1]
      simp only [applyRest, h3, ho, h1, hpp, otherP, kindP, h2, applyOp, applyScrap, h4, h6, Option.isSome_some, Option.getD_some]
      simp
theorem of_apply {c : List Kind} {st : List Part} {e : Evt} (h : (applyF c st e).2 = 0) : ∃ p', Step c st e p' := by
  unfold applyF at h
  split at h
  · cases h
  · rename_i hv
    have hv : validS c st = true ∧ validE e = true := by simpa using hv
    have hop := validE_op hv.2
    split at h
    · rename_i h1
      unfold applyMake at h
      split at h
      · cases h
      · rename_i h2
        split at h
        · cases h
        · rename_i h3
          split at h
          · cases h
          · rename_i h4
            exact ⟨_, validS_iff.1 hv.1, hv.2, .inl ⟨h1, by simpa using h2, by rw [Option.isSome_iff_ne_none]; simpa using h3, by omega, rfl⟩⟩
    · rename_i h1
      unfold applyRest at h
      split at h
      · cases h
      · rename_i h2
        split at h
        · cases h
        · rename_i h3
          have h2 : (findP st e.part).isSome = true ∧ (otherO st e).isSome = true := by rw [Option.isSome_iff_ne_none, Option.isSome_iff_ne_none]; simpa using h2
          obtain ⟨p, hp⟩ := Option.isSome_iff_exists.1 h2.1
          obtain ⟨q, hq⟩ := Option.isSome_iff_exists.1 h2.2
          have hpp : partP st e = p := by simp [partP, hp]
          have hqq : otherP st e = q := by simp [otherP, hq]
          have hkk : kindP c st e = (findK c p.kind).getD zKind := by simp [kindP, hpp]
          rw [hpp, hqq] at h3
          have h3 : p.scrapped = false ∧ q.scrapped = false := by simpa using h3
          rw [hpp, hqq, hkk] at h
          unfold applyOp at h
          split at h
          · rename_i h4
            unfold applyFit at h
            split at h
            · cases h
            · rename_i h5
              split at h
              · cases h
              · rename_i h6
                split at h
                · cases h
                · rename_i h7
                  have h5 : ((findK c p.kind).getD zKind).vehicle = false ∧ takesF c q.kind e.slot p.kind = true := by simpa using h5
                  exact ⟨_, validS_iff.1 hv.1, hv.2, .inr ⟨p, hp, h3.1, .inl ⟨h4, q, by simpa [otherO, h4] using hq, h3.2, h5.1, h5.2, by simpa using h6, by simpa using h7, rfl⟩⟩⟩
          · rename_i h4
            split at h
            · rename_i h5
              unfold applyRemove at h
              split at h
              · cases h
              · rename_i h6; exact ⟨_, validS_iff.1 hv.1, hv.2, .inr ⟨p, hp, h3.1, .inr (.inl ⟨h5, h6, rfl⟩)⟩⟩
            · rename_i h5
              split at h
              · rename_i h6
                unfold applyRun at h
                split at h
                · cases h
                · rename_i h7; exact ⟨_, validS_iff.1 hv.1, hv.2, .inr ⟨p, hp, h3.1, .inr (.inr (.inl ⟨h6, by simpa using h7, rfl⟩))⟩⟩
              · rename_i h6
                split at h
                · rename_i h7; exact ⟨_, validS_iff.1 hv.1, hv.2, .inr ⟨p, hp, h3.1, .inr (.inr (.inr (.inl ⟨h7, rfl⟩)))⟩⟩
                · rename_i h7
                  split at h
                  · rename_i h8
                    unfold applyNote at h
                    split at h
                    · cases h
                    · rename_i h9; exact ⟨_, validS_iff.1 hv.1, hv.2, .inr ⟨p, hp, h3.1, .inr (.inr (.inr (.inr (.inl ⟨h8, by omega, rfl⟩))))⟩⟩
                  · rename_i h8
                    split at h
                    · rename_i h9
                      unfold applyScrap at h
                      split at h
                      · cases h
                      · rename_i h10
                        have h10 : p.into = nil8 ∧ holdsAny st p.name = false := by simpa using h10
                        exact ⟨_, validS_iff.1 hv.1, hv.2, .inr ⟨p, hp, h3.1, .inr (.inr (.inr (.inr (.inr ⟨h9, h10.1, h10.2, rfl⟩))))⟩⟩
                    · exfalso; omega
theorem validE_parts {e : Evt} (h : validE e = true) : nameOk e.part = true ∧ 0 ≤ e.day ∧ e.day ≤ 40000 ∧ (e.op = 2 → nameOk e.into = true ∧ nameOk e.slot = true ∧ e.into ≠ e.part) ∧ (e.op = 6 → nameOk e.key = true ∧ e.value ≠ nil8 ∧ ((e.value.size : Nat) : Int) ≤ 200) := by
  simp only [validE, evBad, Bool.and_eq_true, Bool.not_eq_true', Bool.or_eq_false_iff, decide_eq_false_iff_not, Bool.not_eq_false'] at h
  obtain ⟨⟨⟨⟨⟨⟨h1, h2⟩, h3⟩, h4⟩, h5⟩, h6⟩, h7⟩ := h
  refine ⟨h4, by omega, by omega, fun h8 => ?_, fun h8 => ?_⟩
  · have h9 : namesOf e = [e.into, e.slot] := by simp [namesOf, h8]
    rw [h9] at h7
    simp only [List.any_cons, List.any_nil, Bool.or_eq_false_iff, Bool.not_eq_false'] at h7
    have h10 : opBad e = decide (e.into = e.part) := by simp [opBad, h8]
    rw [h10, decide_eq_false_iff_not] at h5
    exact ⟨h7.1, h7.2.1, h5⟩
  · have h9 : namesOf e = [e.key] := by simp [namesOf, h8]
    rw [h9] at h7
    simp only [List.any_cons, List.any_nil, Bool.or_eq_false_iff, Bool.not_eq_false'] at h7
    have h10 : opBad e = (decide (e.value = nil8) || decide ((200 : Int) < (e.value.size : Nat))) := by simp [opBad, h8]
    rw [h10, Bool.or_eq_false_iff, decide_eq_false_iff_not, decide_eq_false_iff_not] at h5
    exact ⟨h7.1, h5.1, by omega⟩
theorem name_ne {s : ByteArray} (h : nameOk s = true) : s ≠ nil8 := by
  rintro rfl
  simp [nameOk] at h
/-- what is right of a part alone -/
structure RP (c : List Kind) (p : Part) : Prop where
  kind : (findK c p.kind).isSome = true
  name : nameOk p.name = true
  made : 0 ≤ p.made
  since : p.made ≤ p.since
  since2 : p.since ≤ 40000
  few : p.props.length ≤ 60
  props : ∀ q ∈ p.props, propOk q = true
  inc : Inc Prp.key p.props
  km : lifeOk p.life.km = true
  cycles : lifeOk p.life.cycles = true
  damage : lifeOk p.life.damage = true
theorem right_iff {c : List Kind} {p : Part} : rightP c p = true ↔ RP c p := by
  unfold rightP partBad
  simp only [Bool.and_eq_true, Bool.not_eq_true', Bool.or_eq_false_iff, Bool.not_eq_false', decide_eq_false_iff_not]
  rw [ord_iff, allP_all]
  constructor
  · rintro ⟨⟨⟨⟨⟨⟨⟨h1, h2⟩, h3⟩, h4⟩, h5⟩, h6⟩, h7⟩, ⟨⟨h8, h9⟩, h10⟩, h11⟩
    exact ⟨h1, h2, by omega, by omega, by omega, by omega, h7, h8, h9, h10, h11⟩
  · rintro ⟨h1, h2, h3, h4, h5, h6, h7, h8, h9, h10, h11⟩
    exact ⟨⟨⟨⟨⟨⟨⟨h1, h2⟩, by omega⟩, by omega⟩, by omega⟩, by omega⟩, h7⟩, ⟨⟨h8, h9⟩, h10⟩, h11⟩
theorem Step.name {c : List Kind} {st : List Part} {e : Evt} {p' : Part} (h : Step c st e p') : p'.name = e.part := by
  rcases h.how with ⟨_, _, _, _, rfl⟩ | ⟨p, h1, _, h3⟩
  · rfl
  · have hn : p.name = e.part := ((find_iff h.vs.inc).1 h1).2
    rcases h3 with ⟨_, q, _, _, _, _, _, _, rfl⟩ | ⟨_, _, rfl⟩ | ⟨_, _, rfl⟩ | ⟨_, rfl⟩ | ⟨_, _, rfl⟩ | ⟨_, _, _, rfl⟩ <;> exact hn
theorem Step.kind {c : List Kind} {st : List Part} {e : Evt} {p' p : Part} (h : Step c st e p') (hp : findP st e.part = some p) : p'.kind = p.kind := by
  rcases h.how with ⟨_, h2, _, _, rfl⟩ | ⟨p0, h1, _, h3⟩
  · rw [hp] at h2; cases h2
  · rw [hp] at h1; cases h1
    rcases h3 with ⟨_, q, _, _, _, _, _, _, rfl⟩ | ⟨_, _, rfl⟩ | ⟨_, _, rfl⟩ | ⟨_, rfl⟩ | ⟨_, _, rfl⟩ | ⟨_, _, _, rfl⟩ <;> rfl
theorem Step.right {c : List Kind} {st : List Part} {e : Evt} {p' : Part} (h : Step c st e p') : RP c p' := by
  obtain ⟨v1, v2, v3, v4, v5⟩ := validE_parts h.ve
  rcases h.how with ⟨_, _, h3, _, rfl⟩ | ⟨p, h1, _, h3⟩
  · exact ⟨h3, v1, v2, Int.le_refl _, v3, by simp [newP], fun _ h => by simp [newP] at h, by simp [newP, Inc], rfl, rfl, rfl⟩
  · have hr := right_iff.1 (h.vs.right p ((find_iff h.vs.inc).1 h1).1)
    rcases h3 with ⟨_, q, _, _, _, _, _, _, rfl⟩ | ⟨_, _, rfl⟩ | ⟨_, _, rfl⟩ | ⟨_, rfl⟩ | ⟨h6, h7, rfl⟩ | ⟨_, _, _, rfl⟩
    · exact ⟨hr.kind, hr.name, hr.made, hr.since, hr.since2, hr.few, hr.props, hr.inc, hr.km, hr.cycles, hr.damage⟩
    · exact ⟨hr.kind, hr.name, hr.made, hr.since, hr.since2, hr.few, hr.props, hr.inc, hr.km, hr.cycles, hr.damage⟩
    · exact hr
    · have hs := hr.since
      have hs2 := hr.since2
      refine ⟨hr.kind, hr.name, hr.made, ?_, ?_, hr.few, hr.props, hr.inc, rfl, rfl, rfl⟩
      · show p.made ≤ (if e.day > p.since then e.day else p.since); split <;> omega
      · show (if e.day > p.since then e.day else p.since) ≤ 40000; split <;> omega
    · obtain ⟨k1, k2, k3⟩ := v5 h6
      refine ⟨hr.kind, hr.name, hr.made, hr.since, hr.since2, h7, fun q hq => ?_, put_inc _ hr.inc, hr.km, hr.cycles, hr.damage⟩
      rcases (put_mem hr.inc).1 hq with rfl | ⟨hq, _⟩
      · simp only [propOk, k1, Bool.true_and, Bool.and_eq_true, Bool.not_eq_true', decide_eq_false_iff_not, decide_eq_true_eq]
        exact ⟨k2, k3⟩
      · exact hr.props q hq
    · exact ⟨hr.kind, hr.name, hr.made, hr.since, hr.since2, hr.few, hr.props, hr.inc, hr.km, hr.cycles, hr.damage⟩
theorem taken_iff {st : List Part} {e : Evt} : seatTaken st e = false ↔ ∀ x ∈ st, ¬ (x.into = e.into ∧ x.slot = e.slot) := by
  unfold seatTaken
  rw [List.any_eq_false]
  simp
theorem holds_iff {st : List Part} {s : ByteArray} : holdsAny st s = false ↔ ∀ x ∈ st, x.into ≠ s := by
  unfold holdsAny
  rw [List.any_eq_false]
  simp
theorem Step.valid {c : List Kind} {st : List Part} {e : Evt} {p' : Part} (h : Step c st e p') : VS c (putL Part.name st p') := by
  have hv := h.vs
  have hi := hv.inc
  have hn := h.name
  obtain ⟨v1, v2, v3, v4, v5⟩ := validE_parts h.ve
  have hm : ∀ z, z ∈ putL Part.name st p' ↔ z = p' ∨ (z ∈ st ∧ z.name ≠ e.part) := fun z => by rw [put_mem hi, hn]
  -- the new part in its place
  have hpl : (p'.into = nil8 ↔ p'.slot = nil8) ∧ (p'.into ≠ nil8 → p'.scrapped = false ∧ ∃ q, q ∈ st ∧ q.name = p'.into ∧ q.scrapped = false ∧ takesF c q.kind p'.slot p'.kind = true) ∧
      (p'.into ≠ nil8 → ∀ z ∈ st, z.name ≠ e.part → ¬ (z.into = p'.into ∧ z.slot = p'.slot)) ∧ (p'.scrapped = true → ∀ z ∈ st, z.into ≠ e.part) := by
    rcases h.how with ⟨_, h2, _, _, rfl⟩ | ⟨p, h1, h2, h3⟩
    · exact ⟨⟨fun _ => rfl, fun _ => rfl⟩, fun h => absurd rfl h, fun h => absurd rfl h, fun h => by cases h⟩
    · have hp := (find_iff hi).1 h1
      have hb := hv.both p hp.1
      have hold : p.into ≠ nil8 → p.scrapped = false ∧ ∃ q, q ∈ st ∧ q.name = p.into ∧ q.scrapped = false ∧ takesF c q.kind p.slot p.kind = true := fun hne => by
        obtain ⟨s1, q, s2, s3, s4, s5⟩ := hv.sits p hp.1 hne
        exact ⟨s1, q, s2, s3, s4, s5⟩
      have hap : p.into ≠ nil8 → ∀ z ∈ st, z.name ≠ e.part → ¬ (z.into = p.into ∧ z.slot = p.slot) := fun hne z hz hzn ⟨e1, e2⟩ => by
        have := hv.apart p hp.1 z hz hne e1.symm e2.symm
        subst this
        exact hzn hp.2
      rcases h3 with ⟨o1, q, o2, o3, o4, o5, o6, o7, rfl⟩ | ⟨_, _, rfl⟩ | ⟨_, _, rfl⟩ | ⟨_, rfl⟩ | ⟨_, _, rfl⟩ | ⟨_, o2, o3, rfl⟩
      · obtain ⟨k1, k2, k3⟩ := v4 o1
        have hq := (find_iff hi).1 o2
        exact ⟨⟨fun hh => absurd hh (name_ne k1), fun hh => absurd hh (name_ne k2)⟩, fun _ => ⟨h2, q, hq.1, hq.2, o3, o5⟩, fun _ z hz _ => taken_iff.1 o7 z hz, fun hh => by
          have : p.scrapped = true := hh
          rw [h2] at this; cases this⟩
      · exact ⟨⟨fun _ => rfl, fun _ => rfl⟩, fun h => absurd rfl h, fun h => absurd rfl h, fun hh => by
          have : p.scrapped = true := hh
          rw [h2] at this; cases this⟩
      · exact ⟨hb, hold, hap, fun hh => by rw [h2] at hh; cases hh⟩
      · exact ⟨hb, hold, hap, fun hh => by
          have : p.scrapped = true := hh
          rw [h2] at this; cases this⟩
      · exact ⟨hb, hold, hap, fun hh => by
          have : p.scrapped = true := hh
          rw [h2] at this; cases this⟩
      · exact ⟨hb, fun hne => absurd o2 hne, fun hne => absurd o2 hne, fun _ z hz => by rw [← hp.2]; exact holds_iff.1 o3 z hz⟩
  obtain ⟨c1, c2, c3, c4⟩ := hpl
  have hk : ∀ q ∈ st, q.name = e.part → p'.kind = q.kind := fun q hq hqn => h.kind ((find_iff hi).2 ⟨hq, hqn⟩)
  refine ⟨hv.cat, ?_, put_inc _ hi, fun z hz => ?_, fun z hz => ?_, fun z hz hne => ?_, fun z hz w hw hne e1 e2 => ?_⟩
  · rw [put_len hi, at_find hi, hn]
    split
    · exact hv.len
    · rename_i hnf
      rcases h.how with ⟨_, _, _, h4, _⟩ | ⟨p, h1, _, _⟩
      · have := hv.len; omega
      · exact absurd (by rw [show st.find? (fun y => decide (y.name = e.part)) = some p from h1]; rfl) hnf
  · rcases (hm z).1 hz with rfl | ⟨hz, _⟩
    · exact right_iff.2 h.right
    · exact hv.right z hz
  · rcases (hm z).1 hz with rfl | ⟨hz, _⟩
    · exact c1
    · exact hv.both z hz
  · rcases (hm z).1 hz with rfl | ⟨hz, hzn⟩
    · obtain ⟨d1, q, d2, d3, d4, d5⟩ := c2 hne
      by_cases hq : q.name = e.part
      · exact ⟨d1, z, (hm z).2 (.inl rfl), by rw [hn, ← hq, d3], d1, by rw [hk q d2 hq]; rw [hk q d2 hq] at d5; exact d5⟩
      · exact ⟨d1, q, (hm q).2 (.inr ⟨d2, hq⟩), d3, d4, d5⟩
    · obtain ⟨d1, q, d2, d3, d4, d5⟩ := hv.sits z hz hne
      by_cases hq : q.name = e.part
      · have hsc : p'.scrapped = false := by
          cases hs : p'.scrapped with
          | false => rfl
          | true => exact absurd (by rw [← d3, hq]) (c4 hs z hz)
        exact ⟨d1, p', (hm p').2 (.inl rfl), by rw [hn, ← hq, d3], hsc, by rw [hk q d2 hq]; exact d5⟩
      · exact ⟨d1, q, (hm q).2 (.inr ⟨d2, hq⟩), d3, d4, d5⟩
  · rcases (hm z).1 hz with hz1 | ⟨hz1, hzn⟩ <;> rcases (hm w).1 hw with hw1 | ⟨hw1, hwn⟩
    · rw [hz1, hw1]
    · subst hz1; exact absurd ⟨e1.symm, e2.symm⟩ (c3 hne w hw1 hwn)
    · subst hw1; exact absurd ⟨e1, e2⟩ (c3 (by rw [← e1]; exact hne) z hz1 hzn)
    · exact hv.apart z hz1 w hw1 hne e1 e2
/-! two events, the one for the other -/
def mentions (e : Evt) : List ByteArray := if e.op = 2 then [e.part, e.into] else [e.part]
theorem Step.swap {c : List Kind} {st : List Part} {x y : Evt} {p1 p2 : Part} (hx : Step c st x p1) (hy : Step c (putL Part.name st p1) y p2) (h3 : x.op ≠ 3) (h3' : y.op ≠ 3) (hd : ∀ s ∈ mentions x, s ∉ mentions y) :
    Step c st y p2 ∧ Step c (putL Part.name st p2) x p1 := by
  have hi := hx.vs.inc
  have n1 := hx.name
  have n2 := hy.name
  have xp : x.part ∈ mentions x := by unfold mentions; split <;> simp
  have yp : y.part ∈ mentions y := by unfold mentions; split <;> simp
  have hne : x.part ≠ y.part := fun e => hd _ xp (by rw [e]; exact yp)
  have vx := validE_parts hx.ve
  have vy := validE_parts hy.ve
  have f1 : ∀ s, s ≠ x.part → findP (putL Part.name st p1) s = findP st s := fun s hs => by
    unfold findP; rw [put_find hi, n1, if_neg (fun e => hs e.symm)]
  have f2 : ∀ s, s ≠ y.part → findP (putL Part.name st p2) s = findP st s := fun s hs => by
    unfold findP; rw [put_find hi, n2, if_neg (fun e => hs e.symm)]
  have m1 : ∀ z, z ∈ putL Part.name st p1 ↔ z = p1 ∨ (z ∈ st ∧ z.name ≠ x.part) := fun z => by rw [put_mem hi, n1]
  have m2 : ∀ z, z ∈ putL Part.name st p2 ↔ z = p2 ∨ (z ∈ st ∧ z.name ≠ y.part) := fun z => by rw [put_mem hi, n2]
  -- where the part of x was, and is
  have wx : ∀ z ∈ st, z.name = x.part → z.into ≠ nil8 → p1.into = z.into ∧ p1.slot = z.slot := fun z hz hzn hzi => by
    rcases hx.how with ⟨_, h2, _, _, _⟩ | ⟨p, h1, _, h3x⟩
    · exact absurd hzn (find_none.1 h2 z hz)
    · have hp := (find_iff hi).1 h1
      have : z = p := inc_uniq hi hz hp.1 (by rw [hzn, hp.2])
      subst this
      rcases h3x with ⟨_, q, _, _, _, _, o6, _, rfl⟩ | ⟨o1, _, _⟩ | ⟨_, _, rfl⟩ | ⟨_, rfl⟩ | ⟨_, _, rfl⟩ | ⟨_, _, _, rfl⟩
      · exact absurd o6 hzi
      · exact absurd o1 h3
      all_goals exact ⟨rfl, rfl⟩
  have hyst : Step c st y p2 := by
    refine ⟨hx.vs, hy.ve, ?_⟩
    rcases hy.how with ⟨o1, o2, o3, o4, o5⟩ | ⟨p, h1, h2, h3y⟩
    · rw [f1 _ (Ne.symm hne)] at o2
      refine .inl ⟨o1, o2, o3, fun hl => o4 ?_, o5⟩
      have := hx.vs.len
      rw [put_len hi, at_find hi, n1]
      split
      · exact hl
      · rename_i hnf
        rcases hx.how with ⟨_, _, _, h4, _⟩ | ⟨p, h1, _, _⟩
        · exact absurd hl h4
        · exact absurd (by rw [show st.find? (fun y => decide (y.name = x.part)) = some p from h1]; rfl) hnf
    · rw [f1 _ (Ne.symm hne)] at h1
      refine .inr ⟨p, h1, h2, ?_⟩
      rcases h3y with ⟨o1, q, o2, o3, o4, o5, o6, o7, o8⟩ | ⟨o1, _, _⟩ | h | h | h | ⟨o1, o2, o3, o4⟩
      · have hyi : y.into ∈ mentions y := by simp [mentions, o1]
        have hni : y.into ≠ x.part := fun e => hd _ xp (by rw [← e]; exact hyi)
        rw [f1 _ hni] at o2
        refine .inl ⟨o1, q, o2, o3, o4, o5, o6, taken_iff.2 fun z hz ⟨e1, e2⟩ => ?_, o8⟩
        by_cases hzn : z.name = x.part
        · obtain ⟨w1, w2⟩ := wx z hz hzn (by rw [e1]; exact name_ne (vy.2.2.2.1 o1).1)
          exact taken_iff.1 o7 p1 ((m1 _).2 (.inl rfl)) ⟨by rw [w1, e1], by rw [w2, e2]⟩
        · exact taken_iff.1 o7 z ((m1 _).2 (.inr ⟨hz, hzn⟩)) ⟨e1, e2⟩
      · exact absurd o1 h3'
      · exact .inr (.inr (.inl h))
      · exact .inr (.inr (.inr (.inl h)))
      · exact .inr (.inr (.inr (.inr (.inl h))))
      · refine .inr (.inr (.inr (.inr (.inr ⟨o1, o2, holds_iff.2 fun z hz e1 => ?_, o4⟩))))
        have hp := (find_iff hi).1 h1
        by_cases hzn : z.name = x.part
        · obtain ⟨w1, w2⟩ := wx z hz hzn (by rw [e1, hp.2]; exact name_ne vy.1)
          exact holds_iff.1 o3 p1 ((m1 _).2 (.inl rfl)) (by rw [w1, e1])
        · exact holds_iff.1 o3 z ((m1 _).2 (.inr ⟨hz, hzn⟩)) e1
  refine ⟨hyst, hyst.valid, hx.ve, ?_⟩
  -- where the part of y is
  have wy : ∀ s, s ∈ mentions x → s ≠ nil8 → p2.into = s → ∃ z ∈ st, z.into = s ∧ z.slot = p2.slot ∧ z.name = y.part := fun s hs hsn he => by
    rcases hyst.how with ⟨_, h2, _, _, rfl⟩ | ⟨p, h1, _, h3y⟩
    · exact absurd he.symm hsn
    · have hp := (find_iff hi).1 h1
      rcases h3y with ⟨o1, q, _, _, _, _, o6, _, rfl⟩ | ⟨o1, _, _⟩ | ⟨_, _, rfl⟩ | ⟨_, rfl⟩ | ⟨_, _, rfl⟩ | ⟨_, _, _, rfl⟩
      · exact absurd (by rw [← he]; simp [mentions, o1]) (hd s hs)
      · exact absurd o1 h3'
      all_goals exact ⟨_, hp.1, he, rfl, hp.2⟩
  rcases hx.how with ⟨o1, o2, o3, o4, o5⟩ | ⟨p, h1, h2, h3x⟩
  · refine .inl ⟨o1, by rw [f2 _ hne]; exact o2, o3, fun hl => ?_, o5⟩
    rw [put_len hi, at_find hi, n2] at hl
    split at hl
    · exact o4 hl
    · rename_i hnf
      rcases hy.how with ⟨_, _, _, h4, _⟩ | ⟨p, h1, _, _⟩
      · apply h4
        rw [put_len hi, at_find hi, n1, if_neg]
        · exact hl
        · rw [show st.find? (fun y => decide (y.name = x.part)) = none from o2]; simp
      · rw [f1 _ (Ne.symm hne)] at h1
        exact hnf (by rw [show st.find? (fun z => decide (z.name = y.part)) = some p from h1]; rfl)
  · refine .inr ⟨p, by rw [f2 _ hne]; exact h1, h2, ?_⟩
    have hp := (find_iff hi).1 h1
    rcases h3x with ⟨o1, q, o2, o3, o4, o5, o6, o7, o8⟩ | ⟨o1, _, _⟩ | h | h | h | ⟨o1, o2, o3, o4⟩
    · have hxi : x.into ∈ mentions x := by simp [mentions, o1]
      have hni : x.into ≠ y.part := fun e => hd _ hxi (by rw [e]; exact yp)
      refine .inl ⟨o1, q, by rw [f2 _ hni]; exact o2, o3, o4, o5, o6, taken_iff.2 fun z hz ⟨e1, e2⟩ => ?_, o8⟩
      rcases (m2 z).1 hz with rfl | ⟨hz, _⟩
      · obtain ⟨w, hw, w1, w2, _⟩ := wy _ hxi (name_ne (vx.2.2.2.1 o1).1) e1
        exact taken_iff.1 o7 w hw ⟨w1, by rw [w2, e2]⟩
      · exact taken_iff.1 o7 z hz ⟨e1, e2⟩
    · exact absurd o1 h3
    · exact .inr (.inr (.inl h))
    · exact .inr (.inr (.inr (.inl h)))
    · exact .inr (.inr (.inr (.inr (.inl h))))
    · refine .inr (.inr (.inr (.inr (.inr ⟨o1, o2, holds_iff.2 fun z hz e1 => ?_, o4⟩))))
      rcases (m2 z).1 hz with rfl | ⟨hz, _⟩
      · obtain ⟨w, hw, w1, _, _⟩ := wy _ xp (name_ne vx.1) (by rw [e1, hp.2])
        exact holds_iff.1 o3 w hw (by rw [w1, hp.2])
      · exact holds_iff.1 o3 z hz e1
end Go.Sx

/- The course with two events exchanged. -/
set_option linter.all false
namespace Go.Sx
open Go
theorem names_of {e : Evt} (hv : validE e = true) (s : ByteArray) : s ∈ namesE e ↔ s ∈ mentions e := by
  unfold namesE mentions
  rw [if_neg (by simp [hv])]
  split
  · unfold minS maxS
    cases h1 : sLt e.part e.into with
    | true => simp
    | false =>
      by_cases h2 : e.part = e.into
      · rw [h2]; simp
      · simp [h2]
        constructor
        · rintro (h | h)
          · exact .inr h
          · exact .inl h
        · rintro (h | h)
          · exact .inr h
          · exact .inl h
  · rfl
end Go.Sx

/- The plain law of HistoryApart: events of parts that have nothing to do with each other. -/
set_option linter.all false
namespace Go.Sx
open Go
/-- a state in two parts: that of the names in D, and that of the others -/
structure Spl (D : ByteArray → Bool) (s a b : List Part) : Prop where
  is : Inc Part.name s
  ia : Inc Part.name a
  ib : Inc Part.name b
  mem : ∀ x, x ∈ s ↔ x ∈ a ∨ x ∈ b
  na : ∀ x ∈ a, D x.name = true ∧ (x.into = nil8 ∨ D x.into = true)
  nb : ∀ x ∈ b, D x.name = false ∧ (x.into = nil8 ∨ D x.into = false)
theorem Spl.nil (D : ByteArray → Bool) : Spl D [] [] [] := ⟨.nil, .nil, .nil, by simp, by simp, by simp⟩
theorem Spl.turn {D : ByteArray → Bool} {s a b : List Part} (h : Spl D s a b) : Spl (fun n => !D n) s b a :=
  ⟨h.is, h.ib, h.ia, fun x => by rw [h.mem x]; exact Or.comm, fun x hx => by simpa using h.nb x hx, fun x hx => by simpa using h.na x hx⟩
theorem Spl.find {D : ByteArray → Bool} {s a b : List Part} (h : Spl D s a b) {n : ByteArray} (hn : D n = true) : findP s n = findP a n := by
  refine Option.ext fun x => ?_
  show s.find? _ = some x ↔ a.find? _ = some x
  rw [find_iff h.is, find_iff h.ia, h.mem x]
  constructor
  · rintro ⟨h1 | h1, h2⟩
    · exact ⟨h1, h2⟩
    · have := (h.nb x h1).1
      rw [h2, hn] at this; cases this
  · rintro ⟨h1, h2⟩
    exact ⟨.inl h1, h2⟩
/-- an event of D alone -/
def Dev (D : ByteArray → Bool) (e : Evt) : Prop := ∀ z ∈ mentions e, D z = true
theorem Dev.part {D : ByteArray → Bool} {e : Evt} (h : Dev D e) : D e.part = true := h _ (by unfold mentions; split <;> simp)
theorem Dev.into {D : ByteArray → Bool} {e : Evt} (h : Dev D e) (ho : e.op = 2) : D e.into = true := h _ (by simp [mentions, ho])
theorem Spl.taken {D : ByteArray → Bool} {s a b : List Part} (h : Spl D s a b) {e : Evt} (hn : D e.into = true) (h0 : e.into ≠ nil8) : seatTaken s e = seatTaken a e := by
  unfold seatTaken
  rw [Bool.eq_iff_iff, List.any_eq_true, List.any_eq_true]
  constructor
  · rintro ⟨x, hx, hp⟩
    rcases (h.mem x).1 hx with h1 | h1
    · exact ⟨x, h1, hp⟩
    · have hi : x.into = e.into := by simp at hp; exact hp.1
      rcases (h.nb x h1).2 with h2 | h2
      · exact absurd (hi.symm.trans h2) h0
      · rw [hi, hn] at h2; cases h2
  · rintro ⟨x, hx, hp⟩
    exact ⟨x, (h.mem x).2 (.inl hx), hp⟩
theorem Spl.holds {D : ByteArray → Bool} {s a b : List Part} (h : Spl D s a b) {n : ByteArray} (hn : D n = true) (h0 : n ≠ nil8) : holdsAny s n = holdsAny a n := by
  unfold holdsAny
  rw [Bool.eq_iff_iff, List.any_eq_true, List.any_eq_true]
  constructor
  · rintro ⟨x, hx, hp⟩
    rcases (h.mem x).1 hx with h1 | h1
    · exact ⟨x, h1, hp⟩
    · have hi : x.into = n := by simpa using hp
      rcases (h.nb x h1).2 with h2 | h2
      · exact absurd (hi.symm.trans h2) h0
      · rw [hi, hn] at h2; cases h2
  · rintro ⟨x, hx, hp⟩
    exact ⟨x, (h.mem x).2 (.inl hx), hp⟩
theorem Spl.step {c : List Kind} {D : ByteArray → Bool} {s a b : List Part} (h : Spl D s a b) {e : Evt} (he : Dev D e) (vs : VS c s) (va : VS c a) (ls : s.length < 20000) (la : a.length < 20000) (p' : Part) : Step c s e p' ↔ Step c a e p' := by
  have f1 := h.find he.part
  constructor
  · intro hs
    obtain ⟨v1, v2, v3, v4, v5⟩ := validE_parts hs.ve
    refine ⟨va, hs.ve, ?_⟩
    rcases hs.how with ⟨h1, h2, h3, h4, h5⟩ | ⟨p, h1, h2, h3⟩
    · exact .inl ⟨h1, by rw [← f1]; exact h2, h3, by omega, h5⟩
    · refine .inr ⟨p, by rw [← f1]; exact h1, h2, ?_⟩
      have hpn : p.name = e.part := ((find_iff h.is).1 h1).2
      rcases h3 with ⟨o1, q, o2, o3, o4, o5, o6, o7, o8⟩ | h3 | h3 | h3 | h3 | ⟨o1, o2, o3, o4⟩
      · exact .inl ⟨o1, q, by rw [← h.find (he.into o1)]; exact o2, o3, o4, o5, o6, by rw [← h.taken (he.into o1) (name_ne (v4 o1).1)]; exact o7, o8⟩
      · exact .inr (.inl h3)
      · exact .inr (.inr (.inl h3))
      · exact .inr (.inr (.inr (.inl h3)))
      · exact .inr (.inr (.inr (.inr (.inl h3))))
      · exact .inr (.inr (.inr (.inr (.inr ⟨o1, o2, by rw [← h.holds (by rw [hpn]; exact he.part) (by rw [hpn]; exact name_ne v1)]; exact o3, o4⟩))))
  · intro hs
    obtain ⟨v1, v2, v3, v4, v5⟩ := validE_parts hs.ve
    refine ⟨vs, hs.ve, ?_⟩
    rcases hs.how with ⟨h1, h2, h3, h4, h5⟩ | ⟨p, h1, h2, h3⟩
    · exact .inl ⟨h1, by rw [f1]; exact h2, h3, by omega, h5⟩
    · refine .inr ⟨p, by rw [f1]; exact h1, h2, ?_⟩
      have hpn : p.name = e.part := ((find_iff h.ia).1 h1).2
      rcases h3 with ⟨o1, q, o2, o3, o4, o5, o6, o7, o8⟩ | h3 | h3 | h3 | h3 | ⟨o1, o2, o3, o4⟩
      · exact .inl ⟨o1, q, by rw [h.find (he.into o1)]; exact o2, o3, o4, o5, o6, by rw [h.taken (he.into o1) (name_ne (v4 o1).1)]; exact o7, o8⟩
      · exact .inr (.inl h3)
      · exact .inr (.inr (.inl h3))
      · exact .inr (.inr (.inr (.inl h3)))
      · exact .inr (.inr (.inr (.inr (.inl h3))))
      · exact .inr (.inr (.inr (.inr (.inr ⟨o1, o2, by rw [h.holds (by rw [hpn]; exact he.part) (by rw [hpn]; exact name_ne v1)]; exact o3, o4⟩))))
theorem Spl.put {c : List Kind} {D : ByteArray → Bool} {s a b : List Part} (h : Spl D s a b) {e : Evt} (he : Dev D e) {p' : Part} (hs : Step c a e p') : Spl D (putL Part.name s p') (putL Part.name a p') b := by
  have hn := hs.name
  refine ⟨put_inc _ h.is, put_inc _ h.ia, h.ib, fun x => ?_, fun x hx => ?_, h.nb⟩
  · rw [put_mem h.is, put_mem h.ia, h.mem x, hn]
    constructor
    · rintro (h1 | ⟨h1 | h1, h2⟩)
      · exact .inl (.inl h1)
      · exact .inl (.inr ⟨h1, h2⟩)
      · exact .inr h1
    · rintro ((h1 | ⟨h1, h2⟩) | h1)
      · exact .inl h1
      · exact .inr ⟨.inl h1, h2⟩
      · refine .inr ⟨.inr h1, fun h2 => ?_⟩
        have := (h.nb x h1).1
        rw [h2, he.part] at this; cases this
  · rcases (put_mem h.ia).1 hx with rfl | ⟨h1, _⟩
    · refine ⟨by rw [hn]; exact he.part, ?_⟩
      rcases hs.how with ⟨_, _, _, _, rfl⟩ | ⟨p, h1, h2, h3⟩
      · exact .inl rfl
      · have hp := h.na p ((find_iff h.ia).1 h1).1
        rcases h3 with ⟨o1, q, o2, o3, o4, o5, o6, o7, rfl⟩ | ⟨_, _, rfl⟩ | ⟨_, _, rfl⟩ | ⟨_, rfl⟩ | ⟨_, _, rfl⟩ | ⟨_, _, _, rfl⟩
        · exact .inr (he.into o1)
        · exact .inl rfl
        · exact hp.2
        · exact hp.2
        · exact hp.2
        · exact hp.2
    · exact h.na x h1
theorem put_le {l : List Part} {x : Part} (h : Inc Part.name l) : (putL Part.name l x).length ≤ l.length + 1 := by
  rw [put_len h]; split <;> omega
theorem step_or (c : List Kind) (s : List Part) (e : Evt) : (∃ p', Step c s e p' ∧ (applyF c s e).2 = 0 ∧ (applyF c s e).1 = putL Part.name s p') ∨ ((applyF c s e).2 ≠ 0 ∧ ∀ p', ¬ Step c s e p') := by
  by_cases h : (applyF c s e).2 = 0
  · obtain ⟨p', hp⟩ := of_apply h
    exact .inl ⟨p', hp, h, by rw [apply_of hp]; rfl⟩
  · exact .inr ⟨h, fun p' hp => h (by rw [apply_of hp]; rfl)⟩
theorem runs_split {c : List Kind} {D : ByteArray → Bool} : ∀ (Z : List Evt) (s a b : List Part), Spl D s a b → VS c s → VS c a → VS c b → s.length + Z.length < 20000 → a.length + Z.length < 20000 → b.length + Z.length < 20000 →
    (∀ e ∈ Z, Dev D e ∨ Dev (fun n => !D n) e) → (runsTo c s Z).isSome = ((runsTo c a (Z.filter fun e => D e.part)).isSome && (runsTo c b (Z.filter fun e => !D e.part)).isSome)
  | [], _, _, _, _, _, _, _, _, _, _, _ => rfl
  | e :: r, s, a, b, h, vs, va, vb, ls, la, lb, hd => by
    simp only [List.length_cons] at ls la lb
    rcases hd e (by simp) with he | he
    · have hp := he.part
      have hst := fun p' => h.step he vs va (by omega) (by omega) p'
      simp only [List.filter_cons, hp, Bool.not_true, if_true, Bool.false_eq_true, if_false]
      rcases step_or c a e with ⟨p', h1, h2, h3⟩ | ⟨h1, h2⟩
      · have h4 := (hst p').2 h1
        have e4 : applyF c s e = putR s p' := apply_of h4
        simp only [runsTo]
        rw [if_pos h2, h3, if_pos (by rw [e4]; rfl), e4]
        have l1 := put_le (x := p') h.is
        have l2 := put_le (x := p') h.ia
        exact runs_split r _ _ _ (h.put he h1) h4.valid h1.valid vb (by show (putL Part.name s p').length + r.length < 20000; omega) (by omega) (by omega) fun x hx => hd x (by simp [hx])
      · simp only [runsTo]
        rw [if_neg h1, if_neg (fun h0 => by obtain ⟨p', hp'⟩ := of_apply h0; exact h2 p' ((hst p').1 hp'))]
        rfl
    · have hp : D e.part = false := by simpa using he.part
      have hst := fun p' => h.turn.step he vs vb (by omega) (by omega) p'
      simp only [List.filter_cons, hp, Bool.not_false, if_true, Bool.false_eq_true, if_false]
      rcases step_or c b e with ⟨p', h1, h2, h3⟩ | ⟨h1, h2⟩
      · have h4 := (hst p').2 h1
        have e4 : applyF c s e = putR s p' := apply_of h4
        simp only [runsTo]
        rw [if_pos h2, h3, if_pos (by rw [e4]; rfl), e4]
        have l1 := put_le (x := p') h.is
        have l2 := put_le (x := p') h.ib
        have ht := (h.turn.put he h1).turn
        have ht : Spl D (putL Part.name s p') a (putL Part.name b p') := ⟨ht.is, ht.ia, ht.ib, ht.mem, fun x hx => by simpa using ht.na x hx, fun x hx => by simpa using ht.nb x hx⟩
        exact runs_split r _ _ _ ht h4.valid va h1.valid (by show (putL Part.name s p').length + r.length < 20000; omega) (by omega) (by omega) fun x hx => hd x (by simp [hx])
      · simp only [runsTo]
        rw [if_neg h1, if_neg (fun h0 => by obtain ⟨p', hp'⟩ := of_apply h0; exact h2 p' ((hst p').1 hp'))]
        simp
theorem vs_nil {c : List Kind} (h : validC c = true) : VS c [] := ⟨h, by simp, .nil, by simp, by simp, by simp, by simp⟩
/-! the law -/
/-! the names that are seen -/
def Seen (kvs : List (ByteArray × Value)) (p : ByteArray → Bool) : Prop := ∀ s, (mget kvs s).getD (.bool false) = .bool (p s)
theorem Seen.nil {p : ByteArray → Bool} (h : ∀ s, p s = false) : Seen [] p := fun s => by rw [h s]; rfl
theorem Seen.put {kvs : List (ByteArray × Value)} {p q : ByteArray → Bool} (h : Seen kvs p) (k : ByteArray) (hq : ∀ s, q s = (p s || decide (k = s))) : Seen (mput kvs k (.bool true)) q := fun s => by
  rw [mget_mput, hq s]
  by_cases hk : k = s
  · simp [hk]
  · simp [hk, h s]
theorem Seen.congr {kvs : List (ByteArray × Value)} {p q : ByteArray → Bool} (h : Seen kvs p) (hq : ∀ s, q s = p s) : Seen kvs q := fun s => by rw [h s, hq s]
end Go.Sx

/- Which reports belong together: forests, roots, components. -/
set_option linter.all false
namespace Go.Sx
open Go
/-! forests -/
/-- the index that an index has -/
def up (F : List Nat) (i : Nat) : Nat := F.getD i i
/-- the root of an index -/
def rt (F : List Nat) (i : Nat) : Nat := if h : up F i < i then rt F (up F i) else i
termination_by i
section
variable {F G : List Nat} {i j x : Nat}
theorem rt_step (h : up F i < i) : rt F i = rt F (up F i) := by rw [rt, dif_pos h]
theorem rt_stop (h : ¬ up F i < i) : rt F i = i := by rw [rt, dif_neg h]
theorem rt_le (F : List Nat) (i : Nat) : rt F i ≤ i := by
  induction i using Nat.strongRecOn with
  | ind i ih =>
    by_cases h : up F i < i
    · rw [rt_step h]; exact Nat.le_trans (ih _ h) (Nat.le_of_lt h)
    · rw [rt_stop h]; exact Nat.le_refl _
theorem rt_root (F : List Nat) (i : Nat) : ¬ up F (rt F i) < rt F i := by
  induction i using Nat.strongRecOn with
  | ind i ih =>
    by_cases h : up F i < i
    · rw [rt_step h]; exact ih _ h
    · rw [rt_stop h]; exact h
theorem rt_idem (F : List Nat) (i : Nat) : rt F (rt F i) = rt F i := rt_stop (rt_root F i)
theorem rt_congr (h : ∀ j, up F j = up G j) (i : Nat) : rt F i = rt G i := by
  induction i using Nat.strongRecOn with
  | ind i ih =>
    by_cases h1 : up F i < i
    · rw [rt_step h1, rt_step (F := G) (by rw [← h]; exact h1), ← h i]; exact ih _ h1
    · rw [rt_stop h1, rt_stop (F := G) (by rw [← h]; exact h1)]
/-- each has a lesser one, or itself -/
def Fst (F : List Nat) : Prop := ∀ i, up F i ≤ i
theorem up_at (hi : i < F.length) : up F i = F[i] := by simp [up, List.getD, hi]
theorem up_set (hi : i < F.length) : up (F.set i x) j = if j = i then x else up F j := by
  unfold up List.getD
  rw [List.getElem?_set]
  by_cases h : i = j
  · subst h; simp [hi]
  · have h2 : ¬ j = i := fun e => h e.symm
    simp [h, h2]
theorem Fst.half (h : Fst F) (hi : i < F.length) : Fst (F.set i (up F (up F i))) ∧ ∀ j, rt (F.set i (up F (up F i))) j = rt F j := by
  refine ⟨fun j => ?_, fun j => ?_⟩
  · rw [up_set hi]
    split
    · rename_i e; subst e; exact Nat.le_trans (h _) (h _)
    · exact h j
  · induction j using Nat.strongRecOn with
    | ind j ih =>
      by_cases e : j = i
      · subst e
        have e1 : up (F.set j (up F (up F j))) j = up F (up F j) := by rw [up_set hi, if_pos rfl]
        by_cases h1 : up F j < j
        · have h2 : up F (up F j) < j := Nat.lt_of_le_of_lt (h _) h1
          rw [rt_step (by rw [e1]; exact h2), e1, ih _ h2, rt_step h1]
          by_cases h3 : up F (up F j) < up F j
          · rw [rt_step h3]
          · have h4 : up F (up F j) = up F j := Nat.le_antisymm (h _) (Nat.not_lt.1 h3)
            rw [h4]
        · have h4 : up F j = j := Nat.le_antisymm (h _) (Nat.not_lt.1 h1)
          rw [rt_stop h1, rt_stop (by rw [e1, h4, h4]; exact Nat.lt_irrefl _)]
      · have e1 : up (F.set i (up F (up F i))) j = up F j := by rw [up_set hi, if_neg e]
        by_cases h1 : up F j < j
        · rw [rt_step (by rw [e1]; exact h1), e1, ih _ h1, rt_step h1]
        · rw [rt_stop h1, rt_stop (by rw [e1]; exact h1)]
theorem Fst.join {a b : Nat} (h : Fst F) (ha : rt F a = a) (hb : rt F b = b) (hab : a ≤ b) (hl : b < F.length) : Fst (F.set b a) ∧ ∀ j, rt (F.set b a) j = if rt F j = b then a else rt F j := by
  have ua : ¬ up F a < a := by have := rt_root F a; rwa [ha] at this
  have ub : ¬ up F b < b := by have := rt_root F b; rwa [hb] at this
  refine ⟨fun j => ?_, fun j => ?_⟩
  · rw [up_set hl]
    split
    · omega
    · exact h j
  · induction j using Nat.strongRecOn with
    | ind j ih =>
      by_cases e : j = b
      · subst e
        have e1 : up (F.set j a) j = a := by rw [up_set hl, if_pos rfl]
        by_cases h1 : a < j
        · rw [rt_step (by rw [e1]; exact h1), e1, ih _ h1, ha, hb, if_pos rfl, if_neg (by omega)]
        · have : a = j := by omega
          subst this
          rw [rt_stop (by rw [e1]; exact h1), ha, if_pos rfl]
      · have e1 : up (F.set b a) j = up F j := by rw [up_set hl, if_neg e]
        by_cases h1 : up F j < j
        · rw [rt_step (by rw [e1]; exact h1), e1, ih _ h1, ← rt_step h1]
        · rw [rt_stop h1, rt_stop (by rw [e1]; exact h1), if_neg e]
theorem Fst.meet {a b : Nat} (h : Fst F) (ha : rt F a = a) (hb : rt F b = b) (hla : a < F.length) (hlb : b < F.length) : Fst (F.set (max a b) (min a b)) ∧ ∀ j, rt (F.set (max a b) (min a b)) j = if rt F j = a ∨ rt F j = b then min a b else rt F j := by
  rcases Nat.le_total a b with hab | hab
  · rw [Nat.max_eq_right hab, Nat.min_eq_left hab]
    obtain ⟨h1, h2⟩ := h.join ha hb hab hlb
    refine ⟨h1, fun j => ?_⟩
    rw [h2 j]
    by_cases e1 : rt F j = b
    · rw [if_pos e1, if_pos (.inr e1)]
    · by_cases e2 : rt F j = a
      · rw [if_neg e1, if_pos (.inl e2), e2]
      · rw [if_neg e1, if_neg (by rintro (h | h) <;> contradiction)]
  · rw [Nat.max_eq_left hab, Nat.min_eq_right hab]
    obtain ⟨h1, h2⟩ := h.join hb ha hab hla
    refine ⟨h1, fun j => ?_⟩
    rw [h2 j]
    by_cases e1 : rt F j = a
    · rw [if_pos e1, if_pos (.inl e1)]
    · by_cases e2 : rt F j = b
      · rw [if_neg e1, if_pos (.inr e2), e2]
      · rw [if_neg e1, if_neg (by rintro (h | h) <;> contradiction)]
theorem up_snoc (F : List Nat) (j : Nat) : up (F ++ [F.length]) j = up F j := by
  unfold up List.getD
  rcases Nat.lt_or_ge j F.length with h | h
  · rw [List.getElem?_append_left h]
  · rw [List.getElem?_append_right h, List.getElem?_eq_none h]
    rcases Nat.eq_or_lt_of_le h with e | h2
    · subst e; simp
    · rw [List.getElem?_eq_none (by simp; omega)]
theorem Fst.snoc (h : Fst F) : Fst (F ++ [F.length]) := fun j => by rw [up_snoc]; exact h j
theorem rt_snoc (F : List Nat) (j : Nat) : rt (F ++ [F.length]) j = rt F j := rt_congr (up_snoc F) j
theorem rt_out (h : F.length ≤ i) : rt F i = i := rt_stop (by unfold up List.getD; rw [List.getElem?_eq_none h]; simp)
end
/-! reports that are linked -/
/-- a valid report mentions a name -/
def nm (r : Rep) (z : ByteArray) : Prop := validRep r = true ∧ ∃ e ∈ r.options, z ∈ mentions e
theorem nm_of {r : Rep} {ns : List ByteArray} (hn : NamesOf r ns) (z : ByteArray) : z ∈ ns ↔ nm r z := by
  rw [hn.1 z]
  constructor
  · rintro ⟨hv, e, he, h⟩; exact ⟨hv, e, he, (names_of (validRep_e hv e he) z).1 h⟩
  · rintro ⟨hv, e, he, h⟩; exact ⟨hv, e, he, (names_of (validRep_e hv e he) z).2 h⟩
inductive Lnk (l : List Rep) : Nat → Nat → Prop
  | refl (i : Nat) : Lnk l i i
  | one {i k : Nat} {z : ByteArray} (hi : i < l.length) (hk : k < l.length) (h1 : nm l[i] z) (h2 : nm l[k] z) : Lnk l i k
  | symm {i k : Nat} : Lnk l i k → Lnk l k i
  | trans {i k m : Nat} : Lnk l i k → Lnk l k m → Lnk l i m
/-- the least ones of components -/
structure Rts (l : List Rep) (R : Nat → Nat) : Prop where
  le : ∀ i, R i ≤ i
  idem : ∀ i, R (R i) = R i
  share : ∀ {i k : Nat} {z : ByteArray} (hi : i < l.length) (hk : k < l.length), nm l[i] z → nm l[k] z → R i = R k
  sound : ∀ i, Lnk l i (R i)
theorem Rts.lnk {l : List Rep} {R : Nat → Nat} (h : Rts l R) {i k : Nat} (hl : Lnk l i k) : R i = R k := by
  induction hl with
  | refl => rfl
  | one hi hk h1 h2 => exact h.share hi hk h1 h2
  | symm _ ih => exact ih.symm
  | trans _ _ h1 h2 => exact h1.trans h2
theorem Rts.uniq {l : List Rep} {R R' : Nat → Nat} (h : Rts l R) (h' : Rts l R') : R = R' := by
  funext i
  have h1 := h'.lnk (h.sound i)
  have h2 := h.lnk (h'.sound i)
  have h3 := h'.le (R i)
  have h4 := h.le (R' i)
  omega
theorem least_ex {p : Nat → Prop} : ∀ n, p n → ∃ m, p m ∧ m ≤ n ∧ ∀ k, p k → m ≤ k := by
  intro n
  induction n using Nat.strongRecOn with
  | ind n ih =>
    intro hn
    by_cases h : ∃ k, k < n ∧ p k
    · obtain ⟨k, hk, hp⟩ := h
      obtain ⟨m, h1, h2, h3⟩ := ih k hk hp
      exact ⟨m, h1, by omega, h3⟩
    · exact ⟨n, hn, Nat.le_refl _, fun k hk => Nat.le_of_not_lt fun h2 => h ⟨k, h2, hk⟩⟩
theorem roots_ex (l : List Rep) : ∃ R, Rts l R := by
  have h : ∀ i, ∃ m, Lnk l i m ∧ m ≤ i ∧ ∀ k, Lnk l i k → m ≤ k := fun i => least_ex i (.refl i)
  refine ⟨fun i => Classical.choose (h i), ?_⟩
  have hs := fun i => (Classical.choose_spec (h i)).1
  have hle := fun i => (Classical.choose_spec (h i)).2.1
  have hm := fun i => (Classical.choose_spec (h i)).2.2
  have key : ∀ i k, Lnk l i k → Classical.choose (h i) = Classical.choose (h k) := fun i k hl => by
    have h1 := hm i _ (hl.trans (hs k))
    have h2 := hm k _ (hl.symm.trans (hs i))
    omega
  exact ⟨hle, fun i => (key _ _ (hs i)).symm, fun hi hk h1 h2 => key _ _ (.one hi hk h1 h2), hs⟩
/-! what linking does, step by step -/
structure Lkd (l : List Rep) (n : Nat) (S : Nat → ByteArray → Prop) (F : List Nat) (fm : ByteArray → Option Nat) : Prop where
  fst : Fst F
  len : F.length = n
  nl : n ≤ l.length
  lt : ∀ k z, S k z → k < n
  seen : ∀ k z, S k z → ∃ q, fm z = some q ∧ rt F q = rt F k
  own : ∀ z q, fm z = some q → q < n ∧ ∃ h : q < l.length, nm l[q] z
  sound : ∀ k, Lnk l k (rt F k)
section
variable {l : List Rep} {n i : Nat} {S S' : Nat → ByteArray → Prop} {F F' : List Nat} {fm : ByteArray → Option Nat} {z : ByteArray}
theorem Lkd.start : Lkd l 0 (fun _ _ => False) [] (fun _ => none) :=
  ⟨fun i => by simp [up], rfl, Nat.zero_le _, fun _ _ h => h.elim, fun _ _ h => h.elim, fun _ _ h => by simp at h, fun k => by rw [rt_out (by simp)]; exact .refl k⟩
theorem Lkd.congr (h : Lkd l n S F fm) (hS : ∀ k z, S' k z → S k z) : Lkd l n S' F fm :=
  ⟨h.fst, h.len, h.nl, fun k z q => h.lt k z (hS k z q), fun k z q => h.seen k z (hS k z q), h.own, h.sound⟩
theorem Lkd.push (h : Lkd l n S F fm) (hn : n < l.length) : Lkd l (n + 1) S (F ++ [n]) fm := by
  obtain rfl := h.len
  refine ⟨h.fst.snoc, by simp, hn, fun k z q => by have := h.lt k z q; omega, fun k z q => ?_, fun z q hq => ?_, fun k => by rw [rt_snoc]; exact h.sound k⟩
  · obtain ⟨m, h1, h2⟩ := h.seen k z q
    exact ⟨m, h1, by rw [rt_snoc, rt_snoc]; exact h2⟩
  · obtain ⟨h1, h2⟩ := h.own z q hq
    exact ⟨by omega, h2⟩
theorem Lkd.same (h : Lkd l n S F fm) (hf : Fst F') (hl : F'.length = F.length) (hr : ∀ j, rt F' j = rt F j) : Lkd l n S F' fm :=
  ⟨hf, hl.trans h.len, h.nl, h.lt, fun k z q => by obtain ⟨m, h1, h2⟩ := h.seen k z q; exact ⟨m, h1, by rw [hr, hr]; exact h2⟩, h.own, fun k => by rw [hr]; exact h.sound k⟩
theorem Lkd.hit {q : Nat} (h : Lkd l n S F fm) (hi : i < n) (hz : ∃ h : i < l.length, nm l[i] z) (hq : fm z = some q) (hf : Fst F') (hl : F'.length = F.length) (hr : ∀ j, rt F' j = if rt F j = rt F q ∨ rt F j = rt F i then min (rt F q) (rt F i) else rt F j) :
    Lkd l n (fun k y => S k y ∨ k = i ∧ y = z) F' fm := by
  have hc : ∀ a b, rt F a = rt F b → rt F' a = rt F' b := fun a b e => by rw [hr, hr, e]
  refine ⟨hf, hl.trans h.len, h.nl, fun k y hk => ?_, fun k y hk => ?_, h.own, fun k => ?_⟩
  · rcases hk with hk | ⟨rfl, rfl⟩
    · exact h.lt k y hk
    · exact hi
  · rcases hk with hk | ⟨rfl, rfl⟩
    · obtain ⟨m, h1, h2⟩ := h.seen k y hk
      exact ⟨m, h1, hc _ _ h2⟩
    · exact ⟨q, hq, by rw [hr, hr, if_pos (.inl rfl), if_pos (.inr rfl)]⟩
  · rw [hr]
    obtain ⟨_, hql, hqz⟩ := h.own z q hq
    obtain ⟨hil, hiz⟩ := hz
    have hqi : Lnk l q i := .one hql hil hqz hiz
    split
    · rename_i e
      have h1 : Lnk l k q := by
        rcases e with e | e
        · exact (h.sound k).trans (e ▸ (h.sound q).symm)
        · exact ((h.sound k).trans (e ▸ (h.sound i).symm)).trans hqi.symm
      rcases Nat.le_total (rt F q) (rt F i) with h2 | h2
      · rw [Nat.min_eq_left h2]; exact h1.trans (h.sound q)
      · rw [Nat.min_eq_right h2]; exact (h1.trans hqi).trans (h.sound i)
    · exact h.sound k
theorem Lkd.new (h : Lkd l n S F fm) (hi : i < n) (hz : ∃ h : i < l.length, nm l[i] z) (hq : fm z = none) : Lkd l n (fun k y => S k y ∨ k = i ∧ y = z) F (fun y => if z = y then some i else fm y) := by
  refine ⟨h.fst, h.len, h.nl, fun k y hk => ?_, fun k y hk => ?_, fun y q hy => ?_, h.sound⟩
  · rcases hk with hk | ⟨rfl, rfl⟩
    · exact h.lt k y hk
    · exact hi
  · rcases hk with hk | ⟨rfl, rfl⟩
    · obtain ⟨m, h1, h2⟩ := h.seen k y hk
      refine ⟨m, ?_, h2⟩
      show (if z = y then some i else fm y) = some m
      rw [if_neg (by rintro rfl; rw [hq] at h1; cases h1)]; exact h1
    · exact ⟨k, by simp, rfl⟩
  · split at hy
    · rename_i e; subst e
      obtain rfl := Option.some.inj hy
      exact ⟨hi, hz⟩
    · exact h.own y q hy
theorem Lkd.done (h : Lkd l l.length S F fm) (hS : ∀ k z (hk : k < l.length), nm l[k] z → S k z) : Rts l (rt F) := by
  refine ⟨rt_le F, rt_idem F, fun {i k z} hi hk h1 h2 => ?_, h.sound⟩
  obtain ⟨q, e1, e2⟩ := h.seen i z (hS i z hi h1)
  obtain ⟨q', e3, e4⟩ := h.seen k z (hS k z hk h2)
  rw [e1] at e3
  obtain rfl := Option.some.inj e3
  exact e2.symm.trans e4
end
/-! components -/
/-- the roots below a number, in order -/
def rootsN (R : Nat → Nat) (n : Nat) : List Nat := (List.range n).filter fun i => decide (R i = i)
/-- the members of a component below a number -/
def membN (R : Nat → Nat) (n r : Nat) : List Nat := (List.range n).filter fun k => decide (R k = r)
section
variable {R : Nat → Nat} {n r k : Nat}
theorem mem_roots : k ∈ rootsN R n ↔ k < n ∧ R k = k := by simp [rootsN]
theorem mem_memb : k ∈ membN R n r ↔ k < n ∧ R k = r := by simp [membN]
theorem memb_succ : membN R (n + 1) r = if R n = r then membN R n r ++ [n] else membN R n r := by
  unfold membN
  rw [List.range_succ, List.filter_append]
  by_cases h : R n = r <;> simp [h]
theorem roots_nodup : (rootsN R n).Nodup := List.nodup_range.filter _
end
end Go.Sx

/- Lists of one's own within a list of one's own; maps with numbers as_ keys. -/
set_option linter.all false
namespace Go.Sx
open Go
theorem Fst.rt_up {F : List Nat} (h : Fst F) (i : Nat) : rt F (up F i) = rt F i := by
  by_cases h1 : up F i < i
  · rw [rt_step h1]
  · rw [show up F i = i from Nat.le_antisymm (h i) (Nat.not_lt.1 h1)]
/-! numbers -/
def natC (F : List Nat) : List (List Value) := F.map fun (x : Nat) => [ci (x : Int)]
def nI (F : List Nat) : List Int := F.map fun (x : Nat) => (x : Int)
section
variable {F : List Nat} {rest : List (List Value)} {i x : Nat}
theorem natC_uk (F : List Nat) : Uk 1 (natC F) := fun c hc => by obtain ⟨x, _, rfl⟩ := List.mem_map.1 hc; rfl
theorem natC_len (F : List Nat) : (natC F).length = F.length := by simp [natC]
theorem natC_at (h : i < F.length) : (natC F ++ rest)[i]? = some [ci ((F[i] : Nat) : Int)] := by
  rw [List.getElem?_append_left (by rw [natC_len]; exact h)]; simp [natC, h]
theorem natC_set (h : i < F.length) (x : Nat) : (natC F ++ rest).set i [ci (x : Int)] = natC (F.set i x) ++ rest := by
  rw [List.set_append_left _ _ (by rw [natC_len]; exact h)]; simp [natC, List.map_set]
theorem natC_snoc (F : List Nat) (x : Nat) : (natC F).flatten ++ [ci (x : Int)] = (natC (F ++ [x])).flatten := by simp [natC]
theorem nI_len (F : List Nat) : (nI F).length = F.length := by simp [nI]
theorem nI_at (h : i < F.length) (h2 : i < (nI F).length) : (nI F)[i] = (F[i] : Nat) := by simp [nI]
end
/-! maps with numbers as_ keys -/
/-! things of one kind, as_ many as_ a list has elements -/
section
variable {P : Program} {n : Sz} {E : Ent} {I : IMap} {L : LL} {H : List Res} {K : Act → World → Prop} {α : Type} {f : α → Res} {l : List α} {k : Nat} {a b c d e : Res}
end
/-! lists of numbers of one's own -/
/-- a list of numbers: its value, its elements -/
abbrev Lst := Value × List Nat
section
variable {P : Program} {n : Sz} {E : Ent} {I : IMap} {L : LL} {H : List Res} {K : Act → World → Prop} {e : Nat}
end
section
variable {P : List Lst} {rest : List (List Value)} {k : Nat}
end
section
variable {n : Sz} {E : Ent} {I : IMap} {L : LL} {H : List Res} {K : Act → World → Prop} {e : Nat} {v : Value} {q : List Nat} {x : Nat}
end
section
variable {R : Nat → Nat} {i k r : Nat}
end
theorem map_put {kvs : List (ByteArray × Value)} {fm : ByteArray → Option Nat} (hM : ∀ z, mget kvs z = (fm z).map fun (q : Nat) => Value.int .i64 (q : Int)) (k : ByteArray) (i : Nat) : ∀ z, mget (mput kvs k (.int .i64 (i : Int))) z = (if k = z then some i else fm z).map fun (q : Nat) => Value.int .i64 (q : Int) := fun z => by
  rw [mget_mput, hM z]; split <;> rfl
/-- steps of linking -/
theorem lkd_next {a : Prop} {k i j : Nat} {z : ByteArray} {ns : List ByteArray} (hj : j < ns.length) (h : a ∨ (k = i ∧ z ∈ ns.take (j + 1))) : (a ∨ (k = i ∧ z ∈ ns.take j)) ∨ (k = i ∧ z = ns[j]) := by
  rcases h with h | ⟨h1, h2⟩
  · exact .inl (.inl h)
  · rw [← take_succ_of hj] at h2
    rcases List.mem_append.1 h2 with h2 | h2
    · exact .inl (.inr ⟨h1, h2⟩)
    · exact .inr ⟨h1, List.mem_singleton.1 h2⟩
theorem lkd_row {l : List Rep} {i k : Nat} {z : ByteArray} {ns : List ByteArray} (hi : i < l.length) (hn : NamesOf l[i] ns) (h : k < i + 1 ∧ ∃ h : k < l.length, nm l[k] z) : (k < i ∧ ∃ h : k < l.length, nm l[k] z) ∨ (k = i ∧ z ∈ ns) := by
  obtain ⟨h1, h2, h3⟩ := h
  rcases Nat.lt_or_ge k i with h4 | h4
  · exact .inl ⟨h4, h2, h3⟩
  · obtain rfl : k = i := by omega
    exact .inr ⟨rfl, (nm_of hn z).2 h3⟩
end Go.Sx

/- Histories of all reports are those of the components, put together. -/
set_option linter.all false
namespace Go.Sx
open Go
/-- the elements at some indices -/
def pickN {α : Type} (l : List α) (C : List Nat) : List α := C.filterMap fun i => l[i]?
section
variable {α : Type} {l : List α} {C : List Nat}
theorem pickN_cons {i : Nat} (h : i < l.length) (C : List Nat) : pickN l (i :: C) = l[i] :: pickN l C := by
  simp [pickN, List.filterMap_cons, h]
theorem pickN_len (h : ∀ i ∈ C, i < l.length) : (pickN l C).length = C.length := by
  induction C with
  | nil => rfl
  | cons i C ih => rw [pickN_cons (h i (by simp))]; simp [ih fun k hk => h k (by simp [hk])]
theorem pickN_at (h : ∀ i ∈ C, i < l.length) {k : Nat} (hk : k < C.length) : (pickN l C)[k]? = some (l[C[k]]'(h _ (List.getElem_mem hk))) := by
  induction C generalizing k with
  | nil => simp at hk
  | cons i C ih =>
    rw [pickN_cons (h i (by simp))]
    cases k with
    | zero => simp
    | succ k => simpa using ih (fun k hk => h k (by simp [hk])) (by simpa using hk)
theorem pickN_get (h : ∀ i ∈ C, i < l.length) {k : Nat} (hk : k < C.length) (h2 : k < (pickN l C).length) : (pickN l C)[k] = l[C[k]]'(h _ (List.getElem_mem hk)) := by
  have := pickN_at h hk
  rw [List.getElem?_eq_getElem h2] at this
  exact Option.some.inj this
theorem pickN_mem {x : α} (h : x ∈ pickN l C) : x ∈ l := by
  obtain ⟨i, _, hi⟩ := List.mem_filterMap.1 h
  exact List.mem_of_getElem? hi
theorem pickN_append (A B : List Nat) : pickN l (A ++ B) = pickN l A ++ pickN l B := by simp [pickN]
theorem pickN_range (l : List α) : pickN l (List.range l.length) = l := by
  refine List.ext_getElem ?_ fun k h1 h2 => ?_
  · rw [pickN_len (fun i hi => List.mem_range.1 hi), List.length_range]
  · rw [pickN_get (fun i hi => List.mem_range.1 hi) (by simpa using h2)]; simp
end
/-- the event that an index picks -/
def gE (d : Int) (l : List Rep) (t : List Int) (i : Nat) : Option Evt := (at2 (optAt d) l t i).join
theorem pickE_pick {d : Int} {l : List Rep} {t : List Int} {C : List Nat} (hl : t.length = l.length) (h : ∀ i ∈ C, i < l.length) : pickE d (pickN l C) (pickN t C) = C.filterMap (gE d l t) := by
  induction C with
  | nil => rfl
  | cons i C ih =>
    have hi := h i (by simp)
    rw [pickN_cons hi, pickN_cons (by omega), pickE, List.zip_cons_cons, List.filterMap_cons, List.filterMap_cons, gE, at2_eq hi (by omega)]
    have := ih fun k hk => h k (by simp [hk])
    rw [pickE] at this
    simp only [Option.join_some]
    rw [this]
theorem pickE_range {d : Int} {l : List Rep} {t : List Int} (hl : t.length = l.length) : pickE d l t = (List.range l.length).filterMap (gE d l t) := by
  have := pickE_pick (d := d) (l := l) (t := t) (C := List.range l.length) hl fun i hi => List.mem_range.1 hi
  rw [pickN_range] at this
  conv at this => lhs; arg 3; rw [← hl, pickN_range]
  exact this
/-- whether events are possible -/
def okE (c : List Kind) (E : List Evt) : Bool := (runsTo c [] (sortF E)).isSome
theorem ok_split {c : List Kind} {D : ByteArray → Bool} {E : List Evt} (hv : validC c = true) (hl : E.length < 20000) (hE : ∀ e ∈ E, Dev D e ∨ Dev (fun n => !D n) e) : okE c E = (okE c (E.filter fun e => D e.part) && okE c (E.filter fun e => !D e.part)) := by
  have hc := vs_nil hv
  have hlen : (sortF E).length < 20000 := by rw [sortF_len]; exact hl
  unfold okE
  rw [runs_split (D := D) _ [] [] [] (Spl.nil _) hc hc hc (by simpa using hlen) (by simpa using hlen) (by simpa using hlen) (fun e he => hE e (sortF_mem.1 he)), sortF_filt (fun e : Evt => D e.part), sortF_filt (fun e : Evt => !D e.part)]
theorem fm_congr {α β : Type} {f g : α → Option β} : ∀ {l : List α}, (∀ x ∈ l, f x = g x) → l.filterMap f = l.filterMap g
  | [], _ => rfl
  | x :: l, h => by rw [List.filterMap_cons, List.filterMap_cons, h x (by simp), fm_congr fun y hy => h y (by simp [hy])]
theorem all_same {α : Type} {f g : α → Bool} : ∀ {l : List α}, (∀ x ∈ l, f x = g x) → l.all f = l.all g
  | [], _ => rfl
  | x :: l, h => by rw [List.all_cons, List.all_cons, h x (by simp), all_same fun y hy => h y (by simp [hy])]
theorem ok_prod {c : List Kind} (D : Nat → ByteArray → Bool) (hv : validC c = true) : ∀ (rs : List Nat) (E : List Evt), rs.Nodup → E.length < 20000 → (∀ e ∈ E, ∃ r ∈ rs, Dev (D r) e ∧ ∀ r' ∈ rs, r' ≠ r → Dev (fun n => !D r' n) e) → okE c E = rs.all fun r => okE c (E.filter fun e => D r e.part)
  | [], E, _, _, h => by
    cases E with
    | nil => rfl
    | cons e E => obtain ⟨r, hr, _⟩ := h e (by simp); cases hr
  | r :: rs, E, hn, hl, h => by
    have hn' := List.nodup_cons.1 hn
    rw [ok_split (D := D r) hv hl (fun e he => by
      obtain ⟨q, hq, h1, h2⟩ := h e he
      by_cases e1 : q = r
      · subst e1; exact .inl h1
      · exact .inr (h2 r (by simp) fun h => e1 h.symm)), List.all_cons]
    congr 1
    rw [ok_prod D hv rs _ hn'.2 (Nat.lt_of_le_of_lt (List.length_filter_le _ _) hl) fun e he => ?_]
    · refine all_same fun q hq => ?_
      rw [List.filter_filter]
      congr 1
      refine List.filter_congr fun e he => ?_
      cases hd : D q e.part with
      | false => rfl
      | true =>
        obtain ⟨q0, hq0, h1, h2⟩ := h e he
        have hne : r ≠ q0 := by
          rintro rfl
          have := (h2 q (by simp [hq]) (fun e => hn'.1 (e ▸ hq))).part
          simp [hd] at this
        have := (h2 r (by simp) hne).part
        simpa using this
    · obtain ⟨he, hd⟩ := List.mem_filter.1 he
      obtain ⟨q, hq, h1, h2⟩ := h e he
      rcases List.mem_cons.1 hq with rfl | hq'
      · have := h1.part; simp [this] at hd
      · exact ⟨q, hq', h1, fun r' hr' => h2 r' (by simp [hr'])⟩
/-- whether some report of a component mentions a name -/
def clsB (l : List Rep) (R : Nat → Nat) (r : Nat) (z : ByteArray) : Bool := (List.range l.length).any fun i => decide (R i = r) && ((l[i]?).map fun q : Rep => q.options.any fun e => decide (z ∈ mentions e)).getD false
section
variable {c : List Kind} {l : List Rep} {R : Nat → Nat} {t : List Int} {r : Nat}
theorem clsB_is {z : ByteArray} : clsB l R r z = true ↔ ∃ i, ∃ h : i < l.length, R i = r ∧ ∃ e ∈ l[i].options, z ∈ mentions e := by
  unfold clsB
  rw [List.any_eq_true]
  constructor
  · rintro ⟨i, hi, h⟩
    have hi := List.mem_range.1 hi
    rw [List.getElem?_eq_getElem hi] at h
    simp only [Bool.and_eq_true, decide_eq_true_eq, Option.map_some, Option.getD_some, List.any_eq_true] at h
    exact ⟨i, hi, h.1, h.2⟩
  · rintro ⟨i, hi, h1, h2⟩
    refine ⟨i, List.mem_range.2 hi, ?_⟩
    rw [List.getElem?_eq_getElem hi]
    simp only [Bool.and_eq_true, decide_eq_true_eq, Option.map_some, Option.getD_some, List.any_eq_true]
    exact ⟨h1, h2⟩
theorem memb_lt {n i : Nat} (h : i ∈ membN R n r) : i < n := (mem_memb.1 h).1
theorem memb_nodup {n : Nat} : (membN R n r).Nodup := List.nodup_range.filter _
theorem pick_given (hc : validC c = true) (hp : ∀ q ∈ l, chs q ≠ 0) (ht : t ∈ allCh l) {C : List Nat} (h : ∀ i ∈ C, i < l.length) : pickN t C ∈ allCh (pickN l C) := by
  obtain ⟨hl, hb⟩ := all_mem.1 ht
  have h' : ∀ i ∈ C, i < t.length := fun i hi => by rw [hl]; exact h i hi
  refine all_mem.2 ⟨by rw [pickN_len h, pickN_len h'], fun i h1 h2 => ?_⟩
  have hi : i < C.length := by rw [pickN_len h] at h1; exact h1
  rw [pickN_get h hi, pickN_get h' hi]
  exact hb _ (h _ (List.getElem_mem hi)) (h' _ (List.getElem_mem hi))
theorem pick_pos (hp : ∀ q ∈ l, chs q ≠ 0) (C : List Nat) : ∀ q ∈ pickN l C, chs q ≠ 0 := fun q hq => hp q (pickN_mem hq)
theorem valid_chs {q : Rep} (h : chs q ≠ 0) : validRep q = true := by
  cases hv : validRep q with
  | true => rfl
  | false => exact absurd (by simp [chs, hv]) h
theorem hist_prod (hR : Rts l R) (hc : validC c = true) (hp : ∀ q ∈ l, chs q ≠ 0) (hl : l.length < 20000) (ht : t ∈ allCh l) : isF c l t = (rootsN R l.length).all fun r => isF c (pickN l (membN R l.length r)) (pickN t (membN R l.length r)) := by
  obtain ⟨htl, hb⟩ := all_mem.1 ht
  rw [is_ev ((all_given hc hp t).2 ht)]
  have h1 : ∀ r ∈ rootsN R l.length, isF c (pickN l (membN R l.length r)) (pickN t (membN R l.length r)) = okE c ((membN R l.length r).filterMap (gE 40001 l t)) := fun r _ => by
    rw [is_ev ((all_given hc (pick_pos hp _) _).2 (pick_given hc hp ht fun i hi => memb_lt hi)), pickE_pick htl fun i hi => memb_lt hi]; rfl
  rw [all_same h1]
  have hg : ∀ i e, gE 40001 l t i = some e → ∃ h : i < l.length, e ∈ l[i].options := fun i e he => by
    rcases Nat.lt_or_ge i l.length with hi | hi
    · rw [gE, at2_eq hi (by omega)] at he
      exact ⟨hi, opt_some (by simpa using he)⟩
    · rw [gE, at2, List.getElem?_eq_none hi] at he; simp at he
  have hcl : ∀ i e, gE 40001 l t i = some e → ∀ z ∈ mentions e, ∀ r, clsB l R r z = decide (R i = r) := fun i e he z hz r => by
    obtain ⟨hi, hm⟩ := hg i e he
    rw [Bool.eq_iff_iff, clsB_is, decide_eq_true_eq]
    constructor
    · rintro ⟨k, hk, rfl, f, hf, h2⟩
      exact hR.share hi hk ⟨valid_chs (hp _ (List.getElem_mem hi)), e, hm, hz⟩ ⟨valid_chs (hp _ (List.getElem_mem hk)), f, hf, h2⟩
    · rintro rfl
      exact ⟨i, hi, rfl, e, hm, hz⟩
  have hpart : ∀ e : Evt, e.part ∈ mentions e := fun e => by unfold mentions; split <;> simp
  show okE c (pickE 40001 l t) = _
  rw [pickE_range htl, ok_prod (clsB l R) hc (rootsN R l.length) _ roots_nodup (Nat.lt_of_le_of_lt (List.length_filterMap_le _ _) (by simpa using hl)) fun e he => ?_]
  · refine all_same fun r _ => ?_
    congr 1
    unfold membN
    rw [List.filter_filterMap, List.filterMap_filter]
    refine fm_congr fun i _ => ?_
    cases hq : gE 40001 l t i with
    | none => simp
    | some e =>
      have := hcl i e hq e.part (hpart e) r
      simp [Option.filter_some, this]
  · obtain ⟨i, hi, he⟩ := List.mem_filterMap.1 he
    have hi := List.mem_range.1 hi
    refine ⟨R i, mem_roots.2 ⟨Nat.lt_of_le_of_lt (hR.le i) hi, hR.idem i⟩, fun z hz => by rw [hcl i e he z hz]; simp, fun r' _ hne z hz => by
      show (!clsB l R r' z) = true
      rw [hcl i e he z hz]; simpa using fun h => hne h.symm⟩
end
end Go.Sx

/- The choices that some history has: a table, marked component by component. -/
set_option linter.all false
namespace Go.Sx
open Go
/-- the place of an index in its component -/
def posN (R : Nat → Nat) (i : Nat) : Nat := (membN R i (R i)).length
section
variable {c : List Kind} {l : List Rep} {R : Nat → Nat} {t : List Int} {r i n : Nat}
theorem memb_split (h : i < n) (hr : R i = r) : ∃ z, membN R n r = membN R i r ++ i :: z := by
  have e2 : List.range n = List.range i ++ i :: (List.range (n - (i + 1))).map (i + 1 + ·) := range_split h
  unfold membN
  rw [e2, List.filter_append, List.filter_cons, if_pos (by simpa using hr)]
  exact ⟨_, rfl⟩
theorem pos_at (h : i < n) : ∃ hp : posN R i < (membN R n (R i)).length, (membN R n (R i))[posN R i] = i := by
  obtain ⟨z, hz⟩ := memb_split (R := R) h rfl
  have h1 : posN R i < (membN R n (R i)).length := by rw [hz]; simp [posN]
  refine ⟨h1, ?_⟩
  have : (membN R n (R i))[posN R i]? = some i := by rw [hz, List.getElem?_append_right (by simp [posN])]; simp [posN]
  rw [List.getElem?_eq_getElem h1] at this
  exact Option.some.inj this
theorem nodup_inj {α : Type} {l : List α} (h : l.Nodup) {a b : Nat} (ha : a < l.length) (hb : b < l.length) (e : l[a] = l[b]) : a = b := by
  rcases Nat.lt_trichotomy a b with h1 | h1 | h1
  · exact absurd e (List.pairwise_iff_getElem.1 h a b ha hb h1)
  · exact h1
  · exact absurd e.symm (List.pairwise_iff_getElem.1 h b a hb ha h1)
theorem pos_of {k : Nat} (hk : k < (membN R n r).length) : posN R (membN R n r)[k] = k ∧ R (membN R n r)[k] = r := by
  obtain ⟨x, hx⟩ : ∃ x, (membN R n r)[k] = x := ⟨_, rfl⟩
  have hm : x ∈ membN R n r := hx ▸ List.getElem_mem hk
  rw [hx]
  obtain ⟨h1, h2⟩ := mem_memb.1 hm
  subst h2
  obtain ⟨h3, h4⟩ := pos_at (R := R) h1
  exact ⟨nodup_inj (memb_nodup (R := R) (n := n) (r := R x)) h3 hk (h4.trans hx.symm), rfl⟩
theorem hist_in_all (h : t ∈ histF c l) : t ∈ allCh l := (List.mem_filter.1 h).1
theorem hist_pick (hR : Rts l R) (hc : validC c = true) (hp : ∀ q ∈ l, chs q ≠ 0) (hl : l.length < 20000) (ht : t ∈ histF c l) (hr : r ∈ rootsN R l.length) : pickN t (membN R l.length r) ∈ histF c (pickN l (membN R l.length r)) := by
  have h := (hist_mem t).1 ht
  rw [hist_prod hR hc hp hl (hist_in_all ht), List.all_eq_true] at h
  exact (hist_mem _).2 (h r hr)
/-- histories of the components, put together -/
def glueF (n : Nat) (R : Nat → Nat) (H : Nat → List Int) : List Int := (List.range n).map fun i => (H (R i)).getD (posN R i) 0
theorem glue_pick (hr : r ∈ rootsN R n) {H : Nat → List Int} (hl : (H r).length = (membN R n r).length) : pickN (glueF n R H) (membN R n r) = H r := by
  have hg : (glueF n R H).length = n := by simp [glueF]
  have hlt : ∀ i ∈ membN R n r, i < (glueF n R H).length := fun i hi => by rw [hg]; exact memb_lt hi
  refine List.ext_getElem (by rw [pickN_len hlt, hl]) fun k h1 h2 => ?_
  have hk : k < (membN R n r).length := by omega
  rw [pickN_get hlt hk]
  obtain ⟨h3, h4⟩ := pos_of hk
  simp only [glueF, List.getElem_map, List.getElem_range, h3, h4]
  simp [List.getD, h2]
theorem glue_hist (hR : Rts l R) (hc : validC c = true) (hp : ∀ q ∈ l, chs q ≠ 0) (hl : l.length < 20000) {H : Nat → List Int} (hH : ∀ r ∈ rootsN R l.length, H r ∈ histF c (pickN l (membN R l.length r))) :
    glueF l.length R H ∈ histF c l ∧ ∀ r ∈ rootsN R l.length, pickN (glueF l.length R H) (membN R l.length r) = H r := by
  have hlen : ∀ r ∈ rootsN R l.length, (H r).length = (membN R l.length r).length := fun r hr => by
    rw [(all_mem.1 (hist_in_all (hH r hr))).1, pickN_len fun i hi => memb_lt hi]
  have hpk : ∀ r ∈ rootsN R l.length, pickN (glueF l.length R H) (membN R l.length r) = H r := fun r hr => glue_pick hr (hlen r hr)
  refine ⟨?_, hpk⟩
  have hg : (glueF l.length R H).length = l.length := by simp [glueF]
  have ha : glueF l.length R H ∈ allCh l := by
    refine all_mem.2 ⟨hg, fun i h1 h2 => ?_⟩
    have hri : R i ∈ rootsN R l.length := mem_roots.2 ⟨Nat.lt_of_le_of_lt (hR.le i) h1, hR.idem i⟩
    obtain ⟨h3, h4⟩ := pos_at (R := R) h1
    have hlt : ∀ j ∈ membN R l.length (R i), j < l.length := fun j hj => memb_lt hj
    have h5 : posN R i < (pickN l (membN R l.length (R i))).length := by rw [pickN_len hlt]; exact h3
    have h6 : posN R i < (H (R i)).length := by rw [hlen _ hri]; exact h3
    have := (all_mem.1 (hist_in_all (hH _ hri))).2 (posN R i) h5 h6
    rw [pickN_get hlt h3] at this
    simp only [h4] at this
    simp only [glueF, List.getElem_map, List.getElem_range]
    simpa [List.getD, h6] using this
  rw [hist_mem, hist_prod hR hc hp hl ha, List.all_eq_true]
  intro r hr
  rw [hpk r hr]
  exact (hist_mem _).1 (hH r hr)
/-! tables -/
end
end Go.Sx

/- Walks, printed by a program out of the code of the functions: each theorem is a contract of one function. -/
namespace Go.Proofs.YtdapmfkbpnjkmaaGreat
open Go Go.Sx
set_option linter.all false
set_option maxRecDepth 20000
set_option maxHeartbeats 4000000
instance T.elt_121 : Has (eltK Tryz.prog 121) (3, 1) := ⟨by kernel_rfl⟩
instance T.und_121 : Has (Tryz.prog.underlying 121) (.slice 3) := ⟨by kernel_rfl⟩
theorem linkRoot (I : IMap) (g cap : Nat) (F : List Nat) (rest : List (List Value)) (hR : Uk 1 rest) (hF : Fst F) (i : Nat) (hi : i < F.length) :
    FnG Tryz.prog 70 #[.slice (some ⟨g, 0, none⟩) F.length cap, .int .i64 ((i : Nat) : Int)] I (.blk g 3 (natC F ++ rest).flatten) (fun u J r => ∃ G, u = .int .i64 ((rt F i : Nat) : Int) ∧ r = .blk g 3 (natC G ++ rest).flatten ∧ G.length = F.length ∧ Fst G ∧ ∀ q, rt G q = rt F q) := by
 refine enter Tryz.func70 Tryz.call70 rfl Tryz.ntmps70 rfl (fun w0 => ?_)
 refine go 7 ?_
 refine c_loop2 (i) (F) (fun j G => I)
  (fun j G => [(0, .slice (some ⟨g, 0, none⟩) F.length cap), (1, .int .i64 ((j : Nat) : Int))])
  (fun j G => [.blk g 3 (natC G ++ rest).flatten])
  (fun j G => j < F.length ∧ G.length = F.length ∧ Fst G ∧ (∀ q, rt G q = rt F q) ∧ rt F j = rt F i)
  (fun j G => j) ⟨hi, rfl, hF, fun _ => rfl, rfl⟩ rfl sb rfl ?_
 intro j G ⟨hj, hG, hFG, hr, hje0⟩
 have hjG : j < G.length := by omega
 have hup : up G j = G[j] := up_at hjG
 have hle : G[j] ≤ j := by rw [← hup]; exact hFG j
 have hgG : G[j] < G.length := by omega
 have hup2 : up G (up G j) = G[G[j]] := by rw [hup]; exact up_at hgG
 have hle2 : G[G[j]] ≤ G[j] := by have := hFG G[j]; rw [up_at hgG] at this; exact this
 refine go 5 ?_
 refine o_v rfl (v_idx he rfl rfl rfl (j) (by omega) (by omega)) ?_
 refine o_v rfl (v_lds m0 (Uk.append (natC_uk _) hR) he rfl (j) (by omega) (natC_at hjG)) ?_
 refine go 4 ?_
 refine cb rfl (fun h10 p10 => ?_) (fun h10 p10 => ?_)
 ·have hjne : G[j] < j := by omega
  refine go 10 ?_
  refine o_v rfl (v_idx he rfl rfl rfl (j) (by omega) (by omega)) ?_
  refine o_v rfl (v_lds m0 (Uk.append (natC_uk _) hR) he rfl (j) (by omega) (natC_at hjG)) ?_
  refine o_v rfl (v_idx he rfl rfl rfl (G[j]) (by omega) (by omega)) ?_
  refine o_v rfl (v_lds m0 (Uk.append (natC_uk _) hR) he rfl (G[j]) (by omega) (natC_at hgG)) ?_
  refine o_v rfl (v_idx he rfl rfl rfl (j) (by omega) (by omega)) ?_
  refine go 1 ?_
  refine o_stc _ (j) (Uk.append (natC_uk _) hR) he rfl rfl rfl rfl rfl (by omega) (by rw [List.length_append, natC_len]; omega) ?_
  refine sx_blkeq (natC (G.set j G[G[j]]) ++ rest).flatten (by rw [natC_set hjG]) ?_
  refine go 5 ?_
  refine o_v rfl (v_idx he rfl rfl rfl (j) (by omega) (by omega)) ?_
  refine o_v rfl (OV.cast (u := .int .i64 ((G[G[j]] : Nat) : Int)) (v_lds m0 (Uk.append (natC_uk _) hR) he rfl (j) (by omega) (natC_at (by simp; omega))) (congrArg (Value.int .i64) (by simp))) ?_
  refine go 4 ?_
  exact q_next2 (G[G[j]]) (G.set j G[G[j]]) ⟨by omega, by simp [hG], hup2 ▸ (hFG.half hjG).1, fun q => by rw [← hup2, (hFG.half hjG).2 q, hr q], by rw [← hje0, ← hr, ← hr j, ← hup2, hFG.rt_up, hFG.rt_up]⟩ (by omega) rfl sb rfl
 ·have hje : rt F i = j := by rw [← hje0, ← hr j]; exact rt_stop (by omega)
  refine go 12 ?_
  refine fin1 rfl rfl ?_
  exact q_g ⟨G, by rw [hje], rfl, hG, hFG, hr⟩

theorem linkJoin (I : IMap) (g cap : Nat) (F : List Nat) (rest : List (List Value)) (hR : Uk 1 rest) (hF : Fst F) (a b : Nat) (ha : a < F.length) (hb : b < F.length) :
    FnG Tryz.prog 124 #[.slice (some ⟨g, 0, none⟩) F.length cap, .int .i64 ((a : Nat) : Int), .int .i64 ((b : Nat) : Int)] I (.blk g 3 (natC F ++ rest).flatten) (fun u J r => ∃ G, u = .tuple #[] ∧ r = .blk g 3 (natC G ++ rest).flatten ∧ G.length = F.length ∧ Fst G ∧ ∀ q, rt G q = if rt F q = rt F a ∨ rt F q = rt F b then min (rt F a) (rt F b) else rt F q) := by
 refine enter Tryz.func124 Tryz.call124 rfl Tryz.ntmps124 rfl (fun w0 => ?_)
 refine go 5 ?_
 refine o_callG (linkRoot _ g cap F rest hR hF a ha) rfl rfl (fun v10 I10 s10 j10 q10 => ?_)
 obtain ⟨G, rfl, rfl, hG, hFG, hr⟩ := q10
 refine go 3 ?_
 refine o_callG (hG ▸ linkRoot _ g cap G rest hR hFG b (by omega)) rfl rfl (fun v13 I13 s13 j13 q13 => ?_)
 obtain ⟨G2, rfl, rfl, hG2, hFG2, hr2⟩ := q13
 have hra := rt_le F a
 have hrb := rt_le F b
 rw [hr b]
 have hmx : max (rt F a) (rt F b) < G2.length := by omega
 refine go 8 ?_
 refine o_v rfl (OV.cast (u := .int .i64 ((max (rt F a) (rt F b) : Nat) : Int)) (v_max rfl rfl) (congrArg (Value.int .i64) (by split <;> omega))) ?_
 refine go 2 ?_
 refine o_v rfl (OV.cast (u := .int .i64 ((min (rt F a) (rt F b) : Nat) : Int)) (v_min rfl rfl) (congrArg (Value.int .i64) (by split <;> omega))) ?_
 refine o_v rfl (v_idx he rfl rfl rfl (max (rt F a) (rt F b)) (by omega) (by omega)) ?_
 refine go 1 ?_
 refine o_stc _ (max (rt F a) (rt F b)) (Uk.append (natC_uk _) hR) he rfl rfl rfl rfl rfl (by omega) (by rw [List.length_append, natC_len]; omega) ?_
 refine sx_blkeq (natC (G2.set (max (rt F a) (rt F b)) (min (rt F a) (rt F b))) ++ rest).flatten (by rw [natC_set hmx]) ?_
 refine go 1 ?_
 refine end0 rfl ?_
 have hid : ∀ q, rt G2 q = rt F q := fun q => (hr2 q).trans (hr q)
 obtain ⟨m1, m2⟩ := hFG2.meet (a := rt F a) (b := rt F b) (by rw [hid, rt_idem]) (by rw [hid, rt_idem]) (by omega) (by omega)
 exact q_g ⟨_, rfl, rfl, by simp; omega, m1, fun q => by rw [m2 q, hid q]⟩

theorem linkLinked (I : IMap) (v : Value) (l : List Rep) (hv : RdS I v l) (hl : l.length ≤ 1000000) (hsl : ∀ r ∈ l, ∀ e ∈ r.options, SmE e)  :
    FnH Tryz.prog 69 #[v] I [] (fun u J H2 => ∃ w m F kvs fm, u = .tuple #[w, .map (some m)] ∧ H2 = [.row w 3 1 F.length (natC F).flatten, .mp m (emap Value.string kvs)] ∧ Lkd l l.length (fun k z => ∃ h : k < l.length, nm l[k] z) F fm ∧ (∀ z, mget kvs z = (fm z).map fun (q : Nat) => Value.int .i64 (q : Int))) := by
 have hv0 := hv
 obtain ⟨A, c0, rfl, hA, hc, hm⟩ := hv
 refine enter Tryz.func69 Tryz.call69 rfl Tryz.ntmps69 rfl (fun w0 => ?_)
 refine go 8 ?_
 refine sx_nilrow 3 1 ?_
 refine go 6 ?_
 refine o_map0 (Value.string) he rfl (fun r11 => ?_)
 refine go 12 ?_
 refine bring1 ?_
 refine c_loop6 ((0 : Nat)) (_) ([]) ([]) ((fun _ => none)) (I) (fun i v4 F kvs fm J => J)
  (fun i v4 F kvs fm J => [(0, .slice A l.length c0), (5, .map (some r11)), (13, .int .i64 ((l.length : Nat) : Int)), (14, .int .i64 ((i : Nat) : Int)), (4, v4)])
  (fun i v4 F kvs fm J => [.row v4 3 1 F.length (natC F).flatten, .mp r11 (emap Value.string kvs)])
  (fun i v4 F kvs fm J => i ≤ l.length ∧ ILe I J ∧ Lkd l i (fun k z => k < i ∧ ∃ h : k < l.length, nm l[k] z) F fm ∧ (∀ z, mget kvs z = (fm z).map fun (q : Nat) => Value.int .i64 (q : Int)))
  (fun i v4 F kvs fm J => l.length - i) ⟨Nat.zero_le _, ILe.refl _, Lkd.start.congr (fun k z h => absurd h.1 (Nat.not_lt_zero k)), fun z => rfl⟩ rfl sb rfl ?_
 intro i v4 F kvs fm J ⟨hi, hJ, hK, hM⟩
 have hlF := hK.len
 have hv0 := hv0.le hJ
 have hA := hA.le hJ
 refine go 6 ?_
 refine cb rfl (fun h15 p15 => ?_) (fun h15 p15 => ?_)
 ·have hlt : i < l.length := by omega
  refine go 15 ?_
  refine o_buildSlice he he rfl rfl rfl rfl rfl rfl rfl (fun v19 => ?_)
  refine go 1 ?_
  refine bring1 ?_
  refine o_appendO he he rfl rfl rfl rfl rfl (by omega) (by omega) rfl (fun v20 => ?_)
  refine go 5 ?_
  refine sx_roweq (ys := (natC (F ++ [i])).flatten) (show _ = _ from natC_snoc F i) ?_
  refine sx_row (natC_uk (F ++ [i])) (by simp [natC_len]) (fun h0 _ => by omega) (fun g21 cap21 rest21 hv21 hR21 hcap21 hmax21 => ?_)
  subst hv21
  refine go 2 ?_
  obtain ⟨b23, o23, w23, e23, c23, r23⟩ := RdA.at_ hA (i := i) (by omega)
  obtain ⟨q23, rfl, S23, d23, rfl, hS23, hd23, hm23⟩ := r23
  refine o_v rfl (v_idx he rfl rfl e23 (i) (by omega) (by omega)) ?_
  refine o_v rfl (v_ldIa he rfl c23 rfl) ?_
  refine go 1 ?_
  refine o_call (repNames _ l[i] S23 d23 ⟨_, _, rfl, hS23, hd23, hm23⟩ (hsl _ (List.getElem_mem hlt))) rfl rfl (fun v25 I25 j25 q25 => ?_)
  try have hv0 := hv0.le j25
  try have hA := hA.le j25
  try have hNA := hNA.le j25
  obtain ⟨ns, hns, hno⟩ := q25
  obtain ⟨NA, nc, rfl, hNA, _, _⟩ := hns
  have hnl := hno.2
  refine go 5 ?_
  refine bring1 ?_
  refine sx_drop ?_
  refine c_loop5 ((0 : Nat)) ((F ++ [i])) (kvs) (fm) (_) (fun j G kvs2 fm2 J2 => J2)
   (fun j G kvs2 fm2 J2 => [(0, .slice A l.length c0), (5, .map (some r11)), (13, .int .i64 ((l.length : Nat) : Int)), (14, .int .i64 ((i : Nat) : Int)), (4, .slice (some ⟨g21, 0, none⟩) (F.length + 1) cap21), (6, .int .i64 ((i : Nat) : Int)), (25, .slice NA ns.length nc), (26, .int .i64 ((ns.length : Nat) : Int)), (27, .int .i64 ((j : Nat) : Int))])
   (fun j G kvs2 fm2 J2 => [.blk g21 3 (natC G ++ rest21).flatten, .mp r11 (emap Value.string kvs2)])
   (fun j G kvs2 fm2 J2 => j ≤ ns.length ∧ ILe I25 J2 ∧ Lkd l (i + 1) (fun k z => (k < i ∧ ∃ h : k < l.length, nm l[k] z) ∨ (k = i ∧ z ∈ ns.take j)) G fm2 ∧ (∀ z, mget kvs2 z = (fm2 z).map fun (q : Nat) => Value.int .i64 (q : Int)))
   (fun j G kvs2 fm2 J2 => ns.length - j) ⟨Nat.zero_le _, ILe.refl _, (hK.push hlt).congr (fun k z h => h.elim id fun h => by simp at h), hM⟩ rfl sb rfl ?_
  intro j G kvs2 fm2 J2 ⟨hj, hJ2, hK2, hM2⟩
  have hGl : G.length = F.length + 1 := by rw [hK2.len, hlF]
  have hG1 := hK2.len
  have hv0 := hv0.le hJ2
  have hA := hA.le hJ2
  have hNA := hNA.le hJ2
  refine go 6 ?_
  refine cb rfl (fun h28 p28 => ?_) (fun h28 p28 => ?_)
  ·have hlj : j < ns.length := by omega
   refine go 6 ?_
   obtain ⟨b29, o29, w29, e29, c29, r29⟩ := RdA.at_ hNA (i := j) (by omega)
   obtain rfl := r29
   refine o_v rfl (v_idx he rfl rfl e29 (j) (by omega) (by omega)) ?_
   refine o_v rfl (v_ldI he rfl (c29 0 _ rfl)) ?_
   refine go 7 ?_
   refine o_v rfl (v_get2 m1 (key_string he) he he (ns[j]) rfl rfl rfl rfl) ?_
   refine go 12 ?_
   refine cb rfl (fun h37 p37 => ?_) (fun h37 p37 => ?_)
   ·obtain ⟨q, hq⟩ : ∃ q, fm2 ns[j] = some q := by
      rw [hM2] at h37
      cases hq : fm2 ns[j] with
      | none => rw [hq] at h37; cases h37
      | some q => exact ⟨q, rfl⟩
    have hmg : (mget kvs2 ns[j]).getD (.int .i64 0) = .int .i64 (q : Int) := by rw [hM2, hq]; rfl
    rw [hmg]
    have hq1 := (hK2.own _ q hq).1
    refine go 5 ?_
    refine o_callG (hGl ▸ linkJoin _ g21 cap21 G rest21 hR21 hK2.fst q i (by omega) (by omega)) rfl rfl (fun v41 I41 s41 j41 q41 => ?_)
    try have hv0 := hv0.le j41
    try have hA := hA.le j41
    try have hNA := hNA.le j41
    obtain ⟨G2, rfl, rfl, hG2, hFG2, hr2⟩ := q41
    refine go 8 ?_
    exact q_next5 (j + 1) (G2) (kvs2) (fm2) (_) ⟨by omega, hJ2.trans j41, (hK2.hit (by omega) ⟨hlt, (nm_of hno _).1 (List.getElem_mem hlj)⟩ hq hFG2 (hG2.trans hGl.symm) hr2).congr fun k z h => lkd_next hlj h, hM2⟩ (by omega) rfl sb rfl
   ·have hq0 : fm2 ns[j] = none := by
      rw [hM2] at h37
      cases hq : fm2 ns[j] with
      | none => rfl
      | some q => rw [hq] at h37; cases h37
    refine go 5 ?_
    refine bring1 ?_
    refine o_mapPut (mput kvs2 ns[j] (.int .i64 (i : Int))) (key_string he) he (ns[j]) rfl rfl rfl (rfl) ?_
    refine go 8 ?_
    refine bring1 ?_
    exact q_next5 (j + 1) (G) ((mput kvs2 ns[j] (.int .i64 (i : Int)))) ((fun y => if ns[j] = y then some i else fm2 y)) (_) ⟨by omega, hJ2, (hK2.new (by omega) ⟨hlt, (nm_of hno _).1 (List.getElem_mem hlj)⟩ hq0).congr fun k z h => lkd_next hlj h, map_put hM2 ns[j] i⟩ (by omega) rfl sb rfl
  ·obtain rfl : j = ns.length := by omega
   rw [List.take_length] at hK2
   refine sx_unrow (natC_uk G) hR21 (by rw [natC_len]; omega) hcap21 hmax21 ?_
   refine go 11 ?_
   exact q_next6 (i + 1) (_) (G) (kvs2) (fm2) (_) ⟨by omega, hJ.trans (j25.trans hJ2), hK2.congr (fun k z h => lkd_row hlt hno h), hM2⟩ (by omega) rfl sb (by simp only [hGl])
 ·obtain rfl : i = l.length := by omega
  refine go 14 ?_
  refine fin2 rfl rfl rfl ?_
  exact q_post (fun _ m => m) ⟨_, _, F, kvs, fm, rfl, rfl, hK.congr (fun k z h => ⟨h.1, h⟩), hM⟩

end Go.Proofs.YtdapmfkbpnjkmaaGreat

/- The reference of components: the least index that each report is known to belong with. -/
set_option linter.all false
namespace Go.Sx
open Go
/-- each has the least one of a component that it is known to be in -/
structure Lea (l : List Rep) (F : List Nat) : Prop where
  len : F.length = l.length
  le : ∀ i (h : i < F.length), F[i] ≤ i
  idem : ∀ i (h : i < F.length) (h2 : F[i] < F.length), F[F[i]] = F[i]
  sound : ∀ i (h : i < F.length), Lnk l i F[i]
section
variable {l : List Rep} {F : List Nat} {W : List (List ByteArray)} {i k a b : Nat}
theorem Lea.lt (h : Lea l F) (hi : i < F.length) : F[i] < F.length := Nat.lt_of_le_of_lt (h.le i hi) hi
/-- two components become one -/
def meetF (F : List Nat) (hi lo : Nat) : List Nat := F.map fun x => if x = hi then lo else x
theorem meet_len (F : List Nat) (hi lo : Nat) : (meetF F hi lo).length = F.length := by simp [meetF]
theorem Lea.meet (h : Lea l F) (hi : i < F.length) (hk : k < F.length) (hne : F[i] ≠ F[k]) (hl : Lnk l i k) : Lea l (meetF F (max F[i] F[k]) (min F[i] F[k])) ∧ (meetF F (max F[i] F[k]) (min F[i] F[k])).sum < F.sum := by
  have key : ∀ (A B : Nat), A < B → (∃ p, ∃ hp : p < F.length, F[p] = A) → (∃ p, ∃ hp : p < F.length, F[p] = B) → Lnk l A B → Lea l (meetF F B A) ∧ (meetF F B A).sum < F.sum := by
    rintro A B hAB ⟨p, hp, hpA⟩ ⟨q, hq, hqB⟩ hAk
    have hA : A < F.length := hpA ▸ h.lt hp
    have hFA : F[A] = A := by have := h.idem p hp (h.lt hp); simpa only [hpA] using this
    refine ⟨⟨by rw [meet_len]; exact h.len, fun j hj => ?_, fun j hj hj2 => ?_, fun j hj => ?_⟩, ?_⟩
    · rw [meet_len] at hj
      have := h.le j hj
      simp only [meetF, List.getElem_map]
      split <;> omega
    · rw [meet_len] at hj
      simp only [meetF, List.getElem_map]
      by_cases e : F[j] = B
      · simp only [e, if_true, hFA]
        rw [if_neg (by omega)]
      · simp only [if_neg e]
        rw [h.idem j hj (h.lt hj), if_neg e]
    · rw [meet_len] at hj
      simp only [meetF, List.getElem_map]
      have := h.sound j hj
      split
      · rename_i e; rw [e] at this; exact this.trans hAk.symm
      · exact this
    · have hle : ∀ (G : List Nat), (meetF G B A).sum ≤ G.sum := fun G => by
        induction G with
        | nil => exact Nat.le_refl _
        | cons x G ih =>
          simp only [meetF, List.map_cons, List.sum_cons] at ih ⊢
          split <;> omega
      have hlt : ∀ (G : List Nat), B ∈ G → (meetF G B A).sum < G.sum := fun G => by
        induction G with
        | nil => intro h; cases h
        | cons x G ih =>
          intro hm
          have h1 := hle G
          simp only [meetF, List.map_cons, List.sum_cons] at ih h1 ⊢
          rcases List.mem_cons.1 hm with rfl | hm
          · rw [if_pos rfl]; omega
          · have := ih hm
            split <;> omega
      exact hlt F (hqB ▸ List.getElem_mem hq)
  have l1 := h.sound i hi
  have l2 := h.sound k hk
  rcases Nat.lt_or_gt_of_ne hne with h1 | h1
  · rw [Nat.max_eq_right (Nat.le_of_lt h1), Nat.min_eq_left (Nat.le_of_lt h1)]
    exact key F[i] F[k] h1 ⟨i, hi, rfl⟩ ⟨k, hk, rfl⟩ ((l1.symm.trans hl).trans l2)
  · rw [Nat.max_eq_left (Nat.le_of_lt h1), Nat.min_eq_right (Nat.le_of_lt h1)]
    exact key F[k] F[i] h1 ⟨k, hk, rfl⟩ ⟨i, hi, rfl⟩ ((l2.symm.trans hl.symm).trans l1)
end
section
variable {F : List Nat} {i n : Nat} {l : List Rep}
/-- the values of lists of strings in cells -/
abbrev LsS := Value × List ByteArray
/-- what two of the list are to be, where nothing more is put together -/
def ShOk (l : List Rep) (F : List Nat) (i k : Nat) : Prop := ∀ (h1 : i < F.length) (h2 : k < F.length) (h3 : i < l.length) (h4 : k < l.length), F[i] = F[k] ∨ ∀ z, nm l[i] z → ¬ nm l[k] z
/-- the same for all pairs up to one -/
def ShTo (l : List Rep) (F : List Nat) (i k : Nat) : Prop := ∀ i' k', (i' < i ∨ (i' = i ∧ k' < k)) → k' < i' → ShOk l F i' k'
theorem ShTo.zero : ShTo l F 0 0 := fun i' k' h _ => by omega
theorem ShTo.next {k : Nat} (h : ShTo l F i k) (hs : ShOk l F i k) : ShTo l F i (k + 1) := fun i' k' h1 h2 => by
  by_cases e : i' = i ∧ k' = k
  · rw [e.1, e.2]; exact hs
  · exact h i' k' (by omega) h2
theorem ShTo.row (h : ShTo l F i i) : ShTo l F (i + 1) 0 := fun i' k' h1 h2 => h i' k' (by omega) h2
/-- the names of the reports so far -/
def NmQ (l : List Rep) (Q : List LsS) : Prop := ∀ k (h : k < Q.length) (h2 : k < l.length), NamesOf l[k] Q[k].2
theorem NmQ.nil : NmQ l [] := fun k h => by cases h
theorem NmQ.next {Q : List LsS} {x : LsS} (h : NmQ l Q) (hQ : Q.length = i) (hi : i < l.length) (hn : NamesOf l[i] x.2) : NmQ l (Q ++ [x]) := fun k h1 h2 => by
  subst hQ
  rcases Nat.lt_or_ge k Q.length with hk | hk
  · rw [List.getElem_append_left hk]; exact h k hk h2
  · obtain rfl : k = Q.length := by rw [List.length_append, List.length_singleton] at h1; omega
    rw [List.getElem_append_right (Nat.le_refl _)]; simpa using hn
end
end Go.Sx

/- A table of one's own; what is possible, component by component. -/
set_option linter.all false
namespace Go.Sx
open Go
/-! rows of a table, each in a block of its own -/
abbrev Row := Nat × List Bool
section
variable {Q : List Row} {rest : List (List Value)} {k : Nat}
end
section
variable {P : Program} {n : Sz} {E : Ent} {I : IMap} {L : LL} {H : List Res} {K : Act → World → Prop} {e : Nat}
end
/-! components, one after the other -/
section
variable {c : List Kind} {l : List Rep} {R : Nat → Nat} {i j n r : Nat}
end
theorem FnV.cast {P : Program} {f : FuncId} {args : Array Value} {I : IMap} {v u : Value} (h : FnV P f args I v) (e : v = u) : FnV P f args I u := e ▸ h
section
variable {Q : List Row} {M : Nat → Int → Bool} {l : List Rep} {i n g q : Nat} {k : Int} {c : List Kind}
end
end Go.Sx

/- Sums, products, quotients of intervals; formulas and the damage of a use. -/
set_option linter.all false
namespace Go.Sx
open Go
def satI (n : Int) : Int := max (-(1000000000000 : Int)) (min n (1000000000000 : Int))
def ivOk (i : Ivl) : Bool := (decide (-(1000000000000 : Int) ≤ i.low) && decide (i.low ≤ i.high)) && decide (i.high ≤ (1000000000000 : Int))
theorem ivOk_iff {i : Ivl} : ivOk i = true ↔ -(1000000000000 : Int) ≤ i.low ∧ i.low ≤ i.high ∧ i.high ≤ (1000000000000 : Int) := by simp [ivOk, and_assoc]
def zIvl : Ivl := ⟨0, 0⟩
/-- what an operation makes of the bounds -/
def bothI (f : Int → Int → Int) (a b : Ivl) : Ivl :=
  if (!ivOk a || !ivOk b) = true then zIvl else ⟨min (min (min (f a.low b.low) (f a.low b.high)) (f a.high b.low)) (f a.high b.high), max (max (max (f a.low b.low) (f a.low b.high)) (f a.high b.low)) (f a.high b.high)⟩
def addI := bothI fun a b => satI (a + b)
def subI := bothI fun a b => satI (a - b)
def mulI := bothI fun a b => satI (a * b)
def joinI (a b : Ivl) : Ivl := if (!ivOk a || !ivOk b) = true then zIvl else ⟨min a.low b.low, max a.high b.high⟩
/-- 0 no, 1 maybe, 2 yes -/
def overI (i : Ivl) (n : Int) : Int := if (!ivOk i || decide (i.high ≤ n)) = true then 0 else if i.low > n then 2 else 1
def floorI (a b : Int) : Int := if b = 0 then 0 else if a.tdiv b * b ≠ a ∧ (decide (a < 0) != decide (b < 0)) = true then a.tdiv b - 1 else a.tdiv b
def quoI (a : Ivl) (d : Int) : Ivl := ⟨min (floorI a.low d) (floorI a.high d), max (floorI a.low d) (floorI a.high d)⟩
def signedI (a : Ivl) (low high : Int) : List Ivl := if low ≤ high then [quoI a low, quoI a high] else []
def quosI (a b : Ivl) : List Ivl := (if b.low ≤ 0 ∧ b.high ≥ 0 then [zIvl] else []) ++ signedI a (max b.low 1) b.high ++ signedI a b.low (min b.high (-1))
def divI (a b : Ivl) : Ivl := (quosI a b).foldl joinI ((quosI a b).headD zIvl)
section
variable {a b : Ivl}
theorem bothI_ok (f : Int → Int → Int) (hf : ∀ x y, -(1000000000000 : Int) ≤ f x y ∧ f x y ≤ (1000000000000 : Int)) : ivOk (bothI f a b) = true := by
  unfold bothI
  split
  · decide
  · have h1 := hf a.low b.low
    have h2 := hf a.low b.high
    have h3 := hf a.high b.low
    have h4 := hf a.high b.high
    rw [ivOk_iff]; dsimp only; omega
theorem satI_in (n : Int) : -(1000000000000 : Int) ≤ satI n ∧ satI n ≤ (1000000000000 : Int) := by unfold satI; omega
theorem addI_ok : ivOk (addI a b) = true := bothI_ok _ fun _ _ => satI_in _
theorem subI_ok : ivOk (subI a b) = true := bothI_ok _ fun _ _ => satI_in _
theorem mulI_ok : ivOk (mulI a b) = true := bothI_ok _ fun _ _ => satI_in _
theorem joinI_ok : ivOk (joinI a b) = true := by
  unfold joinI
  split
  · decide
  · rename_i h
    have h1 : ivOk a = true ∧ ivOk b = true := by simpa using h
    have h2 := ivOk_iff.1 h1.1
    have h3 := ivOk_iff.1 h1.2
    rw [ivOk_iff]; dsimp only; omega
theorem not_ok (ha : ivOk a = true) (hb : ivOk b = true) : ¬ (!ivOk a || !ivOk b) = true := by simp [ha, hb]
/-- sums, as_ they are written -/
theorem addI_is (ha : ivOk a = true) (hb : ivOk b = true) : addI a b = ⟨satI (a.low + b.low), satI (a.high + b.high)⟩ := by
  have h1 := ivOk_iff.1 ha
  have h2 := ivOk_iff.1 hb
  unfold addI bothI
  rw [if_neg (not_ok ha hb)]
  dsimp only [satI]
  congr 1 <;> omega
theorem floorI_in {x d : Int} (hx : -(1000000000000 : Int) ≤ x ∧ x ≤ (1000000000000 : Int)) : -(1000000000000 : Int) ≤ floorI x d ∧ floorI x d ≤ (1000000000000 : Int) := by
  unfold floorI
  split
  · omega
  · rename_i hd
    have habs : (x.tdiv d).natAbs ≤ x.natAbs := by rw [Int.natAbs_tdiv]; exact Nat.div_le_self _ _
    split
    · rename_i h
      obtain ⟨h1, h2⟩ := h
      -- the quotient is not the dividend: it is of lesser amount, or 0
      by_cases h3 : (x.tdiv d).natAbs = x.natAbs
      · exfalso
        rw [Int.natAbs_tdiv] at h3
        rcases Nat.eq_zero_or_pos x.natAbs with h0 | h0
        · have : x = 0 := by omega
          subst this; simp at h1
        · have hd1 : d.natAbs = 1 := by
            rcases Nat.lt_or_ge d.natAbs 2 with h4 | h4
            · omega
            · have h5 := Nat.div_lt_self h0 h4
              have h6 : x.natAbs.div d.natAbs = x.natAbs / d.natAbs := rfl
              omega
          rcases Int.natAbs_eq d with h4 | h4
          · rw [hd1] at h4; rw [h4] at h1; simp at h1
          · rw [hd1] at h4; rw [h4] at h1; simp at h1
      · omega
    · omega
theorem quoI_ok {d : Int} (ha : ivOk a = true) : ivOk (quoI a d) = true := by
  have h1 := ivOk_iff.1 ha
  have h2 := floorI_in (x := a.low) (d := d) (by omega)
  have h3 := floorI_in (x := a.high) (d := d) (by omega)
  rw [ivOk_iff]; unfold quoI; dsimp only; omega
theorem quos_all (ha : ivOk a = true) : ∀ q ∈ quosI a b, ivOk q = true := fun q hq => by
  have hs : ∀ {lo hi : Int}, q ∈ signedI a lo hi → ivOk q = true := fun {lo hi} h => by
    unfold signedI at h
    split at h
    · rcases List.mem_cons.1 h with rfl | h
      · exact quoI_ok ha
      · rw [List.mem_singleton.1 h]; exact quoI_ok ha
    · cases h
  unfold quosI at hq
  rcases List.mem_append.1 hq with h | h
  · rcases List.mem_append.1 h with h | h
    · split at h
      · rw [List.mem_singleton.1 h]; decide
      · cases h
    · exact hs h
  · exact hs h
theorem fold_ok : ∀ (l : List Ivl) (x : Ivl), ivOk x = true → ivOk (l.foldl joinI x) = true
  | [], _, h => h
  | y :: l, x, h => fold_ok l _ joinI_ok
theorem divI_ok (ha : ivOk a = true) : ivOk (divI a b) = true := by
  unfold divI
  refine fold_ok _ _ ?_
  cases h : quosI a b with
  | nil => decide
  | cons y l => exact quos_all (b := b) ha y (by rw [h]; simp)
theorem joinI_at (ha : ivOk a = true) (hb : ivOk b = true) : joinI a b = ⟨min a.low b.low, max a.high b.high⟩ := by unfold joinI; rw [if_neg (not_ok ha hb)]
theorem joinI_comm : joinI a b = joinI b a := by
  unfold joinI
  rw [Bool.or_comm, Int.min_comm, Int.max_comm]
end
/-- a formula -/
inductive Fm where
  | mk (op n : Int) (kids : List Fm)
def Fm.op : Fm → Int | .mk o _ _ => o
def Fm.n : Fm → Int | .mk _ n _ => n
def Fm.kids : Fm → List Fm | .mk _ _ k => k
mutual
/-- the number of nodes, or more than most -/
def nodesF : Fm → Int → Int
  | .mk _ _ kids, most => nodesL kids 1 most
def nodesL : List Fm → Int → Int → Int
  | [], n, _ => n
  | k :: ks, n, most => if n > most then n else nodesL ks (n + nodesF k (most - n)) most
end
def wantF (op : Int) : Int := if op = 11 then 3 else if 5 ≤ op then 2 else 0
mutual
def rightF : Fm → Bool
  | .mk op n kids => !(decide (op < 1) || decide (op > 11)) && !(((decide ((kids.length : Int) ≠ wantF op) || decide (n < 0)) || decide (n > 9999999)) || (decide (n > 0) && decide (op ≠ 1))) && rightL kids
def rightL : List Fm → Bool
  | [] => true
  | k :: ks => rightF k && rightL ks
end
def letterI (u : Use) (op : Int) : Ivl := if op = 2 then u.km else if op = 3 then u.cycles else u.load
def applyI (op : Int) (a b : Ivl) : Ivl :=
  if op = 5 then addI a b else if op = 6 then subI a b else if op = 7 then mulI a b else if op = 9 then ⟨min a.low b.low, min a.high b.high⟩ else if op = 10 then ⟨max a.low b.low, max a.high b.high⟩ else divI a b
def chooseI (a b c : Ivl) : Ivl := if overI a 0 = 2 then b else if overI a 0 = 0 then c else joinI b c
/-- the range of a formula -/
def spanF (u : Use) : Fm → Ivl
  | .mk op n [] => if op = 1 then ⟨n, n⟩ else letterI u op
  | .mk op n [a, b] => applyI op (spanF u a) (spanF u b)
  | .mk op n [a, b, c] => chooseI (spanF u a) (spanF u b) (spanF u c)
  | .mk _ _ _ => zIvl
def useIv (i : Ivl) : Bool := !((decide (i.low < 0) || decide (i.low > i.high)) || decide (i.high > 1000000))
def useOk (u : Use) : Bool := (useIv u.km && useIv u.cycles) && useIv u.load
def validFm (f : Fm) : Bool := decide (nodesF f 60 ≤ 60) && rightF f
def damF (f : Fm) (u : Use) : Ivl := if useOk u = false then zIvl else if validFm f = false then zIvl else ⟨max 0 (spanF u f).low, max 0 (spanF u f).high⟩
theorem useIv_ok {i : Ivl} (h : useIv i = true) : ivOk i = true ∧ 0 ≤ i.low := by
  simp only [useIv, Bool.not_eq_true', Bool.or_eq_false_iff, decide_eq_false_iff_not] at h
  rw [ivOk_iff]; omega
theorem rightF_mk {op n : Int} {kids : List Fm} (h : rightF (.mk op n kids) = true) : (1 ≤ op ∧ op ≤ 11) ∧ (kids.length : Int) = wantF op ∧ (0 ≤ n ∧ n ≤ 9999999) ∧ ∀ k ∈ kids, rightF k = true := by
  have hl : ∀ ks : List Fm, rightL ks = true → ∀ k ∈ ks, rightF k = true := fun ks => by
    induction ks with
    | nil => intro _ k hk; cases hk
    | cons x ks ih =>
      intro h k hk
      simp only [rightL, Bool.and_eq_true] at h
      rcases List.mem_cons.1 hk with rfl | hk
      · exact h.1
      · exact ih h.2 k hk
  simp only [rightF, Bool.and_eq_true, Bool.not_eq_true', Bool.or_eq_false_iff, decide_eq_false_iff_not] at h
  exact ⟨by omega, by omega, by omega, hl kids h.2⟩
theorem applyI_ok {a b : Ivl} (op : Int) (ha : ivOk a = true) (hb : ivOk b = true) : ivOk (applyI op a b) = true := by
  have h1 := ivOk_iff.1 ha
  have h2 := ivOk_iff.1 hb
  unfold applyI
  split
  · exact addI_ok
  split
  · exact subI_ok
  split
  · exact mulI_ok
  split
  · rw [ivOk_iff]; dsimp only; omega
  split
  · rw [ivOk_iff]; dsimp only; omega
  · exact divI_ok ha
/-- it is an interval -/
theorem span_ok {u : Use} (hu : useOk u = true) : ∀ f : Fm, rightF f = true → ivOk (spanF u f) = true
  | .mk op n [], h => by
    have h1 := rightF_mk h
    simp only [useOk, Bool.and_eq_true] at hu
    simp only [spanF]
    split
    · rw [ivOk_iff]; dsimp only; omega
    · unfold letterI
      split
      · exact (useIv_ok hu.1.1).1
      split
      · exact (useIv_ok hu.1.2).1
      · exact (useIv_ok hu.2).1
  | .mk op n [a, b], h => by
    have h1 := (rightF_mk h).2.2.2
    simp only [spanF]
    exact applyI_ok op (span_ok hu a (h1 a (by simp))) (span_ok hu b (h1 b (by simp)))
  | .mk op n [a, b, c], h => by
    have h1 := (rightF_mk h).2.2.2
    simp only [spanF]
    unfold chooseI
    split
    · exact span_ok hu b (h1 b (by simp))
    split
    · exact span_ok hu c (h1 c (by simp))
    · exact joinI_ok
  | .mk op n [a], h => by simp only [spanF]; decide
  | .mk op n (a :: b :: c :: d :: l), h => by simp only [spanF]; decide
theorem damF_ok {f : Fm} {u : Use} : ivOk (damF f u) = true ∧ 0 ≤ (damF f u).low := by
  unfold damF
  split
  · exact ⟨by decide, by decide⟩
  · rename_i hu
    split
    · exact ⟨by decide, by decide⟩
    · rename_i hv
      have hr : rightF f = true := by
        have : validFm f = true := by simpa using hv
        simp only [validFm, Bool.and_eq_true] at this
        exact this.2
      have h1 := ivOk_iff.1 (span_ok (by simpa using hu) f hr)
      refine ⟨?_, by dsimp only; omega⟩
      rw [ivOk_iff]; dsimp only; omega
/-! the same, as_ the reference has it -/
def quoR (a b : Ivl) (st : Ivl × Bool) (d : Int) : Ivl × Bool := if d < b.low ∨ d > b.high ∨ d = 0 then st else ((if st.2 = true then joinI (quoI a d) st.1 else quoI a d), true)
/-- the least interval around some -/
structure Hull (p : Ivl → Prop) (r : Ivl) : Prop where
  lo : ∃ x, p x ∧ r.low = x.low
  lo2 : ∀ x, p x → r.low ≤ x.low
  hi : ∃ x, p x ∧ r.high = x.high
  hi2 : ∀ x, p x → x.high ≤ r.high
section
variable {p q : Ivl → Prop} {r r' y : Ivl} {a b : Ivl}
theorem Hull.uniq (h : Hull p r) (h' : Hull q r') (e : ∀ x, p x ↔ q x) : r = r' := by
  obtain ⟨x, hx, e1⟩ := h.lo
  obtain ⟨x', hx', e1'⟩ := h'.lo
  obtain ⟨z, hz, e2⟩ := h.hi
  obtain ⟨z', hz', e2'⟩ := h'.hi
  have h1 := h.lo2 x' ((e _).2 hx')
  have h2 := h'.lo2 x ((e _).1 hx)
  have h3 := h.hi2 z' ((e _).2 hz')
  have h4 := h'.hi2 z ((e _).1 hz)
  cases r; cases r'
  congr 1
  · dsimp only at *; omega
  · dsimp only at *; omega
theorem Hull.one (x : Ivl) : Hull (fun z => z = x) x := ⟨⟨x, rfl, rfl⟩, fun z h => by rw [h]; omega, ⟨x, rfl, rfl⟩, fun z h => by rw [h]; omega⟩
theorem Hull.join (h : Hull p r) (hr : ivOk r = true) (hy : ivOk y = true) : Hull (fun x => p x ∨ x = y) (joinI r y) := by
  rw [joinI_at hr hy]
  refine ⟨?_, fun x hx => ?_, ?_, fun x hx => ?_⟩
  · obtain ⟨x, hx, e⟩ := h.lo
    rcases Int.le_total r.low y.low with h1 | h1
    · exact ⟨x, .inl hx, by dsimp only; omega⟩
    · exact ⟨y, .inr rfl, by dsimp only; omega⟩
  · dsimp only
    rcases hx with hx | rfl
    · have := h.lo2 x hx; omega
    · omega
  · obtain ⟨x, hx, e⟩ := h.hi
    rcases Int.le_total y.high r.high with h1 | h1
    · exact ⟨x, .inl hx, by dsimp only; omega⟩
    · exact ⟨y, .inr rfl, by dsimp only; omega⟩
  · dsimp only
    rcases hx with hx | rfl
    · have := h.hi2 x hx; omega
    · omega
/-- one more divisor -/
def AddQ (a b : Ivl) (p : Ivl → Prop) (d : Int) (x : Ivl) : Prop := p x ∨ ((b.low ≤ d ∧ d ≤ b.high ∧ d ≠ 0) ∧ x = quoI a d)
def QInv (p : Ivl → Prop) (st : Ivl × Bool) : Prop := (st.2 = false → ∀ x, ¬ p x) ∧ (st.2 = true → Hull p st.1 ∧ ivOk st.1 = true)
theorem QInv.step {st : Ivl × Bool} (ha : ivOk a = true) (h : QInv p st) (d : Int) : QInv (AddQ a b p d) (quoR a b st d) := by
  unfold quoR
  split
  · rename_i hs
    have e : AddQ a b p d = p := by
      funext x
      apply propext
      exact ⟨fun h => h.elim id fun h => by have := h.1; omega, .inl⟩
    rw [e]; exact h
  · rename_i hs
    refine ⟨fun h => (by cases h), fun _ => ?_⟩
    have hr : b.low ≤ d ∧ d ≤ b.high ∧ d ≠ 0 := by omega
    have hq := quoI_ok (d := d) ha
    dsimp only
    split
    · rename_i hf
      obtain ⟨h1, h2⟩ := h.2 hf
      rw [joinI_comm]
      have h3 := h1.join h2 hq
      have e : AddQ a b p d = fun x => p x ∨ x = quoI a d := by
        funext x
        apply propext
        exact ⟨fun h => h.elim .inl fun h => .inr h.2, fun h => h.elim .inl fun h => .inr ⟨hr, h⟩⟩
      rw [e]; exact ⟨h3, joinI_ok⟩
    · rename_i hf
      have h1 := h.1 (by simpa using hf)
      have e : AddQ a b p d = fun x => x = quoI a d := by
        funext x
        apply propext
        exact ⟨fun h => h.elim (fun h => absurd h (h1 x)) fun h => h.2, fun h => .inr ⟨hr, h⟩⟩
      rw [e]; exact ⟨Hull.one _, hq⟩
end
end Go.Sx

/- Formulas in memory, and how they come in. -/
set_option linter.all false
namespace Go.Sx
open Go
inductive FmRd (I : IMap) : List Value → Fm → Prop
  | mk (op n : Int) (kids : List Fm) (A : Option Addr) (c b o : Nat) (g : Nat → List Value) (hA : 0 < kids.length → A = some ⟨b, o, none⟩)
      (hg : ∀ i x, kids[i]? = some x → ICells I b (o + i * 3) (g i)) (hr : ∀ i x, kids[i]? = some x → FmRd I (g i) x) (hc : kids.length ≤ c) (hm : c ≤ 9223372036854775807) :
      FmRd I [ci op, ci n, .slice A kids.length c] (.mk op n kids)
theorem FmRd.le {I I' : IMap} (hI : ILe I I') {vs : List Value} {f : Fm} (h : FmRd I vs f) : FmRd I' vs f := by
  induction h with
  | mk op n kids A c b o g hA hg _ hc hm ih => exact .mk op n kids A c b o g hA (fun i x h => (hg i x h).le hI) ih hc hm
instance : Enc Fm where
  k := 3
  rd := FmRd
  len := fun h => by cases h; rfl
  mono := fun hI h => h.le hI
  one := fun h => by cases h; rfl
end Go.Sx

/- Methods called through an interface value; machine words; quotients. -/
set_option linter.all false
namespace Go.Sx
open Go
/-- the method of a struct type -/
def methK (P : Program) (t : TypeId) (name : String) : Option FuncId :=
  match P.info? t, P.underlying t with
  | some i, some (.struct _) => match i.methods.find? (·.name == name) with
    | some m => match m.path.toList, m.func with
      | [], some (f, false) => some f
      | _, _ => none
    | none => none
  | _, _ => none
section
variable {P : Program} {n : Sz} {E : Ent} {I : IMap} {L : LL} {H : List Res} {Q : Exit → Act → World → Prop} {ops : Array Oper} {K : Act → World → Prop}
variable {d ty tx tyy : Nat} {pos : String} {af : Array Edge} {x y : Operand}
/-! words -/
end
end Go.Sx

/- Intervals and formulas: what their walks come to at each step. -/
set_option linter.all false
namespace Go.Sx
open Go
section
variable {l : List Int} {i : Nat}
end
/-! formulas -/
section
variable {f : Fm} {n m : Int} {i : Nat}
end
/-! rows of intervals -/
theorem RdS.rda {α : Type} [Enc α] {I : IMap} {A : Option Addr} {m c : Nat} {l : List α} (h : RdS I (.slice A m c) l) : RdA I A l := by
  obtain ⟨_, _, e, h, _⟩ := h; cases e; exact h
section
variable {P : Program} {ρ : Option Nat} {n : Sz} {E : Ent} {I I' : IMap} {L : LL} {H H0 : List Res} {Q : Exit → Act → World → Prop} {ops : Array Oper} {K : Act → World → Prop}
variable {d ty : Nat} {pos : String} {af : Array Edge} {fo : Operand} {as_ : List Operand} {ats : Array TypeId} {f : FuncId} {args : List Value} {r1 r2 r3 : Res}
end
end Go.Sx

/- Walks, printed by a program out of the code of the functions: each theorem is a contract of one function. -/
namespace Go.Proofs.YtdapmfkbpnjkmaaGreat
open Go Go.Sx
set_option linter.all false
set_option maxRecDepth 20000
set_option maxHeartbeats 4000000
instance T.by_44 : Has (bytesK Tryz.prog 44) ([.int .i64 0, .int .i64 0], 2, 16) := ⟨by kernel_rfl⟩
instance T.elt_235 : Has (eltK Tryz.prog 235) (44, 2) := ⟨by kernel_rfl⟩
instance T.elt_320 : Has (eltK Tryz.prog 320) (270, 1) := ⟨by kernel_rfl⟩
instance T.elt_68 : Has (eltK Tryz.prog 68) (70, 3) := ⟨by kernel_rfl⟩
instance T.fld_238_0 : Has (fldK Tryz.prog 238 0) (0, true, 6) := ⟨by kernel_rfl⟩
instance T.fld_70_0 : Has (fldK Tryz.prog 70 0) (0, false, 1) := ⟨by kernel_rfl⟩
instance T.fld_70_1 : Has (fldK Tryz.prog 70 1) (1, false, 1) := ⟨by kernel_rfl⟩
instance T.fld_70_2 : Has (fldK Tryz.prog 70 2) (2, false, 1) := ⟨by kernel_rfl⟩
instance T.mth_238_374 : Has (methK Tryz.prog 238 "bogie/formula.apply") 374 := ⟨by kernel_rfl⟩
instance T.mth_238_375 : Has (methK Tryz.prog 238 "bogie/formula.choose") 375 := ⟨by kernel_rfl⟩
instance T.mth_238_376 : Has (methK Tryz.prog 238 "bogie/formula.letter") 376 := ⟨by kernel_rfl⟩
instance T.mth_238_377 : Has (methK Tryz.prog 238 "bogie/formula.number") 377 := ⟨by kernel_rfl⟩
instance T.pl_238 : Has (plK Tryz.prog 238) [(0, 6)] := ⟨by kernel_rfl⟩
instance T.pl_44 : Has (plK Tryz.prog 44) [(0, 1), (1, 1)] := ⟨by kernel_rfl⟩
instance T.ty_235 : Has (tyK Tryz.prog 235) (false, 1) := ⟨by kernel_rfl⟩
instance T.ty_270 : Has (tyK Tryz.prog 270) (false, 1) := ⟨by kernel_rfl⟩
instance T.ty_68 : Has (tyK Tryz.prog 68) (false, 1) := ⟨by kernel_rfl⟩
instance T.ty_70 : Has (tyK Tryz.prog 70) (true, 3) := ⟨by kernel_rfl⟩
instance T.und_235 : Has (Tryz.prog.underlying 235) (.slice 44) := ⟨by kernel_rfl⟩
instance T.und_270 : Has (Tryz.prog.underlying 270) (.int .i64) := ⟨by kernel_rfl⟩
instance T.und_320 : Has (Tryz.prog.underlying 320) (.slice 270) := ⟨by kernel_rfl⟩
instance T.und_68 : Has (Tryz.prog.underlying 68) (.slice 70) := ⟨by kernel_rfl⟩
instance T.zero_235 : Has (zeroK Tryz.prog 235) [.slice none 0 0] := ⟨by kernel_rfl⟩
instance T.zero_238 : Has (zeroK Tryz.prog 238) [.int .i64 0, .int .i64 0, .int .i64 0, .int .i64 0, .int .i64 0, .int .i64 0] := ⟨by kernel_rfl⟩
instance T.zero_270 : Has (zeroK Tryz.prog 270) [.int .i64 0] := ⟨by kernel_rfl⟩
instance T.zero_44 : Has (zeroK Tryz.prog 44) [.int .i64 0, .int .i64 0] := ⟨by kernel_rfl⟩
instance T.zero_70 : Has (zeroK Tryz.prog 70) [.int .i64 0, .int .i64 0, .slice none 0 0] := ⟨by kernel_rfl⟩
end Go.Proofs.YtdapmfkbpnjkmaaGreat

/- The lives of parts: what a run adds, and that nothing else depends on lives. -/
set_option linter.all false
namespace Go.Sx
open Go
/-- where a part is -/
def upP (st : List Part) (n : ByteArray) : ByteArray := ((findP st n).getD zPart).into
/-- whether a part is reached within some steps up -/
def reachF (st : List Part) (v : ByteArray) : Nat → ByteArray → Bool
  | 0, _ => false
  | k + 1, n => !decide (upP st n = nil8) && (decide (upP st n = v) || reachF st v k (upP st n))
/-- a part is inside another one -/
def InsP (st : List Part) (v n : ByteArray) : Prop := ((findP st v).isSome = true ∧ (findP st n).isSome = true ∧ n ≠ v) ∧ ∃ k, reachF st v k n = true
def addLife (d : Ivl) (u : Use) (p : Part) : Part := { p with life := ⟨addI p.life.km u.km, addI p.life.cycles u.cycles, addI p.life.damage d⟩ }
open Classical in
noncomputable def useL (st : List Part) (e : Evt) (d : Ivl) : List Part := st.map fun p => if p.name = e.part ∨ InsP st e.part p.name then addLife d e.use p else p
noncomputable def applyL (f : Fm) (c : List Kind) (st : List Part) (e : Evt) : Res2 :=
  if (applyF c st e).2 = 0 ∧ e.op = 4 then (useL (applyF c st e).1 e (damF f e.use), 0) else applyF c st e
noncomputable def runLGo (f : Fm) (c : List Kind) : List Part → Int → List Evt → Res3
  | s, _, [] => (s, -1, 0)
  | s, i, e :: r => if (applyL f c s e).2 = 0 then runLGo f c (applyL f c s e).1 (i + 1) r else ([], i, (applyL f c s e).2)
noncomputable def runL (f : Fm) (c : List Kind) (l : List Evt) (day : Int) : Res3 :=
  if (!validC c || !validFm f) = true then ([], -1, 1) else runLGo f c [] 0 (sortF (l.filter fun e => !decide (e.day > day)))
/-! without lives -/
def LfOk (p : Part) : Prop := (lifeOk p.life.km = true ∧ lifeOk p.life.cycles = true) ∧ lifeOk p.life.damage = true
def LfInv (st : List Part) : Prop := ∀ p ∈ st, LfOk p
section
variable {c : List Kind} {f : Fm} {st : List Part} {p : Part} {e : Evt} {d : Ivl}
/-! the lives stay in bounds -/
theorem zLife_ok : (lifeOk zLife.km = true ∧ lifeOk zLife.cycles = true) ∧ lifeOk zLife.damage = true := by decide
theorem lifeOk_iff {i : Ivl} : lifeOk i = true ↔ 0 ≤ i.low ∧ i.low ≤ i.high ∧ i.high ≤ (1000000000000 : Int) := by simp [lifeOk, and_assoc]
theorem life_add {i u : Ivl} (hi : lifeOk i = true) (hu : ivOk u = true) (h0 : 0 ≤ u.low) : lifeOk (addI i u) = true := by
  have h1 := lifeOk_iff.1 hi
  have h2 := ivOk_iff.1 hu
  rw [addI_is (ivOk_iff.2 (by omega)) hu, lifeOk_iff]
  unfold satI; dsimp only; omega
theorem LfInv.put {q : Part} (h : LfInv st) (hq : LfOk q) : LfInv (putL Part.name st q) := fun p hp => by
  rcases putL_mem hp with rfl | hp
  · exact hq
  · exact h p hp
theorem LfInv.apply (h : LfInv st) (e : Evt) : LfInv (applyF c st e).1 := by
  have hn : ∀ n, LfInv (failR n).1 := fun n p hp => by cases hp
  have hz : LfOk zPart := zLife_ok
  have hp : LfOk (partP st e) := by
    unfold partP
    cases hq : findP st e.part with
    | none => exact hz
    | some p => exact h p (find_mem hq)
  have hput : ∀ q : Part, LfOk q → LfInv (putR st q).1 := fun q hq => h.put hq
  unfold applyF
  split
  · exact hn _
  split
  · unfold applyMake
    split
    · exact hn _
    split
    · exact hn _
    split
    · exact hn _
    · exact hput _ zLife_ok
  · unfold applyRest
    split
    · exact hn _
    split
    · exact hn _
    · unfold applyOp
      split
      · unfold applyFit
        split
        · exact hn _
        split
        · exact hn _
        split
        · exact hn _
        · exact hput _ hp
      split
      · unfold applyRemove
        split
        · exact hn _
        · exact hput _ hp
      split
      · unfold applyRun
        split
        · exact hn _
        · exact hput _ hp
      split
      · exact hput _ zLife_ok
      split
      · unfold applyNote
        split
        · exact hn _
        · exact hput _ hp
      split
      · unfold applyScrap
        split
        · exact hn _
        · exact hput _ hp
      · exact hput _ hp
theorem LfInv.use (h : LfInv st) (hu : ivOk e.use.km = true ∧ 0 ≤ e.use.km.low) (hu2 : ivOk e.use.cycles = true ∧ 0 ≤ e.use.cycles.low) (hd : ivOk d = true ∧ 0 ≤ d.low) : LfInv (useL st e d) := fun p hp => by
  unfold useL at hp
  obtain ⟨q, hq, rfl⟩ := List.mem_map.1 hp
  have h1 := h q hq
  split
  · exact ⟨⟨life_add h1.1.1 hu.1 hu.2, life_add h1.1.2 hu2.1 hu2.2⟩, life_add h1.2 hd.1 hd.2⟩
  · exact h1
theorem apply_valid (h : (applyF c st e).2 = 0) : validE e = true := by
  unfold applyF at h
  split at h
  · cases h
  · rename_i h2
    have : validS c st = true ∧ validE e = true := by simpa using h2
    exact this.2
theorem run_use (h : validE e = true) (h4 : e.op = 4) : (ivOk e.use.km = true ∧ 0 ≤ e.use.km.low) ∧ (ivOk e.use.cycles = true ∧ 0 ≤ e.use.cycles.low) ∧ useTo e.use 3 = true := by
  have hu : useTo e.use 3 = true := by
    simp only [validE, Bool.and_eq_true, Bool.not_eq_true'] at h
    have h2 := h.1.1.2
    unfold opBad at h2
    rw [if_neg (by omega), if_neg (by omega), if_pos h4] at h2
    simpa using h2
  have hu2 := hu
  rw [← useR_eq] at hu2
  simp only [useR, ivlR, Bool.and_eq_true, decide_eq_true_eq] at hu2
  exact ⟨⟨ivOk_iff.2 (by omega), by omega⟩, ⟨ivOk_iff.2 (by omega), by omega⟩, hu⟩
theorem LfInv.step (h : LfInv st) : LfInv (applyL f c st e).1 := by
  unfold applyL
  split
  · rename_i hc
    have hu := run_use (apply_valid hc.1) hc.2
    exact (h.apply e).use hu.1 hu.2.1 damF_ok
  · exact h.apply e
theorem LfInv.nil : LfInv [] := fun p h => by cases h
end
end Go.Sx

/- Going through a map of the call's own, in whatever order; taking keys out of it. -/
set_option linter.all false
namespace Go.Sx
open Go
open Go.ChangeMaps (setBlock)
/-- how far a range over a map is -/
structure ItS where
  es : Array MapEntry
  clock : Nat
  seen : Array Nat
def ItS.it (S : ItS) (m : Nat) : Obj := .mapIter (some m) S.clock S.seen S.clock
def ItS.mp (S : ItS) : Obj := .map S.es S.clock
structure ItS.Ok {κ : Type} (enc : κ → Value) (kvs : List (κ × Value)) (S : ItS) : Prop where
  all : S.es.toList.map (fun e => (e.key, e.val)) = emap enc kvs
  nd : (S.es.toList.map (·.born)).Nodup
  old : ∀ e ∈ S.es.toList, e.born < S.clock
/-- what is still to come -/
def ItS.Todo {κ : Type} (enc : κ → Value) (todo : List (κ × Value)) (S : ItS) : Prop := (leftOf S.es S.seen).toList.map (fun e => (e.key, e.val)) = emap enc todo
/-- what has just come -/
def ItS.At {κ : Type} (enc : κ → Value) (p : κ × Value) (S : ItS) : Prop := ∃ (e : MapEntry) (seen0 : Array Nat), S.seen = seen0.push e.born ∧ e ∈ S.es.toList ∧ e.key = enc p.1 ∧ e.val = p.2
/-- one step -/
inductive ItS.Step {κ : Type} (enc : κ → Value) (kvs todo : List (κ × Value)) (S : ItS) : Option (κ × Value) → ItS → List (κ × Value) → Prop
  | over (h : todo = []) : ItS.Step enc kvs todo S none S todo
  | come (p : κ × Value) (a b : List (κ × Value)) (S' : ItS) (h : todo = a ++ p :: b) (h1 : S'.Ok enc kvs) (h2 : S'.Todo enc (a ++ b)) (h3 : S'.At enc p) : ItS.Step enc kvs todo S (some p) S' (a ++ b)
def nextA {κ : Type} (enc : κ → Value) : Option (κ × Value) → Array Value
  | none => #[.bool false]
  | some p => #[.bool true, enc p.1, p.2]
theorem nextA_0 {κ : Type} (enc : κ → Value) (q : Option (κ × Value)) : (nextA enc q)[0]? = some (.bool q.isSome) := by cases q <;> rfl
theorem emap_mid {κ : Type} {enc : κ → Value} {x : Value × Value} : ∀ {l a b : List (Value × Value)} {todo : List (κ × Value)}, l = emap enc todo → l = a ++ x :: b → ∃ (p : κ × Value) (a' b' : List (κ × Value)), todo = a' ++ p :: b' ∧ emap enc a' = a ∧ emap enc b' = b ∧ (enc p.1, p.2) = x
  | _, a, b, todo, rfl, h => by
    have h1 : todo.map (fun p => (enc p.1, p.2)) = a ++ x :: b := h
    obtain ⟨a', c', rfl, h2, h3⟩ := List.map_eq_append_iff.1 h1
    obtain ⟨p, b', rfl, h4, h5⟩ := List.map_eq_cons_iff.1 h3
    exact ⟨p, a', b', rfl, h2, h5, h4⟩
section
variable {P : Program} {ρ : Option Nat} {n : Sz} {E : Ent} {I : IMap} {L : LL} {H : List Res} {Q : Exit → Act → World → Prop} {ops : Array Oper} {K : Act → World → Prop}
variable {d ty : Nat} {pos : String} {af : Array Edge} {x y : Operand} {κ : Type} [DecidableEq κ] {enc : κ → Value} {kvs todo : List (κ × Value)} {S : ItS} {m r : Nat}
theorem sx_openmap (h : ∀ S : ItS, S.Ok enc kvs → S.Todo enc kvs → S.seen = #[] → SX n E I L (.any m S.mp :: H) K) : SX n E I L (.mp m (emap enc kvs) :: H) K := by
  intro a w s mm
  obtain ⟨entries, clock, h1, h2, h3, h4⟩ := mm.mp (List.mem_cons_self ..)
  refine h ⟨entries, clock, #[]⟩ ⟨h2, h3, h4⟩ ?_ rfl a w s (mm.step rfl ⟨rfl, Nat.le_refl _⟩ rfl (Nat.le_refl _) (fun _ _ _ => rfl) h1 (fun g hg => .inl hg))
  unfold ItS.Todo leftOf
  rw [show (entries.filter fun e => !(#[] : Array Nat).contains e.born) = entries from Array.filter_eq_self.2 (fun x hx => by simp)]
  exact h2
theorem o_rangeG {mt kt et : Nat} (hm : ∀ w, Mem E I H w → w.heap[m]? = some S.mp) (hS : S.seen = #[]) (ht : P.underlying mt = some (.map kt et)) (hx : ev L x = some (.map (some m))) (hd : Nat.blt d n.sz = true)
    (k : ∀ r, SX n E I ((d, .pointer (some ⟨r, 0, none⟩)) :: L) (.any r (S.it m) :: H) K) : SX n E I L H (one P ops Q ⟨some d, .range mt x, ty, pos, af, none⟩ K) :=
  o_gen (fun r : Nat => .pointer (some ⟨r, 0, none⟩)) (fun _ => I) (fun r => .any r (S.it m) :: H) (fun _ => True) hd
    (fun a w st mm => by
      have hb : w.heap[m]? = some (.map S.es S.clock) := hm w mm
      refine ⟨w.heap.size, w.alloc (.mapIter (some m) S.clock #[] S.clock), trivial, ?_, mm.new rfl ⟨rfl, Nat.le_refl _⟩ rfl (by simp) (fun k hk => Below_old w _ k hk) (by show (w.alloc _).heap[w.heap.size]? = _; rw [heap_alloc_new]; simp [ItS.it, hS]) (fun g hg => by simp only [Res.foot, Option.some.injEq] at hg; omega)⟩
      simp only [execOp, st.ev hx, Sem.run_bind, run_range_map w mt kt et m S.es S.clock ht hb, Result.andThen_ok, Sem.run_pure]) fun r _ => k r
theorem Mem.setBlock {w : World} {o o' : Obj} (mm : Mem E I (.any r o :: H) w) : Mem E I (.any r o' :: H) (setBlock w r o') := by
  have hr : w.heap[r]? = some o := mm.holds _ (List.mem_cons_self ..)
  have hlt : r < w.heap.size := (Array.getElem?_eq_some_iff.1 hr).1
  refine mm.step rfl ⟨rfl, Nat.le_refl _⟩ rfl (by simp [ChangeMaps.setBlock]) (fun k hk hne => ?_) (by show (ChangeMaps.setBlock w r o').heap[r]? = _; simp [ChangeMaps.setBlock, hlt]) (fun g hg => .inl hg)
  have : r ≠ k := fun e => hne (by rw [← e]; rfl)
  simp [ChangeMaps.setBlock, Array.getElem?_setIfInBounds_ne this]
theorem o_nextG (hm : ∀ w, Mem E I (.any r (S.it m) :: H) w → w.heap[m]? = some S.mp) (hO : S.Ok enc kvs) (hT : S.Todo enc todo) (hx : ev L x = some (.pointer (some ⟨r, 0, none⟩))) (hd : Nat.blt d n.sz = true)
    (k : ∀ q S' todo', ItS.Step enc kvs todo S q S' todo' → S'.mp = S.mp → SX n E I ((d, .tuple (nextA enc q)) :: L) (.any r (S'.it m) :: H) K) :
    SX n E I L (.any r (S.it m) :: H) (one P ops Q ⟨some d, .next x false, ty, pos, af, none⟩ K) :=
  o_gen (α := Option (κ × Value) × ItS × List (κ × Value)) (fun z => .tuple (nextA enc z.1)) (fun _ => I) (fun z => .any r (z.2.1.it m) :: H) (fun z => ItS.Step enc kvs todo S z.1 z.2.1 z.2.2 ∧ z.2.1.mp = S.mp) hd
    (fun a w st mm => by
      have hr : w.heap[r]? = some (.mapIter (some m) S.clock S.seen S.clock) := mm.holds (.any r (S.it m)) (List.mem_cons_self ..)
      have hb : w.heap[m]? = some (.map S.es S.clock) := hm w mm
      rcases run_next_at (P := P) w ty r m S.clock S.clock S.seen S.es S.clock hr hb hO.old (Nat.le_refl _) with ⟨h0, hrun⟩ | ⟨e, he, w1, hw1, hrun⟩
      · refine ⟨(none, S, todo), w, ⟨.over ?_, rfl⟩, by simp only [execOp, st.ev hx, Sem.run_bind, hrun, Result.andThen_ok, Sem.run_pure]; rfl, mm⟩
        have h1 : (leftOf S.es S.seen).toList = [] := List.eq_nil_of_length_eq_zero (by simpa using h0)
        unfold ItS.Todo at hT
        rw [h1] at hT
        cases todo with
        | nil => rfl
        | cons p t => simp [emap] at hT
      · have hm1 : Mem E I (.any r (S.it m) :: H) w1 := by rcases hw1 with rfl | rfl; exact mm; exact mm.drew
        obtain ⟨l1, l2, hl⟩ := List.append_of_mem he
        have hT' := hT
        unfold ItS.Todo at hT'
        rw [hl, List.map_append, List.map_cons] at hT'
        obtain ⟨p, a', b', e1, e2, e3, e4⟩ := emap_mid hT'.symm.symm rfl
        have hmem : e ∈ S.es.toList := by
          have : e ∈ (S.es.filter fun e => !S.seen.contains e.born).toList := he
          simp at this; simpa using this.1
        have hnd : ((leftOf S.es S.seen).toList.map (·.born)).Nodup := by
          have hs : List.Sublist (leftOf S.es S.seen).toList S.es.toList := by
            unfold leftOf; rw [Array.toList_filter]; exact List.filter_sublist
          exact (hs.map _).nodup hO.nd
        have hleft : (leftOf S.es (S.seen.push e.born)).toList = l1 ++ l2 := by
          have h5 : (leftOf S.es (S.seen.push e.born)).toList = (leftOf S.es S.seen).toList.filter (fun y => !(y.born == e.born)) := by
            unfold leftOf
            rw [Array.toList_filter, Array.toList_filter, List.filter_filter]
            congr 1
            funext y
            simp only [Array.contains_push]
            cases S.seen.contains y.born <;> cases hq : (y.born == e.born) <;> simp_all
          rw [h5, hl, List.filter_append, List.filter_cons]
          rw [hl, List.map_append, List.map_cons] at hnd
          have hn := List.nodup_append.1 hnd
          have hn2 := List.nodup_cons.1 hn.2.1
          simp only [beq_self_eq_true, Bool.not_true, Bool.false_eq_true, if_false]
          congr 1
          · rw [List.filter_eq_self]
            intro y hy
            have : y.born ≠ e.born := hn.2.2 _ (List.mem_map_of_mem hy) _ (List.mem_cons_self ..)
            simpa using this
          · rw [List.filter_eq_self]
            intro y hy
            have : y.born ≠ e.born := fun h => hn2.1 (by rw [← h]; exact List.mem_map_of_mem hy)
            simpa using this
        refine ⟨(some p, ⟨S.es, S.clock, S.seen.push e.born⟩, a' ++ b'), setBlock w1 r (.mapIter (some m) S.clock (S.seen.push e.born) S.clock), ⟨.come p a' b' ⟨S.es, S.clock, S.seen.push e.born⟩ e1 ⟨hO.all, hO.nd, hO.old⟩ ?_ ⟨e, S.seen, rfl, hmem, ?_, ?_⟩, rfl⟩, ?_, ?_⟩
        · show (leftOf S.es (S.seen.push e.born)).toList.map _ = _
          rw [hleft, List.map_append, emap, List.map_append]
          rw [← e2, ← e3]; rfl
        · exact (congrArg Prod.fst e4).symm
        · exact (congrArg Prod.snd e4).symm
        · simp only [execOp, st.ev hx, Sem.run_bind, hrun, Result.andThen_ok, Sem.run_pure]
          rw [show e.key = enc p.1 from (congrArg Prod.fst e4).symm, show e.val = p.2 from (congrArg Prod.snd e4).symm]; rfl
        · exact Mem.setBlock hm1)
    fun z hz => k z.1 z.2.1 z.2.2 hz.1 hz.2
theorem v_entryG {p : κ × Value} (hm : ∀ w, Mem E I H w → w.heap[m]? = some S.mp) (h1 : Res.any r (S.it m) ∈ H) (hO : S.Ok enc kvs) (hA : S.At enc p) (hx : ev L x = some (.pointer (some ⟨r, 0, none⟩))) : OV P n E I L H ⟨some d, .entry x, ty, pos, af, none⟩ (.tuple #[enc p.1, p.2]) := fun a w st mm => by
  obtain ⟨e, seen0, hs, he, hk, hv⟩ := hA
  have hr : w.heap[r]? = some (.mapIter (some m) S.clock (seen0.push e.born) S.clock) := by
    have := mm.holds _ h1
    rw [← hs]; exact this
  have hb : w.heap[m]? = some (.map S.es S.clock) := hm w mm
  simp only [execOp, st.ev hx, Sem.run_bind, run_entry_at w r m S.clock seen0 S.es S.clock e hr hb he hO.nd, Result.andThen_ok, Sem.run_pure, hk, hv]
/-- a map that is given up: it can be read on, by whoever -/
theorem sx_pubmap (h : ∀ I', ILe I I' → I' m = some S.mp → SX n E I' L H K) : SX n E I L (.any m S.mp :: H) K := by
  intro a w s mm
  have hh : w.heap[m]? = some S.mp := mm.holds _ (List.mem_cons_self ..)
  exact h _ (IMap.pub_le _ (mm.priv _ (List.mem_cons_self ..) m rfl).1) (IMap.pub_same _ _ _) a w s (mm.pub (g := m) rfl hh)
theorem con_map (h : I m = some S.mp) : ∀ w, Mem E I H w → w.heap[m]? = some S.mp := fun w mm => mm.con m _ h
end
theorem ItS.Step.some {κ : Type} {enc : κ → Value} {kvs todo t' : List (κ × Value)} {S S' : ItS} {q : Option (κ × Value)} (h : ItS.Step enc kvs todo S q S' t') (hq : q.isSome = true) :
    ∃ p a b, todo = a ++ p :: b ∧ S'.Ok enc kvs ∧ S'.Todo enc (a ++ b) ∧ S'.At enc p ∧ q = .some p ∧ t' = a ++ b := by
  cases h with
  | over h => cases hq
  | come p a b S1 h h1 h2 h3 => exact ⟨p, a, b, h, h1, h2, h3, rfl, rfl⟩
theorem ItS.Step.none {κ : Type} {enc : κ → Value} {kvs todo t' : List (κ × Value)} {S S' : ItS} {q : Option (κ × Value)} (h : ItS.Step enc kvs todo S q S' t') (hq : q.isSome = false) : todo = [] ∧ q = .none ∧ S' = S := by
  cases h with
  | over h => exact ⟨h, rfl, rfl⟩
  | come p a b S1 h h1 h2 h3 => cases hq
end Go.Sx

/- What is inside a part: found in rounds, from above. -/
set_option linter.all false
namespace Go.Sx
open Go
abbrev NU := ByteArray × ByteArray
theorem mget_mem : ∀ {kvs : List (ByteArray × Value)} {k : ByteArray} {v : Value}, (kvs.map Prod.fst).Nodup → (k, v) ∈ kvs → mget kvs k = some v
  | (k', u) :: r, k, v, hn, h => by
    rw [List.map_cons, List.nodup_cons] at hn
    simp only [mget]
    rcases List.mem_cons.1 h with h | h
    · cases h; simp
    · have : k' ≠ k := fun e => by
        have h9 : k ∈ r.map Prod.fst := List.mem_map_of_mem (f := Prod.fst) h
        rw [← e] at h9
        exact hn.1 h9
      rw [if_neg this]; exact mget_mem hn.2 h
theorem mget_has : ∀ {kvs : List (ByteArray × Value)} {k : ByteArray} {v : Value}, mget kvs k = some v → k ∈ kvs.map Prod.fst
  | (k', u) :: r, k, v, h => by
    simp only [mget] at h
    split at h
    · rename_i e; simp [e]
    · simp [mget_has h]
/-- an entry of the index -/
theorem Ix.mem {kvs : List (ByteArray × Value)} {l : List Part} {k : ByteArray} {v : Value} (h : Ix kvs l) (hn : (kvs.map Prod.fst).Nodup) (hp : (k, v) ∈ kvs) : ∃ (i : Nat) (hi : i < l.length), v = ci (i : Nat) ∧ findP l k = some l[i] := by
  have h1 := mget_mem hn hp
  rw [h k] at h1
  cases hf : l.findIdx? (fun p => decide (p.name = k)) with
  | none => rw [hf] at h1; cases h1
  | some i =>
    rw [hf] at h1
    simp only [Option.map_some, Option.some.injEq] at h1
    rw [List.findIdx?_eq_some_iff_getElem] at hf
    obtain ⟨hi, hq, hb⟩ := hf
    refine ⟨i, hi, h1.symm, ?_⟩
    rw [findP, List.find?_eq_some_iff_getElem]
    exact ⟨hq, i, hi, rfl, fun j hj => by simpa using hb j hj⟩
theorem Ix.has {kvs : List (ByteArray × Value)} {l : List Part} {k : ByteArray} (h : Ix kvs l) (hs : (findP l k).isSome = true) : k ∈ kvs.map Prod.fst := by
  have h1 := h k
  cases hf : l.findIdx? (fun p => decide (p.name = k)) with
  | none =>
    exfalso
    rw [List.findIdx?_eq_none_iff] at hf
    obtain ⟨p, hp⟩ := Option.isSome_iff_exists.1 hs
    have h2 := List.mem_of_find?_eq_some hp
    have h3 := List.find?_some hp
    rw [hf p h2] at h3; cases h3
  | some i => rw [hf] at h1; exact mget_has h1
theorem up_some {l : List Part} {n : ByteArray} (h : upP l n ≠ nil8) : (findP l n).isSome = true := by
  unfold upP at h
  cases hf : findP l n with
  | none => rw [hf] at h; exact absurd rfl h
  | some p => rfl
/-- the fitted parts among some names -/
def fillR (l : List Part) (ks : List ByteArray) : List NU := (ks.filter fun n => !decide (upP l n = nil8)).map fun n => (n, upP l n)
section
variable {l : List Part} {v : ByteArray} {R : List NU} {lst out more : List ByteArray} {kvs todo done : List (ByteArray × Value)}
theorem fill_fst (ks : List ByteArray) : (fillR l ks).map Prod.fst = ks.filter fun n => !decide (upP l n = nil8) := by unfold fillR; rw [List.map_map]; exact List.map_id _
theorem fill_mem {ks : List ByteArray} {n u : ByteArray} : (n, u) ∈ fillR l ks ↔ n ∈ ks ∧ upP l n = u ∧ u ≠ nil8 := by
  unfold fillR
  rw [List.mem_map]
  constructor
  · rintro ⟨m, hm, e⟩
    cases e
    have := List.mem_filter.1 hm
    exact ⟨this.1, rfl, by simpa using this.2⟩
  · rintro ⟨h1, rfl, h2⟩
    exact ⟨n, List.mem_filter.2 ⟨h1, by simpa using h2⟩, rfl⟩
/-- so many parts are fitted -/
def fitN (l : List Part) : Nat := (l.filter fun p => !decide (p.into = nil8)).length
theorem fill_len {ks : List ByteArray} (hn : ks.Nodup) : (fillR l ks).length ≤ fitN l := by
  unfold fillR fitN
  rw [List.length_map, show (l.filter fun p => !decide (p.into = nil8)).length = ((l.filter fun p => !decide (p.into = nil8)).map Part.name).length from (List.length_map _).symm]
  refine List.Nodup.length_le_of_subset (List.filter_sublist.nodup hn) fun n hm => ?_
  have h1 := (List.mem_filter.1 hm).2
  have h2 : upP l n ≠ nil8 := by simpa using h1
  obtain ⟨p, hp⟩ := Option.isSome_iff_exists.1 (up_some h2)
  have hpn : p.name = n := by simpa using List.find?_some hp
  refine List.mem_map.2 ⟨p, List.mem_filter.2 ⟨List.mem_of_find?_eq_some hp, ?_⟩, hpn⟩
  unfold upP at h2
  rw [hp] at h2
  simpa using h2
/-- the rounds -/
structure Bfs (l : List Part) (v : ByteArray) (R : List NU) (lst out : List ByteArray) : Prop where
  kn : (R.map Prod.fst).Nodup
  rest : ∀ n u, (n, u) ∈ R ↔ (upP l n = u ∧ u ≠ nil8) ∧ n ≠ v ∧ n ∉ out
  ins : ∀ n ∈ out, InsP l v n
  lst' : ∀ x ∈ lst, x = v ∨ x ∈ out
  proc : ∀ x, (x = v ∨ x ∈ out) → x ∉ lst → ∀ n, (n, x) ∉ R
  len : out.length + R.length ≤ fitN l
theorem Bfs.start (hx : Ix kvs l) (hn : (kvs.map Prod.fst).Nodup) (hd : done.Perm kvs) : Bfs l v ((fillR l (done.map Prod.fst)).filter fun p => !decide (p.1 = v)) [v] [] := by
  have hdn : (done.map Prod.fst).Nodup := ((hd.map _).nodup_iff).2 hn
  have hR : ∀ n u, (n, u) ∈ (fillR l (done.map Prod.fst)).filter (fun p => !decide (p.1 = v)) ↔ (upP l n = u ∧ u ≠ nil8) ∧ n ≠ v := fun n u => by
    rw [List.mem_filter, fill_mem]
    constructor
    · rintro ⟨⟨_, h2⟩, h3⟩; exact ⟨h2, by simpa using h3⟩
    · rintro ⟨⟨rfl, h2⟩, h3⟩
      refine ⟨⟨?_, rfl, h2⟩, by simpa using h3⟩
      exact (hd.map Prod.fst).mem_iff.2 (hx.has (up_some h2))
  refine ⟨?_, fun n u => by rw [hR]; simp, fun n h => (by cases h), fun x h => .inl (List.mem_singleton.1 h), fun x h hx => ?_, ?_⟩
  · have h1 : ((fillR l (done.map Prod.fst)).map Prod.fst).Nodup := by rw [fill_fst]; exact List.filter_sublist.nodup hdn
    exact (List.filter_sublist.map _).nodup h1
  · rcases h with h | h
    · exact absurd (List.mem_singleton.2 h) hx
    · cases h
  · have := fill_len (l := l) hdn
    have h2 := List.length_filter_le (fun p : NU => !decide (p.1 = v)) (fillR l (done.map Prod.fst))
    simp only [List.length_nil]; omega
/-- what a round finds -/
def nextN (lst : List ByteArray) (done : List NU) : List ByteArray := (done.filter fun p => decide (p.2 ∈ lst)).map Prod.fst
theorem nextN_mem {done : List NU} (hd : done.Perm R) {n : ByteArray} : n ∈ nextN lst done ↔ ∃ u, (n, u) ∈ R ∧ u ∈ lst := by
  unfold nextN
  rw [List.mem_map]
  constructor
  · rintro ⟨⟨m, u⟩, hp, rfl⟩
    have := List.mem_filter.1 hp
    exact ⟨u, hd.mem_iff.1 this.1, by simpa using this.2⟩
  · rintro ⟨u, h1, h2⟩
    exact ⟨(n, u), List.mem_filter.2 ⟨hd.mem_iff.2 h1, by simpa using h2⟩, rfl⟩
/-- what is left of the rest when some of the found are taken out -/
def restN (R : List NU) (more : List ByteArray) : List NU := R.filter fun p => !decide (p.1 ∈ more)
theorem restN_kn (h : (R.map Prod.fst).Nodup) (more : List ByteArray) : ((restN R more).map Prod.fst).Nodup := (List.filter_sublist.map _).nodup h
theorem kn_eq {n u u' : ByteArray} (h : (R.map Prod.fst).Nodup) (h1 : (n, u) ∈ R) (h2 : (n, u') ∈ R) : u = u' := by
  induction R with
  | nil => cases h1
  | cons p R ih =>
    rw [List.map_cons, List.nodup_cons] at h
    rcases List.mem_cons.1 h1 with h1 | h1
    · rcases List.mem_cons.1 h2 with h2 | h2
      · rw [← h1] at h2; exact (Prod.mk.inj h2).2.symm
      · exact absurd (List.mem_map_of_mem (f := Prod.fst) h2) (by rw [← h1] at h; exact h.1)
    · rcases List.mem_cons.1 h2 with h2 | h2
      · exact absurd (List.mem_map_of_mem (f := Prod.fst) h1) (by rw [← h2] at h; exact h.1)
      · exact ih h.2 h1 h2
theorem next_len {done : List NU} (hk : (R.map Prod.fst).Nodup) (hd : done.Perm R) : (nextN lst done).length + (restN R (nextN lst done)).length = R.length := by
  have h1 : (nextN lst done).length = R.countP (fun p => decide (p.2 ∈ lst)) := by
    unfold nextN
    rw [List.length_map, ← List.countP_eq_length_filter]
    exact hd.countP_eq _
  have h2 : restN R (nextN lst done) = R.filter (fun p => decide ¬ (decide (p.2 ∈ lst) = true)) := by
    unfold restN
    refine List.filter_congr fun p hp => ?_
    rw [Bool.eq_iff_iff]
    simp only [Bool.not_eq_true', decide_eq_false_iff_not, decide_eq_true_eq]
    refine not_congr ?_
    rw [nextN_mem hd]
    exact ⟨fun ⟨u, h3, h4⟩ => by rw [kn_eq hk hp h3]; exact h4, fun h => ⟨p.2, hp, h⟩⟩
  rw [h1, h2, ← List.countP_eq_length_filter]
  exact (List.length_eq_countP_add_countP (fun p : NU => decide (p.2 ∈ lst))).symm
theorem Bfs.step {done : List NU} (hv : (findP l v).isSome = true) (h : Bfs l v R lst out) (hd : done.Perm R) : Bfs l v (restN R (nextN lst done)) (nextN lst done) (out ++ nextN lst done) := by
  have hsub : ∀ {p : NU}, p ∈ restN R (nextN lst done) ↔ p ∈ R ∧ p.1 ∉ nextN lst done := fun {p} => by unfold restN; rw [List.mem_filter]; simp
  refine ⟨restN_kn h.kn _, fun n u => ?_, fun n hn => ?_, fun x hx => .inr (List.mem_append.2 (.inr hx)), fun x hx hnx n hm => ?_, ?_⟩
  · rw [hsub, h.rest, List.mem_append, not_or]
    simp only [and_assoc]
  · rcases List.mem_append.1 hn with hn | hn
    · exact h.ins n hn
    · obtain ⟨u, h1, h2⟩ := (nextN_mem hd).1 hn
      obtain ⟨⟨h3, h4⟩, h5, h6⟩ := (h.rest n u).1 h1
      have hup : upP l n ≠ nil8 := by rw [h3]; exact h4
      refine ⟨⟨hv, up_some hup, h5⟩, ?_⟩
      rcases h.lst' u h2 with rfl | hu
      · exact ⟨1, by unfold reachF; rw [h3]; simp [h4]⟩
      · obtain ⟨_, k, hk⟩ := h.ins u hu
        exact ⟨k + 1, by unfold reachF; rw [h3]; simp [h4, hk]⟩
  · obtain ⟨hm1, hm2⟩ := hsub.1 hm
    have hx' : x = v ∨ x ∈ out := by
      rcases hx with hx | hx
      · exact .inl hx
      · rcases List.mem_append.1 hx with hx | hx
        · exact .inr hx
        · exact absurd hx hnx
    by_cases hl : x ∈ lst
    · exact hm2 ((nextN_mem hd).2 ⟨x, hm1, hl⟩)
    · exact h.proc x hx' hl n hm1
  · have h1 := h.len
    have h2 := next_len (lst := lst) h.kn hd
    rw [List.length_append]; omega
theorem Bfs.over (h : Bfs l v R [] out) {n : ByteArray} : n ∈ out ↔ InsP l v n := by
  refine ⟨h.ins n, fun ⟨⟨_, hf, hnv⟩, k, hk⟩ => ?_⟩
  have key : ∀ (k : Nat) (n : ByteArray), n ≠ v → reachF l v k n = true → n ∈ out := by
    intro k
    induction k with
    | zero => intro n _ h; cases h
    | succ k ih =>
      intro n hn hr
      simp only [reachF, Bool.and_eq_true, Bool.not_eq_true', decide_eq_false_iff_not, Bool.or_eq_true, decide_eq_true_eq] at hr
      obtain ⟨h1, h2⟩ := hr
      refine Classical.byContradiction fun hc => ?_
      have hR := (h.rest n (upP l n)).2 ⟨⟨rfl, h1⟩, hn, hc⟩
      by_cases hv : upP l n = v
      · exact h.proc _ (.inl hv) (by simp) n hR
      · exact h.proc _ (.inr (ih _ hv (h2.resolve_left hv))) (by simp) n hR
  exact key k n hnv hk
end
end Go.Sx

/- Walks, printed by a program out of the code of the functions: each theorem is a contract of one function. -/
namespace Go.Proofs.YtdapmfkbpnjkmaaGreat
open Go Go.Sx
set_option linter.all false
set_option maxRecDepth 20000
set_option maxHeartbeats 4000000
instance T.fld_72_0 : Has (fldK Tryz.prog 72 0) (0, true, 1) := ⟨by kernel_rfl⟩
instance T.fld_72_1 : Has (fldK Tryz.prog 72 1) (1, true, 3) := ⟨by kernel_rfl⟩
instance T.und_233 : Has (Tryz.prog.underlying 233) (.map 9 9) := ⟨by kernel_rfl⟩
end Go.Proofs.YtdapmfkbpnjkmaaGreat

/- Currencies: what they are, what the life of a part is in each. -/
set_option linter.all false
namespace Go.Sx
open Go
def sKm : ByteArray := ⟨#[107, 109]⟩
def sCycles : ByteArray := ⟨#[99, 121, 99, 108, 101, 115]⟩
def sDamage : ByteArray := ⟨#[100, 97, 109, 97, 103, 101]⟩
def sDays : ByteArray := ⟨#[100, 97, 121, 115]⟩
def sAge : ByteArray := ⟨#[97, 103, 101]⟩
def curL : List ByteArray := [sKm, sCycles, sDamage, sDays, sAge]
def isCur (s : ByteArray) : Bool := decide (s ∈ curL)
def sinceI (day a : Int) : Ivl := if a ≥ day then zIvl else ⟨day - max a (day - (1000000000000 : Int)), day - max a (day - (1000000000000 : Int))⟩
def curI (p : Part) (s : ByteArray) (day : Int) : Ivl := if s = sKm then p.life.km else if s = sCycles then p.life.cycles else if s = sDamage then p.life.damage else if s = sDays then sinceI day p.since else sinceI day p.made
def valueF (p : Part) (s : ByteArray) (day : Int) : Ivl × Int := if isCur s = false then (zIvl, 15) else if (decide (day < 0) || decide (day > 40000)) = true then (zIvl, 13) else (curI p s day, 0)
section
variable {p : Part} {s : ByteArray} {day : Int}
end
section
variable {P : Program} {ρ : Option Nat} {n : Sz} {E : Ent} {I I' : IMap} {L : LL} {H H0 : List Res} {Q : Exit → Act → World → Prop} {ops : Array Oper} {K : Act → World → Prop}
variable {d ty : Nat} {pos : String} {af : Array Edge} {fo x y z : Operand} {as_ : List Operand} {ats : Array TypeId} {f : FuncId} {args : List Value}
end
end Go.Sx

/- Walks, printed by a program out of the code of the functions: each theorem is a contract of one function. -/
namespace Go.Proofs.YtdapmfkbpnjkmaaGreat
open Go Go.Sx
set_option linter.all false
set_option maxRecDepth 20000
set_option maxHeartbeats 4000000
instance T.ty_240 : Has (tyK Tryz.prog 240) (false, 1) := ⟨by kernel_rfl⟩
instance T.und_162 : Has (Tryz.prog.underlying 162) (.map 9 160) := ⟨by kernel_rfl⟩
instance T.zero_240 : Has (zeroK Tryz.prog 240) [.nilFunc] := ⟨by kernel_rfl⟩
instance T.zv_160 : Has (zvK Tryz.prog 160) (.nilFunc) := ⟨by kernel_rfl⟩
end Go.Proofs.YtdapmfkbpnjkmaaGreat

/- What the laws of lives rest on: sizes, the chapter's example. -/
set_option linter.all false
namespace Go.Sx
open Go
/-! the example -/
/-! counting parts -/
theorem find_step {l : List Part} {s : ByteArray} {i : Nat} (hi : i < l.length) (h : findP (l.drop i) s = findP l s) (hn : ¬ l[i].name = s) : findP (l.drop (i + 1)) s = findP l s := by
  rw [← h, List.drop_eq_getElem_cons hi]
  unfold findP
  rw [List.find?_cons_of_neg (by simpa using hn)]
theorem find_hit {l : List Part} {s : ByteArray} {i : Nat} (hi : i < l.length) (h : findP (l.drop i) s = findP l s) (hn : l[i].name = s) : findP l s = some l[i] := by
  rw [← h, List.drop_eq_getElem_cons hi]
  unfold findP
  rw [List.find?_cons_of_pos (by simpa using hn)]
theorem find_end {l : List Part} {s : ByteArray} {i : Nat} (hi : ¬ i < l.length) (h : findP (l.drop i) s = findP l s) : findP l s = none := by
  rw [← h, List.drop_eq_nil_of_le (by omega)]; rfl
end Go.Sx

/- Walks, printed by a program out of the code of the functions: each theorem is a contract of one function. -/
namespace Go.Proofs.YtdapmfkbpnjkmaaGreat
open Go Go.Sx
set_option linter.all false
set_option maxRecDepth 20000
set_option maxHeartbeats 4000000
theorem flFind (I : IMap) (v : Value) (l : List Part) (hv : RdS I v l) (s : ByteArray) :
    FnE Tryz.prog 27 #[.agg #[v], .string s] I (PartIs I (findP l s)) := by
 have hv0 := hv
 obtain ⟨A, c0, rfl, hA, hc, hm⟩ := hv
 refine enter Tryz.func27 Tryz.call27 rfl Tryz.ntmps27 rfl (fun w0 => ?_)
 refine go 3 ?_
 refine o_box _ rfl rfl rfl (fun g2 => ?_)
 refine go 1 ?_
 refine o_alloc he rfl (fun g4 => ?_)
 refine go 13 ?_
 refine bring1 ?_
 refine sx_drop ?_
 refine c_loop (α := Nat) 0 (fun i => I)
  (fun i => [(1, .string s), (4, .pointer (some ⟨g4, 0, none⟩)), (9, .slice A l.length c0), (10, .int .i64 (l.length : Int)), (11, .int .i64 ((i : Nat) : Int))])
  (fun i => [.blk g4 48 [.string ⟨#[]⟩, .string ⟨#[]⟩, .string ⟨#[]⟩, .string ⟨#[]⟩, .int .i64 0, .int .i64 0, .bool false, .slice none 0 0, .int .i64 0, .int .i64 0, .int .i64 0, .int .i64 0, .int .i64 0, .int .i64 0]])
  (fun i => i ≤ l.length ∧ findP (l.drop i) s = findP l s)
  (fun i => l.length - i) ⟨Nat.zero_le _, rfl⟩ rfl sb rfl ?_
 intro i ⟨hi, hn⟩
 refine go 6 ?_
 refine cb rfl (fun h12 p12 => ?_) (fun h12 p12 => ?_)
 ·have hlt : i < l.length := by omega
  refine go 6 ?_
  obtain ⟨b13, o13, w13, e13, c13, r13⟩ := RdA.at_ hA (i := i) hlt
  obtain ⟨q13, rfl, B13, d13, rfl, hB13, hd13, hm13⟩ := r13
  refine o_v rfl (v_idx he rfl rfl e13 (i) (by omega) hlt) ?_
  refine o_v rfl (v_ldIa he rfl c13 rfl) ?_
  refine go 1 ?_
  refine o_alloc he rfl (fun g7 => ?_)
  refine go 1 ?_
  refine o_stw _ he rfl rfl rfl rfl rfl rfl ?_
  refine go 10 ?_
  refine cb rfl (fun h18 p18 => ?_) (fun h18 p18 => ?_)
  ·refine go 4 ?_
   refine bring1 ?_
   refine o_stw _ he rfl rfl rfl rfl rfl rfl ?_
   refine go 9 ?_
   refine fin2 rfl ⟨_, _, _, rfl, m0, .inr ⟨_, he, rfl, rfl⟩⟩ rfl ?_
   exact q_e (PartIs.of (find_hit hlt hn p18) ⟨_, rfl, B13, d13, rfl, hB13, hd13, hm13⟩)
  ·refine go 8 ?_
   refine sx_drop ?_
   exact q_next (i + 1) ⟨by omega, find_step hlt hn p18⟩ (by omega) rfl sb rfl
 ·refine go 8 ?_
  refine o_val rfl (v_build (pl := [(0, 1), (1, 1), (2, 1), (3, 1), (4, 1), (5, 1), (6, 1), (7, 1), (8, 6)]) he he rfl rfl) ?_
  refine go 1 ?_
  refine o_stw _ he rfl rfl rfl rfl rfl rfl ?_
  refine go 4 ?_
  refine fin2 rfl ⟨_, _, _, rfl, m0, .inr ⟨_, he, rfl, rfl⟩⟩ rfl ?_
  exact q_e (PartIs.none (find_end (by omega) hn))

end Go.Proofs.YtdapmfkbpnjkmaaGreat

/- Walks, printed by a program out of the code of the functions: each theorem is a contract of one function. -/
namespace Go.Proofs.YtdapmfkbpnjkmaaGreat
open Go Go.Sx
set_option linter.all false
set_option maxRecDepth 20000
set_option maxHeartbeats 4000000
instance T.ty_72 : Has (tyK Tryz.prog 72) (true, 4) := ⟨by kernel_rfl⟩
end Go.Proofs.YtdapmfkbpnjkmaaGreat

/- Duties: what has begun and was not met, what is overdue, what is open. -/
set_option linter.all false
namespace Go.Sx
open Go
structure Dut where
  name : ByteArray
  kind : ByteArray
  key : ByteArray
  after : Int
  within : Int
  deriving DecidableEq
structure Due where
  part : ByteArray
  rule : ByteArray
  day : Int
  deriving DecidableEq
def Dut.cells (d : Dut) : List Value := [.string d.name, .string d.kind, .string d.key, ci d.after, ci d.within]
def Due.cells (d : Due) : List Value := [.string d.part, .string d.rule, ci d.day]
instance : Enc Dut where
  k := 5
  rd _ vs x := vs = x.cells
  len h := by rw [h]; rfl
  mono _ h := h
  one h := by rw [h]; rfl
instance : Enc Due where
  k := 3
  rd _ vs x := vs = x.cells
  len h := by rw [h]; rfl
  mono _ h := h
  one h := by rw [h]; rfl
/-! sorted lists without repetition -/
section
variable {α : Type} [DecidableEq α] {lt : α → α → Bool}
def insU (lt : α → α → Bool) (x : α) : List α → List α
  | [] => [x]
  | y :: l => if lt y x = true then y :: insU lt x l else if y = x then y :: l else x :: y :: l
def srtU (lt : α → α → Bool) (l : List α) : List α := l.foldl (fun a x => insU lt x a) []
theorem insU_mem {x z : α} : ∀ {l : List α}, z ∈ insU lt x l ↔ z = x ∨ z ∈ l
  | [] => by simp [insU]
  | y :: l => by
    simp only [insU]
    split
    · simp only [List.mem_cons, insU_mem (l := l)]
      constructor
      · rintro (h | h | h)
        · exact .inr (.inl h)
        · exact .inl h
        · exact .inr (.inr h)
      · rintro (h | h | h)
        · exact .inr (.inl h)
        · exact .inl h
        · exact .inr (.inr h)
    · split
      · rename_i h1 h2
        subst h2
        simp only [List.mem_cons]
        exact ⟨.inr, fun h => h.elim .inl id⟩
      · simp only [List.mem_cons]
def SrtU (lt : α → α → Bool) (l : List α) : Prop := l.Pairwise fun a b => lt a b = true
theorem insU_srt (htr : ∀ a b c, lt a b = true → lt b c = true → lt a c = true) {x : α} : ∀ {l : List α}, (∀ y ∈ l, lt y x = false → y ≠ x → lt x y = true) → SrtU lt l → SrtU lt (insU lt x l)
  | [], _, _ => by simp [insU, SrtU]
  | y :: l, ht, h => by
    obtain ⟨h1, h2⟩ := List.pairwise_cons.1 h
    simp only [insU]
    split
    · rename_i hy
      refine List.pairwise_cons.2 ⟨fun z hz => ?_, insU_srt htr (fun z hz => ht z (by simp [hz])) h2⟩
      rcases insU_mem.1 hz with rfl | hz
      · exact hy
      · exact h1 z hz
    · split
      · exact h
      · rename_i hy hn
        have hxy := ht y (by simp) (by simpa using hy) hn
        refine List.pairwise_cons.2 ⟨fun z hz => ?_, h⟩
        rcases List.mem_cons.1 hz with rfl | hz
        · exact hxy
        · exact htr _ _ _ hxy (h1 z hz)
theorem srtU_go {z : α} : ∀ {l a : List α}, z ∈ l.foldl (fun a x => insU lt x a) a ↔ z ∈ a ∨ z ∈ l
  | [], a => by simp
  | x :: l, a => by
    rw [List.foldl_cons, srtU_go, insU_mem, List.mem_cons]
    constructor
    · rintro ((h | h) | h)
      · exact .inr (.inl h)
      · exact .inl h
      · exact .inr (.inr h)
    · rintro (h | h | h)
      · exact .inl (.inr h)
      · exact .inl (.inl h)
      · exact .inr h
theorem srtU_mem {z : α} {l : List α} : z ∈ srtU lt l ↔ z ∈ l := by unfold srtU; rw [srtU_go]; simp
theorem srtU_srtGo (htr : ∀ a b c, lt a b = true → lt b c = true → lt a c = true) : ∀ {l a : List α}, (∀ x y, (x ∈ a ∨ x ∈ l) → (y ∈ a ∨ y ∈ l) → lt y x = false → y ≠ x → lt x y = true) → SrtU lt a → SrtU lt (l.foldl (fun a x => insU lt x a) a)
  | [], a, _, h => h
  | x :: l, a, ht, h => by
    rw [List.foldl_cons]
    refine srtU_srtGo htr (fun u v hu hv => ?_) (insU_srt htr (fun y hy => ht x y (.inr (by simp)) (.inl hy)) h)
    have hm : ∀ w, (w ∈ insU lt x a ∨ w ∈ l) → (w ∈ a ∨ w ∈ x :: l) := fun w hw => by
      rcases hw with hw | hw
      · rcases insU_mem.1 hw with rfl | hw
        · exact .inr (by simp)
        · exact .inl hw
      · exact .inr (by simp [hw])
    exact ht u v (hm u hu) (hm v hv)
theorem srtU_srt (htr : ∀ a b c, lt a b = true → lt b c = true → lt a c = true) {l : List α} (ht : ∀ x ∈ l, ∀ y ∈ l, lt y x = false → y ≠ x → lt x y = true) : SrtU lt (srtU lt l) :=
  srtU_srtGo htr (fun x y hx hy => ht x (hx.elim (fun h => by cases h) id) y (hy.elim (fun h => by cases h) id)) List.Pairwise.nil
/-- there is one sorted list of given members -/
theorem SrtU.uniq (hi : ∀ a, lt a a = false) (htr : ∀ a b c, lt a b = true → lt b c = true → lt a c = true) : ∀ {l m : List α}, SrtU lt l → SrtU lt m → (∀ z, z ∈ l ↔ z ∈ m) → l = m
  | [], [], _, _, _ => rfl
  | [], y :: m, _, _, h => by have := (h y).2 (by simp); cases this
  | x :: l, [], _, _, h => by have := (h x).1 (by simp); cases this
  | x :: l, y :: m, h1, h2, h => by
    obtain ⟨a1, b1⟩ := List.pairwise_cons.1 h1
    obtain ⟨a2, b2⟩ := List.pairwise_cons.1 h2
    have e : x = y := by
      rcases List.mem_cons.1 ((h x).1 (by simp)) with e | hx
      · exact e
      rcases List.mem_cons.1 ((h y).2 (by simp)) with e | hy
      · exact e.symm
      · have := htr _ _ _ (a1 y hy) (a2 x hx)
        rw [hi] at this; cases this
    subst e
    have hn1 : x ∉ l := fun hm => by have := a1 x hm; rw [hi] at this; cases this
    have hn2 : x ∉ m := fun hm => by have := a2 x hm; rw [hi] at this; cases this
    rw [SrtU.uniq hi htr b1 b2 fun z => ?_]
    constructor
    · intro hz
      rcases List.mem_cons.1 ((h z).1 (by simp [hz])) with rfl | hz2
      · exact absurd hz hn1
      · exact hz2
    · intro hz
      rcases List.mem_cons.1 ((h z).2 (by simp [hz])) with rfl | hz2
      · exact absurd hz hn2
      · exact hz2
theorem SrtU.nodup (hi : ∀ a, lt a a = false) {l : List α} (h : SrtU lt l) : l.Nodup := by
  rw [List.nodup_iff_pairwise_ne]
  exact h.imp fun h1 e => by subst e; rw [hi] at h1; cases h1
end
/-! duties -/
def leastN : List Int → Option Int
  | [] => none
  | x :: l => some (l.foldl min x)
section
variable {ds : List Dut} {c : List Kind} {l : List Evt} {p : ByteArray} {day : Int}
end
end Go.Sx

/- States of histories: split by names, valid, who is where; the component that mentions a name. -/
set_option linter.all false
namespace Go.Sx
open Go
theorem runs_go2 (c : List Kind) : ∀ (l : List Evt) (st s : List Part) (z : Int), runsTo c st l = some s ↔ (runGo c st z l).2.2 = 0 ∧ (runGo c st z l).1 = s
  | [], st, s, z => by simp [runsTo, runGo]
  | e :: l, st, s, z => by
    simp only [runsTo, runGo]
    by_cases h : (applyF c st e).2 = 0
    · rw [if_pos h, if_pos h]; exact runs_go2 c l _ s _
    · rw [if_neg h, if_neg h]
      constructor
      · intro h2; cases h2
      · intro h2; exact absurd h2.1 h
theorem runs_vs {c : List Kind} : ∀ {l : List Evt} {st s : List Part}, VS c st → runsTo c st l = some s → VS c s
  | [], st, s, h, hr => by simp only [runsTo] at hr; cases hr; exact h
  | e :: l, st, s, h, hr => by
    simp only [runsTo] at hr
    by_cases h2 : (applyF c st e).2 = 0
    · rw [if_pos h2] at hr
      obtain ⟨p', hp⟩ := of_apply h2
      rw [apply_of hp] at hr
      exact runs_vs hp.valid hr
    · rw [if_neg h2] at hr; cases hr
theorem runs_size {c : List Kind} : ∀ {l : List Evt} {st s : List Part}, VS c st → runsTo c st l = some s → s.length ≤ st.length + l.length
  | [], st, s, h, hr => by simp only [runsTo] at hr; cases hr; simp
  | e :: l, st, s, h, hr => by
    simp only [runsTo] at hr
    by_cases h2 : (applyF c st e).2 = 0
    · rw [if_pos h2] at hr
      obtain ⟨p', hp⟩ := of_apply h2
      rw [apply_of hp] at hr
      have h3 := runs_size hp.valid hr
      have h4 := put_le (x := p') h.inc
      rw [List.length_cons]; omega
    · rw [if_neg h2] at hr; cases hr
/-- who is in a state, and in what, is told by some event -/
theorem runs_from {c : List Kind} (K : List Evt) : ∀ {l : List Evt} {st s : List Part}, VS c st → (∀ e ∈ l, e ∈ K) → (∀ x ∈ st, (∃ e ∈ K, e.part = x.name) ∧ (x.into ≠ nil8 → ∃ e ∈ K, e.op = 2 ∧ e.part = x.name ∧ e.into = x.into)) → runsTo c st l = some s →
    ∀ x ∈ s, (∃ e ∈ K, e.part = x.name) ∧ (x.into ≠ nil8 → ∃ e ∈ K, e.op = 2 ∧ e.part = x.name ∧ e.into = x.into)
  | [], st, s, h, hK, h0, hr => by simp only [runsTo] at hr; cases hr; exact h0
  | e :: l, st, s, h, hK, h0, hr => by
    simp only [runsTo] at hr
    by_cases h2 : (applyF c st e).2 = 0
    · rw [if_pos h2] at hr
      obtain ⟨p', hp⟩ := of_apply h2
      rw [apply_of hp] at hr
      refine runs_from K hp.valid (fun f hf => hK f (by simp [hf])) (fun x hx => ?_) hr
      have he := hK e (by simp)
      rcases (put_mem h.inc).1 hx with rfl | ⟨hx, _⟩
      · have hn := hp.name
        refine ⟨⟨e, he, hn.symm⟩, fun hi => ?_⟩
        rcases hp.how with ⟨_, _, _, _, rfl⟩ | ⟨p, h1, _, h3⟩
        · exact absurd rfl hi
        · obtain ⟨hpm, hpn⟩ := (find_iff h.inc).1 h1
          have hold : p.into ≠ nil8 → ∃ e ∈ K, e.op = 2 ∧ e.part = p.name ∧ e.into = p.into := (h0 p hpm).2
          rcases h3 with ⟨o1, q, _, _, _, _, _, _, rfl⟩ | ⟨_, _, rfl⟩ | ⟨_, _, rfl⟩ | ⟨_, rfl⟩ | ⟨_, _, rfl⟩ | ⟨_, _, _, rfl⟩
          · exact ⟨e, he, o1, hn.symm, rfl⟩
          · exact absurd rfl hi
          · exact hold hi
          · exact hold hi
          · exact hold hi
          · exact hold hi
      · exact h0 x hx
    · rw [if_neg h2] at hr; cases hr
/-- the state of two parts that have nothing to do with each other -/
theorem runs_two {c : List Kind} {D : ByteArray → Bool} : ∀ (Z : List Evt) (s a b t : List Part), Spl D s a b → VS c s → VS c a → VS c b → s.length + Z.length < 20000 → a.length + Z.length < 20000 → b.length + Z.length < 20000 →
    (∀ e ∈ Z, Dev D e ∨ Dev (fun n => !D n) e) → runsTo c s Z = some t → ∃ a' b', runsTo c a (Z.filter fun e => D e.part) = some a' ∧ runsTo c b (Z.filter fun e => !D e.part) = some b' ∧ Spl D t a' b'
  | [], s, a, b, t, h, _, _, _, _, _, _, _, hr => by simp only [runsTo] at hr; cases hr; exact ⟨a, b, rfl, rfl, h⟩
  | e :: r, s, a, b, t, h, vs, va, vb, ls, la, lb, hd, hr => by
    simp only [List.length_cons] at ls la lb
    simp only [runsTo] at hr
    have h0 : (applyF c s e).2 = 0 := by
      refine Decidable.by_contra fun h0 => ?_
      rw [if_neg h0] at hr; cases hr
    rw [if_pos h0] at hr
    obtain ⟨p', hs⟩ := of_apply h0
    rw [apply_of hs] at hr
    have l1 := put_le (x := p') h.is
    rcases hd e (by simp) with he | he
    · have hp := he.part
      have ha := (h.step he vs va (by omega) (by omega) p').1 hs
      simp only [List.filter_cons, hp, Bool.not_true, if_true, Bool.false_eq_true, if_false]
      have l2 := put_le (x := p') h.ia
      obtain ⟨a', b', h1, h2, h3⟩ := runs_two r _ _ _ t (h.put he ha) hs.valid ha.valid vb (by omega) (by omega) (by omega) (fun x hx => hd x (by simp [hx])) hr
      refine ⟨a', b', ?_, h2, h3⟩
      simp only [runsTo]
      rw [if_pos (by rw [apply_of ha]; rfl), apply_of ha]; exact h1
    · have hp : D e.part = false := by simpa using he.part
      have hb := (h.turn.step he vs vb (by omega) (by omega) p').1 hs
      simp only [List.filter_cons, hp, Bool.not_false, if_true, Bool.false_eq_true, if_false]
      have l2 := put_le (x := p') h.ib
      have ht := (h.turn.put he hb).turn
      have ht : Spl D (putL Part.name s p') a (putL Part.name b p') := ⟨ht.is, ht.ia, ht.ib, ht.mem, fun x hx => by simpa using ht.na x hx, fun x hx => by simpa using ht.nb x hx⟩
      obtain ⟨a', b', h1, h2, h3⟩ := runs_two r _ _ _ t ht hs.valid va hb.valid (by omega) (by omega) (by omega) (fun x hx => hd x (by simp [hx])) hr
      refine ⟨a', b', h1, ?_, h3⟩
      simp only [runsTo]
      rw [if_pos (by rw [apply_of hb]; rfl), apply_of hb]; exact h2
/-! histories -/
section
variable {c : List Kind} {l : List Rep} {t : List Int} {E : List Evt} {day : Int} {s : List Part}
theorem at_iff (hc : validC c = true) : runsTo c [] (sortF (upD E day)) = some s ↔ (atF11 c E day).2.2 = 0 ∧ (atF11 c E day).1 = s := by
  rw [at_eq, runF_eq hc]; exact runs_go2 c _ _ _ _
theorem runs_day (h : (runsTo c [] (sortF E)).isSome = true) (day : Int) : ∃ s, runsTo c [] (sortF (upD E day)) = some s := by
  rw [sort_day E day, runs_app] at h
  cases hs : runsTo c [] (sortF (upD E day)) with
  | none => rw [hs] at h; cases h
  | some s => exact ⟨s, rfl⟩
theorem hist_given (ht : t ∈ histF c l) : givenF c l t 0 = true ∧ validC c = true ∧ (∀ r ∈ l, validRep r = true) ∧ t ∈ allCh l := by
  have h := is_given ((hist_mem t).1 ht)
  exact ⟨h, given_cat h, (given_all h).2, hist_in_all ht⟩
theorem evAt_opt (hv : ∀ r ∈ l, validRep r = true) (ht : t ∈ allCh l) (i : Nat) : evAt l t i = gE 40001 l t i := by
  obtain ⟨htl, hb⟩ := all_mem.1 ht
  rcases Nat.lt_or_ge i l.length with hi | hi
  · have h2 : i < t.length := by omega
    rw [evAt_eq hi h2, gE, at2_eq hi h2]
    have h0 := (hb i hi h2).1
    show _ = optAt 40001 l[i] t[i]
    unfold optAt
    rw [if_pos h0]
    cases ho : l[i].options[t[i].toNat]? with
    | none => rfl
    | some e =>
      have := validE_parts (validRep_e (hv _ (List.getElem_mem hi)) e (List.mem_of_getElem? ho))
      show some e = if e.day < 40001 then some e else none
      rw [if_pos (by omega)]
  · unfold evAt gE at2
    rw [List.getElem?_eq_none hi]
theorem evs_pick (hv : ∀ r ∈ l, validRep r = true) (ht : t ∈ allCh l) : pickE 40001 l t = evsTo l t l.length := by
  rw [pickE_range (all_mem.1 ht).1]
  unfold evsTo
  exact fm_congr fun i _ => (evAt_opt hv ht i).symm
theorem hist_evs (ht : t ∈ histF c l) : pickedF l t = (evsTo l t l.length, 0) ∧ (runsTo c [] (sortF (evsTo l t l.length))).isSome = true := by
  obtain ⟨hg, hc, hv, ha⟩ := hist_given ht
  have hi := (hist_mem t).1 ht
  rw [is_ev hg, evs_pick hv ha] at hi
  refine ⟨?_, hi⟩
  obtain ⟨htl, hb⟩ := all_mem.1 ha
  unfold pickedF
  rw [if_pos]
  simp only [Bool.and_eq_true, decide_eq_true_eq]
  refine ⟨by omega, allTo_of (fun i h1 h2 => ?_) htl⟩
  have := hb i h1 h2
  simp [okK]; omega
theorem evs_mem {e : Evt} (h : e ∈ evsTo l t l.length) : ∃ i, ∃ hi : i < l.length, e ∈ l[i].options := by
  unfold evsTo at h
  obtain ⟨i, hi, h⟩ := List.mem_filterMap.1 h
  have hi := List.mem_range.1 hi
  unfold evAt at2 at h
  rw [List.getElem?_eq_getElem hi] at h
  cases ht : t[i]? with
  | none => rw [ht] at h; cases h
  | some k =>
    rw [ht] at h
    simp only [Option.join] at h
    exact ⟨i, hi, List.mem_of_getElem? h⟩
theorem evs_len2 (l : List Rep) (t : List Int) : (evsTo l t l.length).length ≤ l.length := evs_len l t l.length
/-- the state of a history on a day -/
structure Case (c : List Kind) (l : List Rep) (t : List Int) (day : Int) (s : List Part) : Prop where
  vs : VS c s
  at0 : (atF11 c (evsTo l t l.length) day).2.2 = 0
  at1 : (atF11 c (evsTo l t l.length) day).1 = s
  runs : runsTo c [] (sortF (upD (evsTo l t l.length) day)) = some s
  own : ∀ x ∈ s, ∃ i, ∃ hi : i < l.length, nm l[i] x.name
  link : ∀ x ∈ s, x.into ≠ nil8 → ∃ i, ∃ hi : i < l.length, nm l[i] x.name ∧ nm l[i] x.into
  len : s.length ≤ l.length
theorem hist_case (ht : t ∈ histF c l) (day : Int) : Case c l t day (atF11 c (evsTo l t l.length) day).1 := by
  obtain ⟨hg, hc, hv, ha⟩ := hist_given ht
  obtain ⟨s, hs⟩ := runs_day (hist_evs ht).2 day
  obtain ⟨h1, h2⟩ := (at_iff hc).1 hs
  rw [h2]
  have hn := runs_vs (vs_nil hc) hs
  have hf := runs_from (upD (evsTo l t l.length) day) (vs_nil hc) (fun e he => sortF_mem.1 he) (fun x hx => by cases hx) hs
  have hm : ∀ e ∈ upD (evsTo l t l.length) day, ∃ i, ∃ hi : i < l.length, validRep l[i] = true ∧ e ∈ l[i].options := fun e he => by
    obtain ⟨i, hi, h⟩ := evs_mem (List.mem_filter.1 he).1
    exact ⟨i, hi, hv _ (List.getElem_mem hi), h⟩
  refine ⟨hn, h1, h2, hs, fun x hx => ?_, fun x hx hi => ?_, ?_⟩
  · obtain ⟨e, he, hp⟩ := (hf x hx).1
    obtain ⟨i, hi, hvi, ho⟩ := hm e he
    exact ⟨i, hi, hvi, e, ho, by rw [← hp]; unfold mentions; split <;> simp⟩
  · obtain ⟨e, he, h2, hp, hq⟩ := (hf x hx).2 hi
    obtain ⟨i, hi, hvi, ho⟩ := hm e he
    exact ⟨i, hi, ⟨hvi, e, ho, by rw [← hp]; simp [mentions, h2]⟩, ⟨hvi, e, ho, by rw [← hq]; simp [mentions, h2]⟩⟩
  · have h3 := runs_size (vs_nil hc) hs
    rw [sortF_len] at h3
    have h4 : (upD (evsTo l t l.length) day).length ≤ (evsTo l t l.length).length := List.length_filter_le _ _
    have h5 := evs_len2 l t
    simp at h3; omega
end
/-! the component that mentions a name -/
def nmB (r : Rep) (z : ByteArray) : Bool := validRep r && r.options.any fun e => decide (z ∈ mentions e)
theorem nmB_iff {r : Rep} {z : ByteArray} : nmB r z = true ↔ nm r z := by
  simp [nmB, nm, List.any_eq_true]
def firstI (l : List Rep) (p : ByteArray) : Option Nat := (List.range l.length).find? fun i => ((l[i]?).map fun r => nmB r p).getD false
def ofN (l : List Rep) (R : Nat → Nat) (p : ByteArray) : List Nat := match firstI l p with
  | some k => membN R l.length (R k)
  | none => []
def ownF (l : List Rep) (R : Nat → Nat) (p : ByteArray) : List Rep := pickN l (ofN l R p)
section
variable {l : List Rep} {R : Nat → Nat} {p q : ByteArray} {k : Nat}
theorem firstI_some (h : firstI l p = some k) : ∃ hk : k < l.length, nm l[k] p := by
  unfold firstI at h
  have h1 := List.mem_range.1 (List.mem_of_find?_eq_some h)
  have h2 := List.find?_some h
  simp only [List.getElem?_eq_getElem h1, Option.map_some, Option.getD_some] at h2
  exact ⟨h1, nmB_iff.1 h2⟩
theorem firstI_none : firstI l p = none ↔ ∀ k (hk : k < l.length), ¬ nm l[k] p := by
  unfold firstI
  rw [List.find?_eq_none]
  constructor
  · intro h k hk hn
    have := h k (List.mem_range.2 hk)
    simp only [List.getElem?_eq_getElem hk, Option.map_some, Option.getD_some] at this
    exact this (nmB_iff.2 hn)
  · intro h k hk
    have hk := List.mem_range.1 hk
    simp only [List.getElem?_eq_getElem hk, Option.map_some, Option.getD_some]
    intro hn
    exact h k hk (nmB_iff.1 hn)
theorem of_some (hR : Rts l R) (hk : k < l.length) (h : nm l[k] p) : ofN l R p = membN R l.length (R k) := by
  unfold ofN
  cases hf : firstI l p with
  | none => exact absurd h (firstI_none.1 hf k hk)
  | some j =>
    obtain ⟨hj, hn⟩ := firstI_some hf
    show membN R l.length (R j) = _
    rw [hR.share hj hk hn h]
theorem of_none (h : ∀ k (hk : k < l.length), ¬ nm l[k] p) : ofN l R p = [] := by unfold ofN; rw [firstI_none.2 h]
theorem of_cases (hR : Rts l R) (p : ByteArray) : (ofN l R p = [] ∧ ∀ k (hk : k < l.length), ¬ nm l[k] p) ∨ ∃ k, ∃ hk : k < l.length, nm l[k] p ∧ ofN l R p = membN R l.length (R k) := by
  cases hf : firstI l p with
  | none => exact .inl ⟨by unfold ofN; rw [hf], firstI_none.1 hf⟩
  | some j =>
    obtain ⟨hj, hn⟩ := firstI_some hf
    exact .inr ⟨j, hj, hn, of_some hR hj hn⟩
theorem of_lt {i : Nat} (h : i ∈ ofN l R p) : i < l.length := by
  unfold ofN at h
  split at h
  · exact memb_lt h
  · cases h
theorem own_nil (hR : Rts l R) : ownF l R p = [] ↔ ofN l R p = [] := by
  unfold ownF
  constructor
  · intro h
    have h1 := pickN_len (l := l) (C := ofN l R p) fun i hi => of_lt hi
    rw [h] at h1
    exact List.eq_nil_of_length_eq_zero h1.symm
  · intro h; rw [h]; rfl
theorem own_mem {r : Rep} (h : r ∈ ownF l R p) : r ∈ l := pickN_mem h
theorem own_len : (ownF l R p).length ≤ l.length := by
  unfold ownF
  rw [pickN_len fun i hi => of_lt hi]
  have h1 : (ofN l R p).length ≤ (List.range l.length).length := by
    unfold ofN
    split
    · exact List.length_filter_le _ _
    · simp
  simpa using h1
/-- what a report of the component mentions has the same component -/
theorem own_nm (hR : Rts l R) {i : Nat} (hi : i < (ownF l R p).length) (h : nm (ownF l R p)[i] q) : ofN l R q = ofN l R p := by
  have h1 : i < (ofN l R p).length := by rw [ownF, pickN_len fun i hi => of_lt hi] at hi; exact hi
  have h2 : (ownF l R p)[i] = l[(ofN l R p)[i]]'(of_lt (List.getElem_mem h1)) := pickN_get (fun i hi => of_lt hi) h1 hi
  rw [h2] at h
  rw [of_some hR _ h]
  rcases of_cases hR p with ⟨h3, _⟩ | ⟨k, hk, _, h3⟩
  · rw [h3] at h1; cases h1
  · have h4 : (ofN l R p)[i] ∈ membN R l.length (R k) := by rw [← h3]; exact List.getElem_mem h1
    rw [(mem_memb.1 h4).2, h3]
end
end Go.Sx

/- What is possible: the example of the chapter, sizes, a report that is decided. -/
set_option linter.all false
namespace Go.Sx
open Go
section
variable {c : List Kind} {l : List Rep} {i k : Nat}
theorem err_of (hc : validC c = true) (hp : ∀ q ∈ l, chs q ≠ 0) (h30 : l.length ≤ 30) : errF c l = 0 := err_few0 h30 hc hp
end
end Go.Sx

/- What is possible and what is sure: facts for the laws. -/
set_option linter.all false
namespace Go.Sx
open Go
section
variable {c : List Kind} {l : List Rep} {i k : Nat} {t : List Int}
/-- the first history is one -/
theorem first_mem (h : (firstF c l).2 = 0) : (firstF c l).1 ∈ histF c l := by
  have h1 : (allF c l 1).2 = 0 := by rw [← first_code]; exact h
  obtain ⟨_, hn, e⟩ := all_ok (by decide) (by decide) h1
  unfold firstF
  rw [if_neg (by rw [h1]; decide), e]
  cases hq : histF c l with
  | nil => exact absurd hq hn
  | cons a b => simp
end
end Go.Sx

/- Places, occupants, roots, in plain Lean. -/
set_option linter.all false
namespace Go.Sx
open Go
structure Plc where
  into : ByteArray
  slot : ByteArray
  deriving DecidableEq
def Plc.cells (x : Plc) : List Value := [.string x.into, .string x.slot]
instance : Enc Plc where
  k := 2
  rd _ vs x := vs = x.cells
  len h := by rw [h]; rfl
  mono _ h := h
  one h := by rw [h]; rfl
def plcLt (a b : Plc) : Bool := sLt a.into b.into || (decide (a.into = b.into) && sLt a.slot b.slot)
theorem plcLt_irrefl (a : Plc) : plcLt a a = false := by simp [plcLt, sLt_irrefl]
theorem plcLt_trans (a b c : Plc) (h1 : plcLt a b = true) (h2 : plcLt b c = true) : plcLt a c = true := by
  simp only [plcLt, Bool.or_eq_true, Bool.and_eq_true, decide_eq_true_eq] at *
  rcases h1 with h1 | ⟨h1, h3⟩ <;> rcases h2 with h2 | ⟨h2, h4⟩
  · exact .inl (sLt_trans h1 h2)
  · exact .inl (by rw [← h2]; exact h1)
  · exact .inl (by rw [h1]; exact h2)
  · exact .inr ⟨h1.trans h2, sLt_trans h3 h4⟩
theorem plcLt_tri {x y : Plc} (h : plcLt y x = false) (hn : y ≠ x) : plcLt x y = true := by
  simp only [plcLt, Bool.or_eq_false_iff, Bool.and_eq_false_iff, decide_eq_false_iff_not, Bool.or_eq_true, Bool.and_eq_true, decide_eq_true_eq] at *
  obtain ⟨h1, h2⟩ := h
  cases h3 : sLt x.into y.into with
  | true => exact .inl rfl
  | false =>
    have e := sLt_tri h1 h3
    refine .inr ⟨e.symm, ?_⟩
    rcases h2 with h2 | h2
    · exact absurd e h2
    · cases h4 : sLt x.slot y.slot with
      | true => rfl
      | false =>
        have e2 := sLt_tri h2 h4
        exact absurd (by cases x; cases y; simp_all) hn
theorem sLt_tri' {x y : ByteArray} (h : sLt y x = false) (hn : y ≠ x) : sLt x y = true := by
  cases h2 : sLt x y with
  | true => rfl
  | false => exact absurd (sLt_tri h h2) hn
def partF (s : List Part) (p : ByteArray) : Part := (findP s p).getD zPart
def plcOf (p : ByteArray) (s : List Part) : Plc := ⟨(partF s p).into, (partF s p).slot⟩
def seatB (y z : ByteArray) (q : Part) : Bool := decide (q.into = y) && decide (q.slot = z)
def occOf (y z : ByteArray) (s : List Part) : ByteArray := ((s.find? (seatB y z)).map Part.name).getD nil8
def rootGo (s : List Part) : Nat → ByteArray → ByteArray
  | 0, _ => nil8
  | n + 1, p => match findP s p with
    | none => nil8
    | some q => if q.into = nil8 then p else rootGo s n q.into
def rootF (p : ByteArray) (s : List Part) : ByteArray := rootGo s s.length p
def casE (c : List Kind) (l own : List Rep) : Int :=
  if validC c = false then 1 else if l.any (fun r => !validRep r) = true then 1 else if own = [] then 2 else if (allF c own 4096).2 ≠ 0 then (allF c own 4096).2 else if (allF c own 4096).1.length = 4096 then 7 else 0
def casA (c : List Kind) (own : List Rep) (day : Int) : List (List Part) := (allF c own 4096).1.map fun t => (atF11 c (pickedF own t).1 day).1
def casL (c : List Kind) (own : List Rep) (p : ByteArray) (day : Int) : List (List Part) := (casA c own day).filter fun s => (findP s p).isSome
def shwF {α : Type} [DecidableEq α] (lt : α → α → Bool) (f : List Part → α) (c : List Kind) (l own : List Rep) (p : ByteArray) (day : Int) : List α × Int :=
  if casE c l own ≠ 0 then ([], casE c l own) else if casL c own p day = [] then ([], 2) else (srtU lt ((casL c own p day).map f), 0)
/-! who is outermost -/
def rankK (c : List Kind) (k : ByteArray) : Nat := c.findIdx fun x => decide (x.name = k)
theorem rank_lt {c : List Kind} {k s p : ByteArray} (hc : validC c = true) (h : takesF c k s p = true) : rankK c p < rankK c k := by
  unfold takesF slotF at h
  cases hk : findK c k with
  | none => rw [hk] at h; cases h
  | some kd =>
    rw [hk] at h
    obtain ⟨x, hx⟩ : ∃ x, kd.slots.find? (fun x => decide (x.name = s)) = some x := by
      cases hx : kd.slots.find? (fun x => decide (x.name = s)) with
      | none => simp only [Option.getD_some, hx] at h; cases h
      | some x => exact ⟨x, rfl⟩
    simp only [Option.getD_some, hx] at h
    have hxm : x ∈ kd.slots := List.mem_of_find?_eq_some hx
    have hp : p ∈ x.kinds := of_decide_eq_true h
    have hkn : kd.name = k := by simpa using List.find?_some hk
    obtain ⟨i, hi, hkd⟩ := List.getElem_of_mem (List.mem_of_find?_eq_some hk)
    simp only [validC, Bool.and_eq_true] at hc
    have h1 := allP_iff.1 hc.1 i hi
    rw [hkd] at h1
    simp only [kindFine, Bool.and_eq_true, Bool.not_eq_true', Bool.or_eq_false_iff] at h1
    obtain ⟨sl, h2⟩ := allP_mem h1.2 hxm
    simp only [slotFine, Bool.and_eq_true] at h2
    obtain ⟨ks, h3⟩ := allP_mem h2.2 hp
    simp only [kindIn, Bool.and_eq_true] at h3
    have hpm : ∃ z ∈ c.take i, decide (z.name = p) = true := by
      have h4 := h3.2
      unfold hitV at h4
      split at h4
      · rename_i z hz
        exact ⟨z, List.mem_of_find?_eq_some hz, by simpa using List.find?_some hz⟩
      · cases h4
    have hkm : ¬ ∃ z ∈ c.take i, decide (z.name = k) = true := by
      have h4 := h1.1.1.1
      rw [hit_eq, List.any_eq_false] at h4
      rintro ⟨z, hz, e⟩
      exact h4 z hz (by rw [hkn]; exact e)
    have hl : (c.take i).length = i := by rw [List.length_take]; omega
    have r1 := List.findIdx_lt_length_of_exists hpm
    have r2 : ¬ (c.take i).findIdx (fun x => decide (x.name = k)) < (c.take i).length := fun h => hkm (List.findIdx_lt_length.1 h)
    have e1 : rankK c p = (c.take i).findIdx fun x => decide (x.name = p) := by
      unfold rankK; conv => lhs; rw [← List.take_append_drop i c]
      rw [List.findIdx_append, if_pos r1]
    have e2 : i ≤ rankK c k := by
      unfold rankK; conv => rhs; rw [← List.take_append_drop i c]
      rw [List.findIdx_append, if_neg r2]; omega
    omega
theorem cnt_less {α : Type} {p q : α → Bool} {x : α} : ∀ {l : List α}, (∀ y ∈ l, p y = true → q y = true) → x ∈ l → p x = false → q x = true → l.countP p < l.countP q
  | [], _, h, _, _ => by cases h
  | y :: l, hi, hx, h1, h2 => by
    have hm : l.countP p ≤ l.countP q := List.countP_mono_left fun z hz => hi z (by simp [hz])
    rcases List.mem_cons.1 hx with rfl | hx
    · rw [List.countP_cons_of_neg (by simp [h1]), List.countP_cons_of_pos h2]; omega
    · have := cnt_less (fun z hz => hi z (by simp [hz])) hx h1 h2
      rw [List.countP_cons, List.countP_cons]
      by_cases hy : p y = true
      · rw [if_pos hy, if_pos (hi y (by simp) hy)]; omega
      · rw [if_neg hy]; split <;> omega
section
variable {c : List Kind} {s a b : List Part} {p : ByteArray} {q : Part} {D : ByteArray → Bool}
def hiN (c : List Kind) (s : List Part) (q : Part) : Nat := s.countP fun x => decide (rankK c q.kind < rankK c x.kind)
theorem host_of (h : VS c s) (hq : findP s p = some q) (hi : q.into ≠ nil8) : ∃ q', findP s q.into = some q' ∧ hiN c s q' < hiN c s q := by
  obtain ⟨hm, _⟩ := (find_iff h.inc).1 hq
  obtain ⟨x, hx, hn, _, ht⟩ := (h.sits q hm hi).host
  have hr := rank_lt h.cat ht
  refine ⟨x, (find_iff h.inc).2 ⟨hx, hn⟩, cnt_less (x := x) (fun y _ hy => ?_) hx ?_ ?_⟩
  · simp only [decide_eq_true_eq] at hy ⊢; omega
  · simp
  · simpa using hr
theorem hi_len (hq : findP s p = some q) : hiN c s q < s.length := by
  have hm : q ∈ s := List.mem_of_find?_eq_some hq
  have := cnt_less (p := fun x : Part => decide (rankK c q.kind < rankK c x.kind)) (q := fun _ => true) (l := s) (fun _ _ _ => rfl) hm (by simp) rfl
  unfold hiN
  rwa [List.countP_eq_length.2 (fun _ _ => rfl)] at this
theorem root_fuel (h : VS c s) : ∀ (n m : Nat) (p : ByteArray) (q : Part), findP s p = some q → hiN c s q < n → hiN c s q < m → rootGo s n p = rootGo s m p
  | 0, _, _, _, _, h1, _ => absurd h1 (Nat.not_lt_zero _)
  | _ + 1, 0, _, _, _, _, h2 => absurd h2 (Nat.not_lt_zero _)
  | n + 1, m + 1, p, q, hq, h1, h2 => by
    simp only [rootGo, hq]
    by_cases hi : q.into = nil8
    · rw [if_pos hi, if_pos hi]
    · rw [if_neg hi, if_neg hi]
      obtain ⟨q', h3, h4⟩ := host_of h hq hi
      exact root_fuel h n m _ q' h3 (by omega) (by omega)
theorem root_top (hq : findP s p = some q) (hi : q.into = nil8) : rootF p s = p := by
  have := hi_len (c := []) hq
  unfold rootF
  cases hs : s.length with
  | zero => omega
  | succ n => simp only [rootGo, hq]; rw [if_pos hi]
theorem root_up (h : VS c s) (hq : findP s p = some q) (hi : q.into ≠ nil8) : rootF p s = rootF q.into s := by
  obtain ⟨q', h3, h4⟩ := host_of h hq hi
  have h5 := hi_len (c := c) hq
  unfold rootF
  cases hs : s.length with
  | zero => omega
  | succ n =>
    rw [show rootGo s (n + 1) p = rootGo s n q.into by simp only [rootGo, hq]; rw [if_neg hi]]
    exact root_fuel h n (n + 1) _ q' h3 (by omega) (by omega)
theorem root_spec (h : VS c s) : ∀ (n : Nat) (p : ByteArray) (q : Part), findP s p = some q → hiN c s q < n → ∃ q0, findP s (rootGo s n p) = some q0 ∧ q0.into = nil8
  | 0, _, _, _, h1 => absurd h1 (Nat.not_lt_zero _)
  | n + 1, p, q, hq, h1 => by
    simp only [rootGo, hq]
    by_cases hi : q.into = nil8
    · rw [if_pos hi]; exact ⟨q, hq, hi⟩
    · rw [if_neg hi]
      obtain ⟨q', h3, h4⟩ := host_of h hq hi
      exact root_spec h n _ q' h3 (by omega)
theorem root_self (h : VS c s) (hq : findP s p = some q) : rootF p s = p ↔ q.into = nil8 := by
  constructor
  · intro he
    obtain ⟨q0, h1, h2⟩ := root_spec h s.length p q hq (hi_len hq)
    rw [show rootGo s s.length p = p from he, hq] at h1
    cases h1; exact h2
  · exact root_top hq
theorem Spl.rootGo (h : Spl D s a b) : ∀ (n : Nat) (p : ByteArray), D p = true → rootGo s n p = Go.Sx.rootGo a n p
  | 0, _, _ => rfl
  | n + 1, p, hp => by
    simp only [Go.Sx.rootGo, h.find hp]
    cases hq : findP a p with
    | none => rfl
    | some q =>
      show (if q.into = nil8 then p else _) = (if q.into = nil8 then p else _)
      by_cases hi : q.into = nil8
      · rw [if_pos hi, if_pos hi]
      · rw [if_neg hi, if_neg hi]
        exact Spl.rootGo h n _ ((h.na q ((find_iff h.ia).1 hq).1).2.resolve_left hi)
theorem Spl.root (h : Spl D s a b) (va : VS c a) (hp : D p = true) : rootF p s = rootF p a := by
  unfold rootF
  rw [Spl.rootGo h _ _ hp]
  cases hq : findP a p with
  | none =>
    have : ∀ n, Go.Sx.rootGo a n p = nil8 := fun n => by cases n <;> simp [Go.Sx.rootGo, hq]
    rw [this, this]
  | some q =>
    have hq2 : findP s p = some q := by rw [h.find hp]; exact hq
    have h1 := hi_len (c := c) hq
    have h2 : a.length ≤ s.length := by
      have h3 : a ⊆ s := fun x hx => (h.mem x).2 (.inl hx)
      have hn : a.Nodup := by
        rw [List.nodup_iff_pairwise_ne]
        refine List.Pairwise.imp (fun {x y} hlt e => ?_) h.ia
        subst e
        rw [sLt_irrefl] at hlt; cases hlt
      exact List.Nodup.length_le_of_subset hn h3
    exact root_fuel va _ _ p q hq (by omega) h1
theorem Spl.place (h : Spl D s a b) (hp : D p = true) : plcOf p s = plcOf p a := by unfold plcOf partF; rw [h.find hp]
end
end Go.Sx

/- The laws of places, in plain Lean. -/
set_option linter.all false
namespace Go.Sx
open Go
section
variable {c : List Kind} {l own : List Rep} {R : Nat → Nat} {p q y z : ByteArray} {day : Int} {α β : Type} [DecidableEq α] [DecidableEq β] {lt : α → α → Bool} {lt' : β → β → Bool} {f : List Part → α} {g : List Part → β} {s : List Part}
theorem any_bad : l.any (fun r => !validRep r) = false ↔ ∀ r ∈ l, validRep r = true := by
  rw [List.any_eq_false]
  exact ⟨fun h r hr => by simpa using h r hr, fun h r hr => by simp [h r hr]⟩
theorem cas_zero (h : casE c l own = 0) : validC c = true ∧ (∀ r ∈ l, validRep r = true) ∧ own ≠ [] ∧ (allF c own 4096).2 = 0 ∧ (allF c own 4096).1 = histF c own ∧ histF c own ≠ [] := by
  unfold casE at h
  split at h
  · cases h
  split at h
  · cases h
  split at h
  · cases h
  split at h
  · rename_i h1 h2 h3 h4; exact absurd h h4
  split at h
  · cases h
  rename_i h1 h2 h3 h4 h5
  have h4 : (allF c own 4096).2 = 0 := by simpa using h4
  obtain ⟨h6, h7, h8⟩ := all_ok (by omega) (by omega) h4
  refine ⟨by simpa using h1, any_bad.1 (by simpa using h2), h3, h4, ?_, h7⟩
  rw [h8] at h5 ⊢
  rw [List.length_take] at h5
  exact List.take_of_length_le (by omega)
theorem cas_two (h : casE c l own = 2) : own = [] := by
  unfold casE at h
  split at h
  · cases h
  split at h
  · cases h
  split at h
  · assumption
  split at h
  · rw [all_code (by omega) (by omega)] at h
    have := err_cases c own
    split at h
    · omega
    · split at h <;> cases h
  split at h <;> cases h
theorem hist_nil (c : List Kind) (hc : validC c = true) : (allF c [] 4096).1 = [[]] := by
  have he : errF c [] = 0 := by unfold errF; simp [hc, dbtF]
  rw [all_list (by omega) (by omega) he]
  have : histF c [] = [[]] := by
    unfold histF
    have h1 : allCh [] = [[]] := rfl
    rw [h1, List.filter_cons, if_pos]
    · rfl
    · rw [is_ev (l := []) (ch := []) (given_mk (l := []) (ch := []) hc rfl fun i h1 => absurd h1 (Nat.not_lt_zero i))]; rfl
  rw [this]; rfl
theorem casL_nil : casL c [] p day = [] := by
  unfold casL casA
  by_cases hc : validC c = true
  · rw [hist_nil c hc]
    have : (pickedF [] []).1 = [] := rfl
    simp only [List.map_cons, List.map_nil, this]
    have h2 : (atF11 c [] day).1 = [] := by rw [at_eq, runF_eq hc]; rfl
    rw [h2]; rfl
  · have he : errF c [] ≠ 0 := by unfold errF; simp [hc]
    rw [all_err (by omega) (by omega) he]; rfl
theorem cas_mem (h : casE c l own = 0) : s ∈ casL c own p day ↔ ∃ t, t ∈ histF c own ∧ Case c own t day s ∧ (findP s p).isSome = true := by
  obtain ⟨_, _, _, _, h1, _⟩ := cas_zero h
  unfold casL casA
  rw [h1, List.mem_filter, List.mem_map]
  constructor
  · rintro ⟨⟨t, ht, rfl⟩, hs⟩
    rw [(hist_evs ht).1] at hs ⊢
    exact ⟨t, ht, hist_case ht day, hs⟩
  · rintro ⟨t, ht, hC, hs⟩
    exact ⟨⟨t, ht, by rw [(hist_evs ht).1]; exact hC.at1⟩, hs⟩
theorem shw_zero (h : (shwF lt f c l own p day).2 = 0) : casE c l own = 0 ∧ casL c own p day ≠ [] ∧ (shwF lt f c l own p day).1 = srtU lt ((casL c own p day).map f) := by
  unfold shwF at h ⊢
  by_cases h1 : casE c l own ≠ 0
  · rw [if_pos h1] at h; exact absurd h h1
  · rw [if_neg h1] at h ⊢
    by_cases h2 : casL c own p day = []
    · rw [if_pos h2] at h; cases h
    · rw [if_neg h2]; exact ⟨by simpa using h1, h2, rfl⟩
theorem shw_of (h1 : casE c l own = 0) (h2 : casL c own p day ≠ []) : shwF lt f c l own p day = (srtU lt ((casL c own p day).map f), 0) := by
  unfold shwF; rw [if_neg (by simp [h1]), if_neg h2]
theorem shw_bad (h : (shwF lt f c l own p day).2 ≠ 0) : (shwF lt f c l own p day).1 = [] := by
  unfold shwF at h ⊢
  split
  · rfl
  · rename_i h1
    rw [if_neg h1] at h
    split
    · rfl
    · rename_i h2; rw [if_neg h2] at h; exact absurd rfl h
theorem shw_code : (shwF lt f c l own p day).2 = (shwF lt' g c l own p day).2 := by
  unfold shwF
  split
  · rfl
  · split <;> rfl
theorem shw_none (h : (shwF lt f c l own p day).2 = 2) : casL c own p day = [] := by
  unfold shwF at h
  split at h
  · rename_i h1
    rw [cas_two h, casL_nil]
  · split at h
    · assumption
    · cases h
theorem shw_mem (h : (shwF lt f c l own p day).2 = 0) {x : α} : x ∈ (shwF lt f c l own p day).1 ↔ ∃ s ∈ casL c own p day, f s = x := by
  rw [(shw_zero h).2.2, srtU_mem, List.mem_map]
/-- a state of one part's cases in which another is, is one of the other's cases -/
theorem cas_move (hR : Rts l R) (h : casE c l (ownF l R p) = 0) (hs : s ∈ casL c (ownF l R p) p day) (hq : (findP s q).isSome = true) : ownF l R q = ownF l R p ∧ casE c l (ownF l R q) = 0 ∧ s ∈ casL c (ownF l R q) q day := by
  obtain ⟨t, ht, hC, hp⟩ := (cas_mem h).1 hs
  obtain ⟨x, hx⟩ := Option.isSome_iff_exists.1 hq
  obtain ⟨hxm, hxn⟩ := (find_iff hC.vs.inc).1 hx
  obtain ⟨i, hi, hn⟩ := hC.own x hxm
  rw [hxn] at hn
  have e : ownF l R q = ownF l R p := by unfold ownF; rw [own_nm hR hi hn]
  rw [e]
  exact ⟨rfl, h, (cas_mem h).2 ⟨t, ht, hC, hq⟩⟩
theorem partF_some (h : (findP s p).isSome = true) : findP s p = some (partF s p) := by
  obtain ⟨x, hx⟩ := Option.isSome_iff_exists.1 h
  rw [partF, hx]; rfl
theorem cas_case (h : casE c l own = 0) (hs : s ∈ casL c own p day) : VS c s ∧ findP s p = some (partF s p) := by
  obtain ⟨t, ht, hC, hp⟩ := (cas_mem h).1 hs
  exact ⟨hC.vs, partF_some hp⟩
theorem seat_one (h : VS c s) {x : Part} (hx : x ∈ s) (hi : x.into ≠ nil8) : s.find? (seatB x.into x.slot) = some x := by
  cases hf : s.find? (seatB x.into x.slot) with
  | none =>
    have := List.find?_eq_none.1 hf x hx
    simp [seatB] at this
  | some w =>
    have h1 := List.find?_some hf
    have h2 := List.mem_of_find?_eq_some hf
    simp only [seatB, Bool.and_eq_true, decide_eq_true_eq] at h1
    rw [h.apart x hx w h2 hi h1.1.symm h1.2.symm]
theorem host_in (h : VS c s) {x : Part} (hx : x ∈ s) (hi : x.into ≠ nil8) : (findP s x.into).isSome = true := by
  obtain ⟨w, hw, hn, _, _⟩ := (h.sits x hx hi).host
  rw [show findP s x.into = some w from (find_iff h.inc).2 ⟨hw, hn⟩]; rfl
theorem both_ways (hR : Rts l R) (h0 : (shwF plcLt (plcOf p) c l (ownF l R p) p day).2 = 0) {x : Plc} (hx : x ∈ (shwF plcLt (plcOf p) c l (ownF l R p) p day).1) (hi : x.into ≠ nil8) :
    (shwF sLt (occOf x.into x.slot) c l (ownF l R x.into) x.into day).2 = 0 ∧ p ∈ (shwF sLt (occOf x.into x.slot) c l (ownF l R x.into) x.into day).1 ∧
    ∀ k ∈ (shwF sLt (occOf x.into x.slot) c l (ownF l R x.into) x.into day).1, k ≠ nil8 → (shwF plcLt (plcOf k) c l (ownF l R k) k day).2 = 0 ∧ x ∈ (shwF plcLt (plcOf k) c l (ownF l R k) k day).1 := by
  obtain ⟨hE, _, _⟩ := shw_zero h0
  obtain ⟨s, hs, rfl⟩ := (shw_mem h0).1 hx
  obtain ⟨hV, hq⟩ := cas_case hE hs
  obtain ⟨hqm, hqn⟩ := (find_iff hV.inc).1 hq
  have hi : (partF s p).into ≠ nil8 := hi
  obtain ⟨_, hE2, hs2⟩ := cas_move hR hE hs (host_in hV hqm hi)
  have h2 : (shwF sLt (occOf (plcOf p s).into (plcOf p s).slot) c l (ownF l R (plcOf p s).into) (plcOf p s).into day).2 = 0 := by
    have hE2 : casE c l (ownF l R (plcOf p s).into) = 0 := hE2
    have hs2 : s ∈ casL c (ownF l R (plcOf p s).into) (plcOf p s).into day := hs2
    rw [shw_of hE2 (fun e => by rw [e] at hs2; cases hs2)]
  refine ⟨h2, (shw_mem h2).2 ⟨s, hs2, ?_⟩, fun k hk hkn => ?_⟩
  · show ((s.find? (seatB (partF s p).into (partF s p).slot)).map Part.name).getD nil8 = p
    rw [seat_one hV hqm hi]; exact hqn
  · obtain ⟨s', hs', hk⟩ := (shw_mem h2).1 hk
    obtain ⟨hV', _⟩ := cas_case hE2 hs'
    unfold occOf at hk
    cases hf : s'.find? (seatB (plcOf p s).into (plcOf p s).slot) with
    | none => rw [hf] at hk; exact absurd hk.symm hkn
    | some w =>
      rw [hf] at hk
      have hk : w.name = k := hk
      have h3 := List.find?_some hf
      have h4 := List.mem_of_find?_eq_some hf
      simp only [seatB, Bool.and_eq_true, decide_eq_true_eq] at h3
      have h5 : findP s' k = some w := (find_iff hV'.inc).2 ⟨h4, hk⟩
      obtain ⟨_, hE3, hs3⟩ := cas_move hR hE2 hs' (q := k) (by rw [h5]; rfl)
      have h6 : (shwF plcLt (plcOf k) c l (ownF l R k) k day).2 = 0 := by rw [shw_of hE3 (fun e => by rw [e] at hs3; cases hs3)]
      refine ⟨h6, (shw_mem h6).2 ⟨s', hs3, ?_⟩⟩
      show (⟨(partF s' k).into, (partF s' k).slot⟩ : Plc) = _
      have : partF s' k = w := by rw [partF, h5]; rfl
      rw [this, h3.1, h3.2]
theorem roots_self (h0 : (shwF plcLt (plcOf p) c l (ownF l R p) p day).2 = 0) : p ∈ (shwF sLt (rootF p) c l (ownF l R p) p day).1 ↔ (⟨nil8, nil8⟩ : Plc) ∈ (shwF plcLt (plcOf p) c l (ownF l R p) p day).1 := by
  have h1 : (shwF sLt (rootF p) c l (ownF l R p) p day).2 = 0 := by rw [shw_code (lt' := plcLt) (g := plcOf p)]; exact h0
  rw [shw_mem h0, shw_mem h1]
  have hE := (shw_zero h0).1
  constructor
  · rintro ⟨s, hs, e⟩
    obtain ⟨hV, hq⟩ := cas_case hE hs
    have hi := (root_self hV hq).1 e
    have hm := ((find_iff hV.inc).1 hq).1
    refine ⟨s, hs, ?_⟩
    unfold plcOf
    rw [hi, (hV.both _ hm).1 hi]
  · rintro ⟨s, hs, e⟩
    obtain ⟨hV, hq⟩ := cas_case hE hs
    exact ⟨s, hs, (root_self hV hq).2 (congrArg Plc.into e)⟩
theorem roots_up (hR : Rts l R) (h0 : (shwF plcLt (plcOf p) c l (ownF l R p) p day).2 = 0) {r : ByteArray} (hr : r ∈ (shwF sLt (rootF p) c l (ownF l R p) p day).1) (hne : r ≠ p) :
    ∃ x ∈ (shwF plcLt (plcOf p) c l (ownF l R p) p day).1, x.into ≠ nil8 ∧ (shwF sLt (rootF x.into) c l (ownF l R x.into) x.into day).2 = 0 ∧ r ∈ (shwF sLt (rootF x.into) c l (ownF l R x.into) x.into day).1 := by
  have h1 : (shwF sLt (rootF p) c l (ownF l R p) p day).2 = 0 := by rw [shw_code (lt' := plcLt) (g := plcOf p)]; exact h0
  have hE := (shw_zero h0).1
  obtain ⟨s, hs, rfl⟩ := (shw_mem h1).1 hr
  obtain ⟨hV, hq⟩ := cas_case hE hs
  have hqm := ((find_iff hV.inc).1 hq).1
  have hi : (partF s p).into ≠ nil8 := fun e => hne ((root_self hV hq).2 e)
  obtain ⟨_, hE2, hs2⟩ := cas_move hR hE hs (host_in hV hqm hi)
  have h2 : (shwF sLt (rootF (partF s p).into) c l (ownF l R (partF s p).into) (partF s p).into day).2 = 0 := by
    rw [shw_of hE2 (fun e => by rw [e] at hs2; cases hs2)]
  exact ⟨plcOf p s, (shw_mem h0).2 ⟨s, hs, rfl⟩, hi, h2, (shw_mem h2).2 ⟨s, hs2, (root_up hV hq hi).symm⟩⟩
theorem sure_one19 (h : ∀ r ∈ own, chs r = 1) (h0 : (shwF lt f c l own p day).2 = 0) : (shwF lt f c l own p day).1.length = 1 := by
  obtain ⟨hE, hn, e⟩ := shw_zero h0
  rw [e]
  have hl : (casL c own p day).length ≤ 1 := by
    unfold casL casA
    refine Nat.le_trans (List.length_filter_le _ _) ?_
    rw [List.length_map, (cas_zero hE).2.2.2.2.1]
    unfold histF
    refine Nat.le_trans (List.length_filter_le _ _) ?_
    rw [all_ones h]; exact Nat.le_refl 1
  match hc : casL c own p day with
  | [] => exact absurd hc hn
  | [x] => rfl
  | x :: y :: r => rw [hc] at hl; simp at hl
/-! a component alone -/
theorem lnk_lt {i k : Nat} (h : Lnk l i k) : i < l.length ↔ k < l.length := by
  induction h with
  | refl => exact Iff.rfl
  | one hi hk _ _ => exact ⟨fun _ => hk, fun _ => hi⟩
  | symm _ ih => exact ih.symm
  | trans _ _ h1 h2 => exact h1.trans h2
theorem idx_of {C : List Nat} {k : Nat} (h : k ∈ C) : ∃ a, ∃ ha : a < C.length, C[a] = k := by
  obtain ⟨a, ha, e⟩ := List.getElem_of_mem h
  exact ⟨a, ha, e⟩
theorem lnk_own {r : Nat} {R' : Nat → Nat} (hR : Rts l R) (hR' : Rts (pickN l (membN R l.length r)) R') {i k : Nat} (h : Lnk l i k) : ∀ a (ha : a < (membN R l.length r).length), (membN R l.length r)[a] = i → ∃ b, ∃ hb : b < (membN R l.length r).length, (membN R l.length r)[b] = k ∧ R' a = R' b := by
  have hlt : ∀ i ∈ membN R l.length r, i < l.length := fun i hi => memb_lt hi
  induction h with
  | refl i => exact fun a ha e => ⟨a, ha, e, rfl⟩
  | @one i k z hi hk h1 h2 =>
    intro a ha e
    have hr : R i = r := (mem_memb.1 (e ▸ List.getElem_mem ha)).2
    obtain ⟨b, hb, eb⟩ := idx_of (mem_memb.2 ⟨hk, (hR.share hk hi h2 h1).trans hr⟩)
    refine ⟨b, hb, eb, ?_⟩
    have la : a < (pickN l (membN R l.length r)).length := by rw [pickN_len hlt]; exact ha
    have lb : b < (pickN l (membN R l.length r)).length := by rw [pickN_len hlt]; exact hb
    refine hR'.share (z := z) la lb ?_ ?_
    · rw [pickN_get hlt ha la]; simp only [e]; exact h1
    · rw [pickN_get hlt hb lb]; simp only [eb]; exact h2
  | @symm i k hik ih =>
    intro a ha e
    have hm := mem_memb.1 (e ▸ List.getElem_mem ha)
    obtain ⟨b, hb, eb⟩ := idx_of (mem_memb.2 ⟨(lnk_lt hik).2 hm.1, (hR.lnk hik).trans hm.2⟩)
    obtain ⟨b', hb', eb', hRb⟩ := ih b hb eb
    have : a = b' := nodup_inj memb_nodup ha hb' (e.trans eb'.symm)
    subst this
    exact ⟨b, hb, eb, hRb.symm⟩
  | trans _ _ ih1 ih2 =>
    intro a ha e
    obtain ⟨b, hb, eb, h1⟩ := ih1 a ha e
    obtain ⟨d, hd, ed, h2⟩ := ih2 b hb eb
    exact ⟨d, hd, ed, h1.trans h2⟩
theorem own_own {R' : Nat → Nat} (hR : Rts l R) (hR' : Rts (ownF l R p) R') : ownF (ownF l R p) R' p = ownF l R p := by
  rcases of_cases hR p with ⟨h, _⟩ | ⟨k, hk, hn, h⟩
  · have e : ownF l R p = [] := (own_nil hR).2 h
    rw [e]; rfl
  have eo : ownF l R p = pickN l (membN R l.length (R k)) := by unfold ownF; rw [h]
  rw [eo] at hR' ⊢
  have hlt : ∀ i ∈ membN R l.length (R k), i < l.length := fun i hi => memb_lt hi
  obtain ⟨a, ha, ea⟩ := idx_of (mem_memb.2 ⟨hk, rfl⟩ : k ∈ membN R l.length (R k))
  have la : a < (pickN l (membN R l.length (R k))).length := by rw [pickN_len hlt]; exact ha
  have hna : nm (pickN l (membN R l.length (R k)))[a] p := by rw [pickN_get hlt ha la]; simp only [ea]; exact hn
  have hall : ∀ b, b < (membN R l.length (R k)).length → R' b = R' a := fun b hb => by
    have hm := mem_memb.1 (List.getElem_mem hb)
    have hL : Lnk l (membN R l.length (R k))[b] k := by
      have h1 := hR.sound (membN R l.length (R k))[b]
      rw [hm.2] at h1
      exact h1.trans (hR.sound k).symm
    obtain ⟨d, hd, ed, hRd⟩ := lnk_own hR hR' hL b hb rfl
    have : d = a := nodup_inj memb_nodup hd ha (ed.trans ea.symm)
    rw [hRd, this]
  have e2 : membN R' (pickN l (membN R l.length (R k))).length (R' a) = List.range (pickN l (membN R l.length (R k))).length := by
    refine List.filter_eq_self.2 fun b hb => ?_
    have hb := List.mem_range.1 hb
    exact decide_eq_true (hall b (by rw [pickN_len (C := membN R l.length (R k)) hlt] at hb; exact hb))
  unfold ownF
  rw [of_some hR' la hna, e2, pickN_range]
theorem own_valid (h : ∀ r ∈ l, validRep r = true) : ∀ r ∈ ownF l R p, validRep r = true := fun r hr => h r (own_mem hr)
theorem casE_own (h : ∀ r ∈ l, validRep r = true) : casE c (ownF l R p) (ownF l R p) = casE c l (ownF l R p) := by
  unfold casE
  rw [any_bad.2 h, any_bad.2 (own_valid h)]
theorem shw_own (h : ∀ r ∈ l, validRep r = true) : shwF lt f c (ownF l R p) (ownF l R p) p day = shwF lt f c l (ownF l R p) p day := by
  unfold shwF; rw [casE_own h]
end
end Go.Sx

/- The state of one component in the state of all; the law of evidence about places. -/
set_option linter.all false
namespace Go.Sx
open Go
section
variable {c : List Kind} {l : List Rep} {s : List Part} {R : Nat → Nat} {t T : List Int} {r k : Nat} {p : ByteArray} {day : Int}
theorem own_lt : ∀ i ∈ membN R l.length r, i < l.length := fun i hi => memb_lt hi
theorem evs_gE (hv : ∀ q ∈ l, validRep q = true) (ht : t ∈ allCh l) : evsTo l t l.length = (List.range l.length).filterMap (gE 40001 l t) := by
  unfold evsTo
  exact fm_congr fun i _ => evAt_opt hv ht i
theorem gE_opt {i : Nat} {e : Evt} (htl : t.length = l.length) (he : gE 40001 l t i = some e) : ∃ h : i < l.length, e ∈ l[i].options := by
  rcases Nat.lt_or_ge i l.length with hi | hi
  · rw [gE, at2_eq hi (by omega)] at he
    exact ⟨hi, opt_some (by simpa using he)⟩
  · rw [gE, at2, List.getElem?_eq_none hi] at he; simp at he
theorem cls_mention (hR : Rts l R) (hp : ∀ q ∈ l, chs q ≠ 0) (htl : t.length = l.length) {i : Nat} {e : Evt} (he : gE 40001 l t i = some e) {z : ByteArray} (hz : z ∈ mentions e) (r : Nat) : clsB l R r z = decide (R i = r) := by
  obtain ⟨hi, hm⟩ := gE_opt htl he
  rw [Bool.eq_iff_iff, clsB_is, decide_eq_true_eq]
  constructor
  · rintro ⟨k, hk, rfl, f, hf, h2⟩
    exact hR.share hi hk ⟨valid_chs (hp _ (List.getElem_mem hi)), e, hm, hz⟩ ⟨valid_chs (hp _ (List.getElem_mem hk)), f, hf, h2⟩
  · rintro rfl
    exact ⟨i, hi, rfl, e, hm, hz⟩
theorem part_mention (e : Evt) : e.part ∈ mentions e := by unfold mentions; split <;> simp
theorem cls_dev (hR : Rts l R) (hp : ∀ q ∈ l, chs q ≠ 0) (ht : t ∈ allCh l) {e : Evt} (he : e ∈ evsTo l t l.length) (r : Nat) : Dev (clsB l R r) e ∨ Dev (fun n => !clsB l R r n) e := by
  have hv : ∀ q ∈ l, validRep q = true := fun q hq => valid_chs (hp q hq)
  rw [evs_gE hv ht, List.mem_filterMap] at he
  obtain ⟨i, hi, he⟩ := he
  have htl := (all_mem.1 ht).1
  by_cases h : R i = r
  · exact .inl fun z hz => by rw [cls_mention hR hp htl he hz]; exact decide_eq_true h
  · exact .inr fun z hz => by show (!clsB l R r z) = true; rw [cls_mention hR hp htl he hz]; simpa using h
theorem cls_filter (hR : Rts l R) (hp : ∀ q ∈ l, chs q ≠ 0) (hc : validC c = true) (ht : t ∈ allCh l) (r : Nat) : (evsTo l t l.length).filter (fun e => clsB l R r e.part) = evsTo (pickN l (membN R l.length r)) (pickN t (membN R l.length r)) (pickN l (membN R l.length r)).length := by
  have hv : ∀ q ∈ l, validRep q = true := fun q hq => valid_chs (hp q hq)
  have htl := (all_mem.1 ht).1
  have ha := pick_given hc hp ht (C := membN R l.length r) own_lt
  rw [← evs_pick (fun q hq => hv q (pickN_mem hq)) ha, pickE_pick htl own_lt, evs_gE hv ht]
  unfold membN
  rw [List.filter_filterMap, List.filterMap_filter]
  refine fm_congr fun i _ => ?_
  cases hq : gE 40001 l t i with
  | none => simp
  | some e =>
    have := cls_mention hR hp htl hq (part_mention e) r
    simp [Option.filter_some, this]
theorem up_filter (E : List Evt) (q : Evt → Bool) (day : Int) : (upD E day).filter q = upD (E.filter q) day := by
  unfold upD
  rw [List.filter_filter, List.filter_filter]
  congr 1
  funext e
  exact Bool.and_comm _ _
/-- the state of a component is its part of the state of all -/
theorem class_state (hR : Rts l R) (hT : T ∈ histF c l) (hl : l.length < 20000) (hr : r ∈ rootsN R l.length) (day : Int) :
    ∃ b, Spl (clsB l R r) (atF11 c (evsTo l T l.length) day).1 (atF11 c (evsTo (pickN l (membN R l.length r)) (pickN T (membN R l.length r)) (pickN l (membN R l.length r)).length) day).1 b := by
  obtain ⟨hg, hc, hv, ha⟩ := hist_given hT
  have hp : ∀ q ∈ l, chs q ≠ 0 := fun q hq => by have := chs_pos (hv q hq); omega
  have ht := hist_pick hR hc hp hl hT hr
  have h1 := (hist_case hT day).runs
  have h2 := (hist_case ht day).runs
  have hel : (sortF (upD (evsTo l T l.length) day)).length < 20000 := by
    rw [sortF_len]
    exact Nat.lt_of_le_of_lt (List.length_filter_le _ _) (Nat.lt_of_le_of_lt (evs_len2 l T) hl)
  obtain ⟨a', b', h3, _, h5⟩ := runs_two (D := clsB l R r) (sortF (upD (evsTo l T l.length) day)) [] [] [] _ (Spl.nil _) (vs_nil hc) (vs_nil hc) (vs_nil hc) (by simpa using hel) (by simpa using hel) (by simpa using hel) (fun e he => cls_dev hR hp ha (List.mem_filter.1 (sortF_mem.1 he)).1 r) h1
  rw [sortF_filt (fun e : Evt => clsB l R r e.part), up_filter, cls_filter hR hp hc ha r, h2] at h3
  cases h3
  exact ⟨b', h5⟩
theorem cls_own (hk : k < l.length) (h : nm l[k] p) : clsB l R (R k) p = true := clsB_is.2 ⟨k, hk, rfl, h.2⟩
/-- where a part is in the state of all is where it is in the state of its component -/
theorem whole_part (hR : Rts l R) (hT : T ∈ histF c l) (hl : l.length < 20000) (hk : k < l.length) (hn : nm l[k] p) (day : Int) :
    ∃ t ∈ histF c (ownF l R p), t = pickN T (ofN l R p) ∧ findP (atF11 c (evsTo l T l.length) day).1 p = findP (atF11 c (evsTo (ownF l R p) t (ownF l R p).length) day).1 p ∧
      rootF p (atF11 c (evsTo l T l.length) day).1 = rootF p (atF11 c (evsTo (ownF l R p) t (ownF l R p).length) day).1 := by
  obtain ⟨hg, hc, hv, ha⟩ := hist_given hT
  have hp : ∀ q ∈ l, chs q ≠ 0 := fun q hq => by have := chs_pos (hv q hq); omega
  have hr : R k ∈ rootsN R l.length := mem_roots.2 ⟨Nat.lt_of_le_of_lt (hR.le k) hk, hR.idem k⟩
  have e : ofN l R p = membN R l.length (R k) := of_some hR hk hn
  have ht := hist_pick hR hc hp hl hT hr
  obtain ⟨b, hS⟩ := class_state hR hT hl hr day
  unfold ownF
  rw [e]
  exact ⟨_, ht, rfl, hS.find (cls_own hk hn), hS.root (hist_case ht day).vs (cls_own hk hn)⟩
/-- a history of a component is its part of a history of all, if there is any -/
theorem whole_hist (hR : Rts l R) (hl : l.length < 20000) (hT : T ∈ histF c l) (hk : k < l.length) (hn : nm l[k] p) (ht : t ∈ histF c (ownF l R p)) : ∃ T' ∈ histF c l, t = pickN T' (ofN l R p) := by
  obtain ⟨hg, hc, hv, ha⟩ := hist_given hT
  have hp : ∀ q ∈ l, chs q ≠ 0 := fun q hq => by have := chs_pos (hv q hq); omega
  have hr : R k ∈ rootsN R l.length := mem_roots.2 ⟨Nat.lt_of_le_of_lt (hR.le k) hk, hR.idem k⟩
  have e : ofN l R p = membN R l.length (R k) := of_some hR hk hn
  unfold ownF at ht
  rw [e] at ht ⊢
  obtain ⟨h1, h2⟩ := glue_hist hR hc hp hl (H := fun r => if r = R k then t else pickN T (membN R l.length r)) (fun r' hr' => by
    by_cases h : r' = R k
    · subst h; simpa using ht
    · simpa [h] using hist_pick hR hc hp hl hT hr')
  exact ⟨_, h1, by rw [h2 _ hr]; simp⟩
/-- the events that are picked when a report has one option alone -/
theorem evs_one {n : Nat} (hk : k < l.length) (hn : n < l[k].options.length) (hT : T.length = l.length) (he : T.getD k 0 = (n : Int)) : evsTo (l.set k (oneOf l[k] n)) (chAt k (fun _ => 0) T) (l.set k (oneOf l[k] n)).length = evsTo l T l.length := by
  rw [List.length_set]
  unfold evsTo
  refine fm_congr fun i hi => ?_
  have hi := List.mem_range.1 hi
  rw [evAt_eq (by rw [List.length_set]; exact hi) (by simp [chAt]; omega), evAt_eq hi (by omega)]
  simp only [chAt, List.getElem_set]
  by_cases h : k = i
  · subst h
    rw [if_pos rfl]
    simp only [if_true]
    have h2 : T[k]'(by omega) = (n : Int) := by rw [← he]; simp [List.getD, hT, hk]
    rw [h2]
    simp [oneOf, hn]
  · rw [if_neg h, if_neg h]
theorem find_none_nm (hC : Case c l t day s) (h : ∀ k (hk : k < l.length), ¬ nm l[k] p) : findP s p = none := by
  cases hx : findP s p with
  | none => rfl
  | some x =>
    obtain ⟨hm, hn⟩ := (find_iff hC.vs.inc).1 hx
    obtain ⟨i, hi, h2⟩ := hC.own x hm
    rw [hn] at h2
    exact absurd h2 (h i hi)
theorem ev_states {R' : Nat → Nat} {n : Nat} (hR : Rts l R) (hl : l.length ≤ 30) (hk : k < l.length) (hn : n < l[k].options.length) (hR' : Rts (l.set k (oneOf l[k] n)) R') (h0 : casE c l (ownF l R p) = 0)
    (h1 : casE c (l.set k (oneOf l[k] n)) (ownF (l.set k (oneOf l[k] n)) R' p) = 0) (hH : histF c (l.set k (oneOf l[k] n)) ≠ []) (hs : s ∈ casL c (ownF (l.set k (oneOf l[k] n)) R' p) p day) :
    ∃ s2 ∈ casL c (ownF l R p) p day, findP s2 p = findP s p ∧ rootF p s2 = rootF p s := by
  obtain ⟨hc, hv, _, _, _, _⟩ := cas_zero h0
  have hp : ∀ q ∈ l, chs q ≠ 0 := fun q hq => by have := chs_pos (hv q hq); omega
  obtain ⟨t', ht', hC', hfp⟩ := (cas_mem h1).1 hs
  obtain ⟨H, hHm⟩ := List.exists_mem_of_ne_nil _ hH
  have hlen : (l.set k (oneOf l[k] n)).length = l.length := List.length_set
  rcases of_cases hR' p with ⟨he, _⟩ | ⟨i, hi, hni, he⟩
  · have : ownF (l.set k (oneOf l[k] n)) R' p = [] := (own_nil hR').2 he
    rw [this, casL_nil] at hs; cases hs
  obtain ⟨T', hT', e'⟩ := whole_hist hR' (by omega) hHm hi hni ht'
  obtain ⟨t2, ht2, e2, w1, w2⟩ := whole_part hR' hT' (by omega) hi hni day
  rw [← e'] at e2
  subst e2
  rw [hC'.at1] at w1 w2
  rw [hist_one (err_of hc hp hl) hk hn, selF] at hT'
  obtain ⟨T, hT, rfl⟩ := List.mem_map.1 hT'
  obtain ⟨hTm, hTk⟩ := List.mem_filter.1 hT
  have hTk : T.getD k 0 = (n : Int) := of_decide_eq_true hTk
  have hTl := (all_mem.1 (hist_in_all hTm)).1
  rw [evs_one hk hn hTl hTk] at w1 w2
  -- the part is mentioned in the whole list
  have hsome : (findP (atF11 c (evsTo l T l.length) day).1 p).isSome = true := by rw [w1]; exact hfp
  have hCT := hist_case hTm day
  obtain ⟨j, hj, hnj⟩ : ∃ j, ∃ hj : j < l.length, nm l[j] p := by
    refine Classical.byContradiction fun hno => ?_
    rw [find_none_nm hCT fun q hq hnq => hno ⟨q, hq, hnq⟩] at hsome
    cases hsome
  obtain ⟨t, ht, et, u1, u2⟩ := whole_part hR hTm (by omega) hj hnj day
  refine ⟨_, (cas_mem h0).2 ⟨t, ht, hist_case ht day, by rw [← u1]; exact hsome⟩, ?_, ?_⟩
  · rw [← u1, w1]
  · rw [← u2, w2]
theorem evidence {α : Type} [DecidableEq α] {lt : α → α → Bool} {f : List Part → α} {R' : Nat → Nat} {n : Nat} (hf : ∀ s s2 : List Part, findP s2 p = findP s p → rootF p s2 = rootF p s → f s2 = f s) (hR : Rts l R) (hl : l.length ≤ 30) (hk : k < l.length) (hn : n < l[k].options.length) (hR' : Rts (l.set k (oneOf l[k] n)) R')
    (h0 : (shwF lt f c l (ownF l R p) p day).2 = 0) (h1 : (shwF lt f c (l.set k (oneOf l[k] n)) (ownF (l.set k (oneOf l[k] n)) R' p) p day).2 = 0) (hH : histF c (l.set k (oneOf l[k] n)) ≠ []) {x : α}
    (hx : x ∈ (shwF lt f c (l.set k (oneOf l[k] n)) (ownF (l.set k (oneOf l[k] n)) R' p) p day).1) : x ∈ (shwF lt f c l (ownF l R p) p day).1 := by
  obtain ⟨s, hs, rfl⟩ := (shw_mem h1).1 hx
  obtain ⟨s2, hs2, e1, e2⟩ := ev_states hR hl hk hn hR' (shw_zero h0).1 (shw_zero h1).1 hH hs
  exact (shw_mem h0).2 ⟨s2, hs2, hf _ _ e1 e2⟩
end
end Go.Sx

/- Places: the example of the chapter, what the law of histories counts. -/
set_option linter.all false
namespace Go.Sx
open Go
section
variable {l : List Rep} {R : Nat → Nat} {p : ByteArray} {k : Nat}
theorem all_own (hR : Rts l R) (h : ∀ i, i < l.length → R i = R 0) (hk : k < l.length) (hn : nm l[k] p) : ownF l R p = l := by
  have e : membN R l.length (R k) = List.range l.length := List.filter_eq_self.2 fun i hi => decide_eq_true (by rw [h i (List.mem_range.1 hi), h k hk])
  unfold ownF
  rw [of_some hR hk hn, e, pickN_range]
end
theorem sxL_R {R : Nat → Nat} (hR : Rts sxL R) : ∀ i, i < sxL.length → R i = R 0 := by
  have h3 : R 3 = R 0 := hR.share (l := sxL) (i := 3) (k := 0) (z := sA) (by decide) (by decide) (nmB_iff.1 (by decide +kernel)) (nmB_iff.1 (by decide +kernel))
  have h4 : R 4 = R 0 := hR.share (l := sxL) (i := 4) (k := 0) (z := sA) (by decide) (by decide) (nmB_iff.1 (by decide +kernel)) (nmB_iff.1 (by decide +kernel))
  have h1 : R 1 = R 3 := hR.share (l := sxL) (i := 1) (k := 3) (z := sB) (by decide) (by decide) (nmB_iff.1 (by decide +kernel)) (nmB_iff.1 (by decide +kernel))
  have h2 : R 2 = R 3 := hR.share (l := sxL) (i := 2) (k := 3) (z := sW) (by decide) (by decide) (nmB_iff.1 (by decide +kernel)) (nmB_iff.1 (by decide +kernel))
  intro i hi
  match i, hi with
  | 0, _ => rfl
  | 1, _ => exact h1.trans h3
  | 2, _ => exact h2.trans h3
  | 3, _ => exact h3
  | 4, _ => exact h4
  | n + 5, hi => exact absurd hi (by show ¬ n + 5 < 5; omega)
theorem sxL_own {R : Nat → Nat} (hR : Rts sxL R) : ownF sxL R sA = sxL ∧ ownF sxL R sB = sxL ∧ ownF sxL R sW = sxL :=
  ⟨all_own hR (sxL_R hR) (k := 0) (by decide) (nmB_iff.1 (by decide +kernel)), all_own hR (sxL_R hR) (k := 1) (by decide) (nmB_iff.1 (by decide +kernel)), all_own hR (sxL_R hR) (k := 2) (by decide) (nmB_iff.1 (by decide +kernel))⟩
theorem pl_x1 : shwF plcLt (plcOf sA) sxC sxL sxL sA 5 = ([⟨nil8, nil8⟩, ⟨sW, sAxle⟩], 0) := by decide +kernel
theorem pl_x2 : shwF sLt (occOf sW sAxle) sxC sxL sxL sW 5 = ([sA, sB], 0) := by decide +kernel
theorem pl_x3 : shwF sLt (occOf sW sAxle) sxC sxL sxL sW 6 = ([nil8, sA, sB], 0) := by decide +kernel
theorem pl_x4 : shwF sLt (rootF sB) sxC sxL sxL sB 6 = ([sB, sW], 0) := by decide +kernel
/-- each thing once -/
def onceF {α : Type} [DecidableEq α] (l : List α) : List α := l.foldl (fun a x => if x ∈ a then a else a ++ [x]) []
section
variable {α : Type} [DecidableEq α] {lt : α → α → Bool}
theorem once_go : ∀ (l a : List α), a.Nodup → (l.foldl (fun a x => if x ∈ a then a else a ++ [x]) a).Nodup ∧ ∀ z, z ∈ l.foldl (fun a x => if x ∈ a then a else a ++ [x]) a ↔ z ∈ a ∨ z ∈ l
  | [], a, h => ⟨h, fun z => by simp⟩
  | x :: l, a, h => by
    rw [List.foldl_cons]
    by_cases hx : x ∈ a
    · rw [if_pos hx]
      obtain ⟨h1, h2⟩ := once_go l a h
      refine ⟨h1, fun z => ?_⟩
      rw [h2, List.mem_cons]
      constructor
      · rintro (h | h)
        · exact .inl h
        · exact .inr (.inr h)
      · rintro (h | rfl | h)
        · exact .inl h
        · exact .inl hx
        · exact .inr h
    · rw [if_neg hx]
      have hn : (a ++ [x]).Nodup := by
        rw [List.nodup_append]
        refine ⟨h, by simp, ?_⟩
        intro y hy z hz e
        rw [List.mem_singleton.1 hz] at e
        subst e; exact hx hy
      obtain ⟨h1, h2⟩ := once_go l (a ++ [x]) hn
      refine ⟨h1, fun z => ?_⟩
      rw [h2, List.mem_append, List.mem_singleton, List.mem_cons, or_assoc]
theorem once_mem (l : List α) : (onceF l).Nodup ∧ ∀ z, z ∈ onceF l ↔ z ∈ l := by
  obtain ⟨h1, h2⟩ := once_go l [] List.nodup_nil
  exact ⟨h1, fun z => by unfold onceF; rw [h2]; simp⟩
theorem nd_len {a b : List α} (ha : a.Nodup) (hb : b.Nodup) (h : ∀ z, z ∈ a ↔ z ∈ b) : a.length = b.length := ((List.perm_ext_iff_of_nodup ha hb).2 h).length_eq
theorem once_step {l : List α} {i : Nat} (hi : i < l.length) : onceF (l.take (i + 1)) = if l[i] ∈ onceF (l.take i) then onceF (l.take i) else onceF (l.take i) ++ [l[i]] := by
  unfold onceF
  rw [← take_succ_of hi, List.foldl_append]; rfl
theorem srtU_step {l : List α} {i : Nat} (hi : i < l.length) : srtU lt (l.take (i + 1)) = insU lt l[i] (srtU lt (l.take i)) := by
  unfold srtU
  rw [← take_succ_of hi, List.foldl_append]; rfl
theorem once_le (l : List α) : (onceF l).length ≤ l.length := by
  have : ∀ (l a : List α), (l.foldl (fun a x => if x ∈ a then a else a ++ [x]) a).length ≤ a.length + l.length := by
    intro l
    induction l with
    | nil => intro a; exact Nat.le_refl _
    | cons x l ih =>
      intro a
      rw [List.foldl_cons]
      refine Nat.le_trans (ih _) ?_
      split <;> simp <;> omega
  have := this l []
  simpa [onceF] using this
end
theorem srtP_nodup (l : List Plc) : SrtU plcLt (srtU plcLt l) := srtU_srt plcLt_trans fun x _ y _ h hn => plcLt_tri h hn
theorem srtS_nodup (l : List ByteArray) : SrtU sLt (srtU sLt l) := srtU_srt (lt := sLt) (fun a b c h1 h2 => sLt_trans h1 h2) fun x _ y _ h hn => sLt_tri' h hn
theorem once_srt (l : List Plc) : (onceF l).length = (srtU plcLt l).length :=
  nd_len (once_mem l).1 (SrtU.nodup plcLt_irrefl (srtP_nodup l)) fun z => by rw [(once_mem l).2, srtU_mem]
theorem plc_ord {l : List Plc} {i : Nat} (h : i + 1 < (srtU plcLt l).length) : plcLt (srtU plcLt l)[i] (srtU plcLt l)[i + 1] = true :=
  List.pairwise_iff_getElem.1 (srtP_nodup l) _ _ _ _ (Nat.lt_succ_self i)
theorem str_ord {l : List ByteArray} {i : Nat} (h : i + 1 < (srtU sLt l).length) : sLt (srtU sLt l)[i] (srtU sLt l)[i + 1] = true :=
  List.pairwise_iff_getElem.1 (srtS_nodup l) _ _ _ _ (Nat.lt_succ_self i)
end Go.Sx

/- Duties: what their walk comes to at each step. -/
set_option linter.all false
namespace Go.Sx
open Go
def Due.eqB (a b : Due) : Bool := decide (a.part = b.part) && (decide (a.rule = b.rule) && (decide (a.day = b.day) && true))
theorem Due.eqB_eq (a b : Due) : Due.eqB a b = decide (a = b) := by
  cases a; cases b; simp [Due.eqB]
/-- a function value -/
structure Fn1 where
  k : FuncId
  cs : List Value
def Fn1.val (f : Fn1) : Value := .func (.func f.k) #[] f.cs.toArray
instance : Enc Fn1 where
  k := 1
  rd _ vs x := vs = [x.val]
  len h := by rw [h]; rfl
  mono _ h := h
  one h := by rw [h]; rfl
/-- the least number, and whether there is one -/
def LeastIs (l : List Int) (m : Int) (fd : Bool) : Prop := leastN l = (if fd = true then some m else none) ∧ (fd = false → m = 0)
theorem LeastIs.nil : LeastIs [] 0 false := ⟨rfl, fun _ => rfl⟩
theorem leastN_snoc (l : List Int) (x : Int) : leastN (l ++ [x]) = some (match leastN l with | none => x | some m => min m x) := by
  cases l with
  | nil => rfl
  | cons y l => simp [leastN, List.foldl_append]
section
variable {l : List Int} {m x : Int} {fd : Bool}
theorem LeastIs.more (h : LeastIs l m true) (hc : ¬ x < m) : LeastIs (l ++ [x]) m true := by
  refine ⟨?_, fun h => by cases h⟩
  rw [leastN_snoc, h.1]
  show some (min m x) = some m
  rw [Int.min_eq_left (by omega)]
theorem LeastIs.val (h : LeastIs l m fd) : m = (leastN l).getD 0 ∧ fd = (leastN l).isSome := by
  cases fd with
  | false => rw [h.1]; exact ⟨h.2 rfl, rfl⟩
  | true => rw [h.1]; exact ⟨rfl, rfl⟩
end
theorem mput_mem {κ : Type} [DecidableEq κ] {k x : κ} {v : Value} : ∀ {kvs : List (κ × Value)}, x ∈ (mput kvs k v).map Prod.fst ↔ x = k ∨ x ∈ kvs.map Prod.fst
  | [] => by simp [mput]
  | (k', u) :: r => by
    simp only [mput]
    split
    · rename_i h; subst h; simp
    · simp only [List.map_cons, List.mem_cons, mput_mem (kvs := r)]
      constructor
      · rintro (h | h | h)
        · exact .inr (.inl h)
        · exact .inl h
        · exact .inr (.inr h)
      · rintro (h | h | h)
        · exact .inr (.inl h)
        · exact .inl h
        · exact .inr (.inr h)
theorem mput_nd {κ : Type} [DecidableEq κ] {k : κ} {v : Value} : ∀ {kvs : List (κ × Value)}, (kvs.map Prod.fst).Nodup → ((mput kvs k v).map Prod.fst).Nodup
  | [], _ => by simp [mput]
  | (k', u) :: r, h => by
    obtain ⟨h1, h2⟩ := List.nodup_cons.1 h
    simp only [mput]
    split
    · exact h
    · rename_i hne
      refine List.nodup_cons.2 ⟨fun hm => ?_, mput_nd h2⟩
      rcases mput_mem.1 hm with e | hm
      · exact hne e
      · exact h1 hm
/-- a map whose keys are those of a list -/
def KeysD (kvs : List (Due × Value)) (L : List Due) : Prop := (kvs.map Prod.fst).Nodup ∧ ∀ x, x ∈ kvs.map Prod.fst ↔ x ∈ L
theorem KeysD.nil : KeysD [] [] := ⟨List.nodup_nil, fun x => Iff.rfl⟩
section
variable {kvs : List (Due × Value)} {F : Dut → Option Due} {ds : List Dut} {i : Nat}
theorem KeysD.none (h : KeysD kvs ((ds.take i).filterMap F)) (hi : i < ds.length) (h0 : F ds[i] = .none) : KeysD kvs ((ds.take (i + 1)).filterMap F) := by
  rw [← take_succ_of hi, List.filterMap_append]
  simpa [h0] using h
theorem KeysD.some {x : Due} {v : Value} (h : KeysD kvs ((ds.take i).filterMap F)) (hi : i < ds.length) (h0 : F ds[i] = .some x) : KeysD (mput kvs x v) ((ds.take (i + 1)).filterMap F) := by
  rw [← take_succ_of hi, List.filterMap_append]
  refine ⟨mput_nd h.1, fun z => ?_⟩
  rw [mput_mem, h.2, List.mem_append]
  simp [h0, or_comm]
end
section
variable {c : List Kind} {l : List Evt} {p : ByteArray} {day : Int} {ds : List Dut} {d : Dut} {k : ByteArray}
end
section
variable {d : Dut} {l : List Evt} {p : ByteArray} {day : Int}
end
end Go.Sx

/- Sorting of any length: from the kit's contracts to contracts over a private row. -/
set_option linter.all false
namespace Go.Sx
open Go
section
variable {α : Type} [Inhabited α] {w : World} {g t : Nat} {cur : Array Value}
theorem getI! (d : Array α) (j : Nat) (h : j < d.size) : d[j]! = d[j] := getElem!_pos d j h
theorem holds_row {enc : α → Value} (hg : w.heap[g]? = some (.cells cur t (0, 0))) (d : Array α) (h : cur.toList.take d.size = d.toList.map enc) : Sort.Holds enc w g 0 d := by
  intro j hj
  have hc : cur[j]? = some (enc d[j]!) := by
    have h1 : (cur.toList.take d.size)[j]? = (d.toList.map enc)[j]? := by rw [h]
    rw [List.getElem?_take, if_pos hj, List.getElem?_map, Array.getElem?_toList, Array.getElem?_toList, Array.getElem?_eq_getElem hj] at h1
    rw [h1, getI! d j hj]; rfl
  constructor
  · simp only [World.cell?, hg, Nat.zero_add]
    exact hc
  · simp [World.frozen?, hg]
/-- what the world holds behind a sort -/
theorem sorted_world {enc : α → Value} (hg : w.heap[g]? = some (.cells cur t (0, 0))) (d : Array α) (hd : d.size ≤ cur.size) (n : Nat) (os : Array Obj) :
    ∃ cur', (Sort.grow (Sort.putRow enc (Sort.ahead w n) g 0 d) os).heap[g]? = some (.cells cur' t (0, 0)) ∧ cur'.size = cur.size ∧ cur'.toList.take d.size = d.toList.map enc ∧
      w.heap.size ≤ (Sort.grow (Sort.putRow enc (Sort.ahead w n) g 0 d) os).heap.size ∧ ∀ k, k < w.heap.size → k ≠ g → (Sort.grow (Sort.putRow enc (Sort.ahead w n) g 0 d) os).heap[k]? = w.heap[k]? := by
  have hlt : g < w.heap.size := (Array.getElem?_eq_some_iff.1 hg).1
  have hh : (Sort.grow (Sort.putRow enc (Sort.ahead w n) g 0 d) os).heap = w.heap.modify g (Sort.onCells (Sort.putCells enc 0 d)) ++ os := rfl
  refine ⟨Sort.putCells enc 0 d cur, ?_, by simp [Sort.putCells], ?_, by rw [hh]; simp, fun k hk hne => ?_⟩
  · rw [hh, Array.getElem?_append_left (by simpa using hlt), Array.getElem?_modify, if_pos rfl, hg]; rfl
  · refine List.ext_getElem? fun j => ?_
    rw [List.getElem?_take, List.getElem?_map, Array.getElem?_toList, Array.getElem?_toList]
    by_cases hj : j < d.size
    · rw [if_pos hj, Array.getElem?_eq_getElem hj]
      simp only [Sort.putCells, Array.getElem?_mapIdx]
      rw [Array.getElem?_eq_getElem (by omega : j < cur.size)]
      simp only [Option.map_some]
      rw [if_pos ⟨Nat.zero_le _, by omega⟩, Nat.sub_zero, getI! d j hj]
    · rw [if_neg hj, Array.getElem?_eq_none (by omega)]; rfl
  · rw [hh, Array.getElem?_append_left (by simpa using hk), Array.getElem?_modify, if_neg (fun e => hne e.symm)]
end
/-- a permutation, sorted -/
def SrtP (l m : List ByteArray) : Prop := m.Perm l ∧ m.Pairwise fun a b => sLt b a = false
section
variable {P : Program} {f : FuncId} {I : IMap}
end
end Go.Sx

/- Sorting structs of any length by a comparison. -/
set_option linter.all false
namespace Go.Sx
open Go
def I00 : IMap := fun _ => none
theorem mem00 (W : World) : Mem ⟨[], I00, W⟩ I00 [] W :=
  ⟨Upd.refl _ _, fun b o hb => (by cases hb), ILe.refl _, fun b hb => absurd rfl hb, fun r hr => (by cases hr), fun r hr => (by cases hr), List.nodup_nil⟩
/-- a world in which only blocks are new, and draws made -/
theorem upd_world {W W' : World} (h : Upd [] W W') : ∃ q os, W' = Sort.grow (W.drewN q) os := by
  obtain ⟨h1, ⟨h2, h3⟩, h4, h5, h6⟩ := h
  refine ⟨W'.drawn - W.drawn, W'.heap.extract W.heap.size W'.heap.size, ?_⟩
  have hh : W'.heap = W.heap ++ W'.heap.extract W.heap.size W'.heap.size := by
    refine Array.ext_getElem? fun i => ?_
    by_cases hi : i < W.heap.size
    · rw [Array.getElem?_append_left hi]; exact h6 i hi (by simp)
    · rw [Array.getElem?_append_right (by omega), Array.getElem?_extract]
      by_cases hj : i < W'.heap.size
      · rw [if_pos (by omega), show W.heap.size + (i - W.heap.size) = i by omega]
      · rw [if_neg (by omega), Array.getElem?_eq_none (by omega)]
  have hd : W'.drawn = W.drawn + (W'.drawn - W.drawn) := by omega
  cases W with
  | mk hp tp dr os ot =>
    cases W' with
    | mk hp' tp' dr' os' ot' =>
      simp only at h1 h2 h4 hh hd
      subst h1 h2 h4
      unfold Sort.grow World.drewN
      simp only
      rw [← hh, ← hd]
section
variable {P : Program} {α : Type} [Inhabited α] {cells : α → List Value} {k : Nat} {cf : α → α → Int}
theorem cmpLays_of {gf : FuncId} (eg : ∀ args w, (callFunc gf args).run P w = .ok (.enter gf args) w) (hc : ∀ x y, FnV P gf #[.agg (cells x).toArray, .agg (cells y).toArray] I00 (.int .i64 (cf x y))) (blk off size : Nat) (w : World) : Proofs.CmpLays P gf #[] cells k cf blk off size w := by
  intro m os dk _ x y
  have h := (hc x y).go _ (mem00 (Proofs.sortWorldK cells k w blk off m dk os))
  unfold After at h
  rw [eg] at h
  refine Calls.mono h fun e w' hp => ?_
  obtain ⟨v, I', H', rfl, hm, rfl, rfl, rfl⟩ := hp
  obtain ⟨q, os', h2⟩ := upd_world hm.upd
  exact ⟨rfl, q, os', h2⟩
theorem flatK_list (hk : ∀ x, (cells x).length = k) : ∀ l : List α, (Sort.flatK cells k l.toArray).toList = l.flatMap cells
  | [] => by simp [Sort.flatK]
  | x :: l => by
    have ih := flatK_list hk l
    simp only [Sort.flatK, Array.toList_map, Array.toList_range, List.size_toArray] at ih ⊢
    rw [List.length_cons, Nat.add_mul, Nat.one_mul, Nat.add_comm, List.range_add, List.map_append, List.map_map, List.flatMap_cons]
    congr 1
    · refine List.ext_getElem? fun t => ?_
      rw [List.getElem?_map]
      by_cases ht : t < k
      · rw [List.getElem?_range ht, Option.map_some, Nat.div_eq_of_lt ht, Nat.mod_eq_of_lt ht]
        have hl : t < (cells x).length := by rw [hk]; exact ht
        rw [List.getElem?_eq_getElem hl]
        simp [hl]
      · rw [List.getElem?_eq_none (by simpa using ht), List.getElem?_eq_none (by rw [hk]; omega)]; rfl
    · rw [← ih]
      refine List.map_congr_left fun t ht => ?_
      have h0 : 0 < k := by
        rcases Nat.eq_zero_or_pos k with h | h
        · subst h; simp at ht
        · exact h
      simp only [Function.comp]
      rw [Nat.add_div_left _ h0, Nat.add_mod_left]
      have e : (x :: l).toArray[t / k + 1]! = l.toArray[t / k]! := by simp
      rw [e]
def SrtK (cf : α → α → Int) (l m : List α) : Prop := m.Perm l ∧ m.Pairwise fun a b => ¬ cf b a < 0
theorem srtK_of {l : List α} {d' : Array α} (hp : Sort.PermIn 0 l.toArray.size l.toArray d') (hs : Sort.SortedIn (Proofs.ltOf cf) 0 l.toArray.size d') : SrtK cf l d'.toList := by
  obtain ⟨h1, _, h3⟩ := hp
  have hsz : d'.size = l.length := by simpa using h1
  constructor
  · simpa [List.take_of_length_le (show d'.toList.length ≤ l.length by rw [Array.length_toList, hsz]; exact Nat.le_refl _)] using h3
  · rw [List.pairwise_iff_getElem]
    intro i j hi hj hij
    have hj' : j < d'.size := by simpa using hj
    have h := hs i j (Nat.zero_le _) hij (by simp only [List.size_toArray]; omega)
    rw [getI! d' i (by omega), getI! d' j hj'] at h
    simp only [Proofs.ltOf, decide_eq_false_iff_not] at h
    simpa using h
theorem sort_cmp {f gf : FuncId} {I : IMap} (he : ∀ args w, (callFunc f args).run P w = .ok (.enter f args) w) (eg : ∀ args w, (callFunc gf args).run P w = .ok (.enter gf args) w)
    (hk : ∀ (blk off cap : Nat) (d : Array α) (w : World), Proofs.CmpLays P gf #[] cells k cf blk off d.size w → Sort.HoldsK cells k w blk off d → blk < w.heap.size → d.size < 4611686018427387904 →
      Calls P f #[.slice (some ⟨blk, off, none⟩) d.size cap, .func (.func gf) #[] #[]] w fun e w' => e = .returned (.tuple #[]) ∧ ∃ d' n os, Sort.PermIn 0 d.size d d' ∧ Sort.SortedIn (Proofs.ltOf cf) 0 d.size d' ∧ w' = Proofs.sortWorldK cells k w blk off n d' os)
    (hnil : ∀ w, Calls P f #[.slice none 0 0, .func (.func gf) #[] #[]] w fun e w' => e = .returned (.tuple #[]) ∧ w' = w)
    (hc : ∀ x y, FnV P gf #[.agg (cells x).toArray, .agg (cells y).toArray] I00 (.int .i64 (cf x y))) (hlen : ∀ x, (cells x).length = k) {v : Value} {t : Nat} {l : List α} (hl : l.length ≤ 1000000) :
    FnX P f #[v, .func (.func gf) #[] #[]] I [.row v t k l.length (l.flatMap cells)] (fun u r => u = .tuple #[] ∧ ∃ m, SrtK cf l m ∧ r = .row v t k l.length (m.flatMap cells)) := by
  refine ⟨fun w m => ?_⟩
  have hrow := m.holds _ (List.mem_cons_self ..)
  unfold After
  rw [he]
  obtain ⟨hx, h | ⟨g, cap, cur, hv, hg, hn, hcm, hs, ht⟩⟩ := hrow
  · obtain ⟨rfl, hl0⟩ := h
    obtain rfl : l = [] := List.eq_nil_of_length_eq_zero hl0
    refine Calls.mono (hnil w) fun e w' h => ?_
    obtain ⟨rfl, rfl⟩ := h
    exact ⟨_, I, _, rfl, m, rfl, _, rfl, rfl, [], ⟨.refl _, .nil⟩, rfl⟩
  subst hv
  have hfs : ∀ q : List α, q.length = l.length → (Sort.flatK cells k q.toArray).size = l.length * k := fun q hq => by simp [hq]
  have hH : Sort.HoldsK cells k w g 0 l.toArray := by
    refine holds_row (enc := id) hg _ ?_
    rw [hfs l rfl, ht, List.map_id, flatK_list hlen]
  have hcall := hk g 0 cap l.toArray w (cmpLays_of eg hc g 0 _ w) hH (Array.getElem?_eq_some_iff.1 hg).1 (by simp only [List.size_toArray]; omega)
  refine Calls.mono hcall fun e w' h => ?_
  obtain ⟨rfl, d', n, os, hp, hso, rfl⟩ := h
  have hsr := srtK_of hp hso
  have hdl : d'.toList.length = l.length := hsr.1.length_eq
  have hfd : (Sort.flatK cells k d').size = l.length * k := by have := hfs d'.toList hdl; simpa using this
  obtain ⟨cur', h1, h2, h3, h4, h5⟩ := sorted_world (enc := id) hg (Sort.flatK cells k d') (by rw [hfd, hs]; exact Nat.mul_le_mul_right k hn) n os
  have hfl : (Sort.flatK cells k d').toList = d'.toList.flatMap cells := flatK_list hlen d'.toList
  refine ⟨.tuple #[], I, [.row (.slice (some ⟨g, 0, none⟩) l.length cap) t k l.length (d'.toList.flatMap cells)], rfl, ?_, rfl, _, rfl, rfl, _, hsr, rfl⟩
  refine m.step rfl ⟨rfl, Nat.le_add_right w.drawn n⟩ rfl h4 (fun q hq hne => h5 q hq fun e => hne (by subst e; rfl)) ?_ (fun g' hg' => .inl hg')
  rw [hfd, List.map_id, hfl] at h3
  refine ⟨?_, .inr ⟨g, cap, cur', rfl, h1, hn, hcm, by rw [h2, hs], h3⟩⟩
  rw [← hfl, Array.length_toList, hfd]
end
end Go.Sx

/- Due dates compared. -/
set_option linter.all false
namespace Go.Sx
open Go
/-- the first that is not 0 -/
def orI : List Int → Int
  | [] => 0
  | x :: l => if x ≠ 0 then x else orI l
theorem or_skip {l : List Int} {i : Nat} (h : i < l.length) (h0 : l[i] = 0) : orI (l.drop i) = orI (l.drop (i + 1)) := by
  rw [List.drop_eq_getElem_cons h, orI, if_neg (by rw [h0]; decide)]
theorem or_hit {l : List Int} {i : Nat} (h : i < l.length) (h0 : ¬ l[i] = 0) : l[i] = orI (l.drop i) := by
  rw [List.drop_eq_getElem_cons h, orI, if_pos h0]
instance : Inhabited Due := ⟨⟨nil8, nil8, 0⟩⟩
theorem KeysD.len {kvs : List (Due × Value)} {L : List Due} (h : KeysD kvs L) : kvs.length ≤ L.length := by
  have := h.1.length_le_of_subset (l₂ := L) fun x hx => (h.2 x).1 hx
  rwa [List.length_map] at this
section
variable {ds : List Dut} {c : List Kind} {l : List Evt} {p : ByteArray} {day : Int} {kvs done : List (Due × Value)}
end
/-- a set of names -/
def KeysN (kvs : List (ByteArray × Value)) (L : List ByteArray) : Prop := (kvs.map Prod.fst).Nodup ∧ ∀ x, x ∈ kvs.map Prod.fst ↔ x ∈ L
theorem KeysN.nil : KeysN [] [] := ⟨List.nodup_nil, fun x => Iff.rfl⟩
/-- the names of those that are overdue, of some entries -/
def lateL (day : Int) (done : List (Due × Value)) : List ByteArray := ((done.map Prod.fst).filter fun x => decide (x.day < day)).map Due.rule
theorem KeysN.len {day : Int} {done : List (Due × Value)} {ns : List (ByteArray × Value)} (h : KeysN ns (lateL day done)) : ns.length ≤ done.length := by
  have h1 := h.1.length_le_of_subset (l₂ := lateL day done) fun x hx => (h.2 x).1 hx
  rw [List.length_map] at h1
  refine Nat.le_trans h1 ?_
  unfold lateL
  rw [List.length_map]
  exact Nat.le_trans (List.length_filter_le _ _) (by rw [List.length_map]; exact Nat.le_refl _)
section
variable {ds : List Dut} {c : List Kind} {l : List Evt} {p : ByteArray} {day : Int} {kvs done : List (Due × Value)} {ns : List (ByteArray × Value)}
end
theorem SrtP.perm {l l' m : List ByteArray} (h : SrtP l m) (hp : l.Perm l') : SrtP l' m := ⟨h.1.trans hp, h.2⟩
section
variable {P : Program} {f : FuncId} {args : Array Value} {v : Value}
end
end Go.Sx

/- The reference of duties. -/
set_option linter.all false
namespace Go.Sx
open Go
section
variable {d : Dut} {l : List Evt} {p : ByteArray} {day b : Int}
end
section
variable {α : Type} [DecidableEq α] {lt : α → α → Bool} {x : α}
theorem insU_len : ∀ (l : List α), (insU lt x l).length ≤ l.length + 1
  | [] => by simp [insU]
  | y :: l => by
    simp only [insU]
    split
    · have := insU_len l; simp; omega
    · split
      · simp
      · simp
theorem srtU_len (l : List α) : (srtU lt l).length ≤ l.length := by
  have key : ∀ (l a : List α), (l.foldl (fun a x => insU lt x a) a).length ≤ a.length + l.length := by
    intro l
    induction l with
    | nil => intro a; simp
    | cons y l ih => intro a; have h1 := ih (insU lt y a); have h2 := insU_len (lt := lt) (x := y) a; simp only [List.foldl_cons, List.length_cons]; omega
  have h := key l []
  rw [List.length_nil, Nat.zero_add] at h
  exact h
end
section
variable {d : Dut} {ds : List Dut} {c : List Kind} {l : List Evt} {p k : ByteArray} {day n : Int} {i : Nat}
end
end Go.Sx

/- What the laws of duties call beside: sizes, examples. -/
set_option linter.all false
namespace Go.Sx
open Go
theorem mem_tk {α : Type} {l : List α} {i : Nat} {z : α} (h : i < l.length) (hz : z ∈ l.take (i + 1)) : z ∈ l.take i ∨ z = l[i] := by
  rw [← take_succ_of h, List.mem_append, List.mem_singleton] at hz; exact hz
end Go.Sx

/- What the law 'each duty alone' comes to at each step. -/
set_option linter.all false
namespace Go.Sx
open Go
section
variable {κ : Type} [DecidableEq κ]
/-- a map whose keys are those of a list -/
def KeysG (kvs : List (κ × Value)) (L : List κ) : Prop := (kvs.map Prod.fst).Nodup ∧ ∀ x, x ∈ kvs.map Prod.fst ↔ x ∈ L
theorem KeysG.nil : KeysG ([] : List (κ × Value)) [] := ⟨List.nodup_nil, fun x => Iff.rfl⟩
theorem KeysG.put {kvs : List (κ × Value)} {L : List κ} {x : κ} {v : Value} (h : KeysG kvs L) : KeysG (mput kvs x v) (L ++ [x]) :=
  ⟨mput_nd h.1, fun z => by rw [mput_mem, h.2, List.mem_append, List.mem_singleton, or_comm]⟩
theorem KeysG.one {kvs : List (κ × Value)} {L m : List κ} {v : Value} (h : KeysG kvs L) (h1 : m.length = 1) : KeysG (mput kvs (m[0]'(by omega)) v) (L ++ m) := by
  match m, h1 with
  | [x], _ => exact h.put
theorem KeysG.zero {kvs : List (κ × Value)} {L m : List κ} (h : KeysG kvs L) (h0 : ¬ ((m.length : Nat) : Int) = 1) (hle : m.length ≤ 1) : KeysG kvs (L ++ m) := by
  match m with
  | [] => rw [List.append_nil]; exact h
  | [x] => exact absurd rfl h0
end
section
variable {ds : List Dut} {c : List Kind} {l : List Evt} {p : ByteArray} {day : Int} {i : Nat}
end
end Go.Sx

/- Sorting strings of any length by a comparison. -/
set_option linter.all false
namespace Go.Sx
open Go
section
variable {P : Program} {cf : ByteArray → ByteArray → Int}
theorem cmpLays1_of {gf : FuncId} (eg : ∀ args w, (callFunc gf args).run P w = .ok (.enter gf args) w) (hc : ∀ x y, FnV P gf #[.string x, .string y] I00 (.int .i64 (cf x y))) (blk off size : Nat) (w : World) : Proofs.CmpLays1 P gf #[] Value.string cf blk off size w := by
  intro m os dk _ x y
  have h := (hc x y).go _ (mem00 (Proofs.sortWorld Value.string w blk off m dk os))
  unfold After at h
  rw [eg] at h
  refine Calls.mono h fun e w' hp => ?_
  obtain ⟨v, I', H', rfl, hm, rfl, rfl, rfl⟩ := hp
  obtain ⟨q, os', h2⟩ := upd_world hm.upd
  exact ⟨rfl, q, os', h2⟩
theorem sort_cmp1 {f gf : FuncId} {I : IMap} (he : ∀ args w, (callFunc f args).run P w = .ok (.enter f args) w) (eg : ∀ args w, (callFunc gf args).run P w = .ok (.enter gf args) w)
    (hk : ∀ (blk off cap : Nat) (d : Array ByteArray) (w : World), Proofs.CmpLays1 P gf #[] Value.string cf blk off d.size w → Sort.Holds Value.string w blk off d → blk < w.heap.size → d.size < 4611686018427387904 →
      Calls P f #[.slice (some ⟨blk, off, none⟩) d.size cap, .func (.func gf) #[] #[]] w fun e w' => e = .returned (.tuple #[]) ∧ ∃ d' n os, Sort.PermIn 0 d.size d d' ∧ Sort.SortedIn (Proofs.ltOf cf) 0 d.size d' ∧ w' = Proofs.sortWorld Value.string w blk off n d' os)
    (hnil : ∀ w, Calls P f #[.slice none 0 0, .func (.func gf) #[] #[]] w fun e w' => e = .returned (.tuple #[]) ∧ w' = w)
    (hc : ∀ x y, FnV P gf #[.string x, .string y] I00 (.int .i64 (cf x y))) {v : Value} {t : Nat} {l : List ByteArray} (hl : l.length ≤ 1000000) :
    FnX P f #[v, .func (.func gf) #[] #[]] I [.row v t 1 l.length (l.map Value.string)] (fun u r => u = .tuple #[] ∧ ∃ m, SrtK cf l m ∧ r = .row v t 1 l.length (m.map Value.string)) := by
  refine ⟨fun w m => ?_⟩
  have hrow := m.holds _ (List.mem_cons_self ..)
  unfold After
  rw [he]
  obtain ⟨hx, h | ⟨g, cap, cur, hv, hg, hn, hcm, hs, ht⟩⟩ := hrow
  · obtain ⟨rfl, hl0⟩ := h
    obtain rfl : l = [] := List.eq_nil_of_length_eq_zero hl0
    refine Calls.mono (hnil w) fun e w' h => ?_
    obtain ⟨rfl, rfl⟩ := h
    exact ⟨_, I, _, rfl, m, rfl, _, rfl, rfl, [], ⟨.refl _, .nil⟩, rfl⟩
  subst hv
  rw [Nat.mul_one] at ht
  have hH : Sort.Holds Value.string w g 0 l.toArray := holds_row hg _ ht
  have hcall := hk g 0 cap l.toArray w (cmpLays1_of eg hc g 0 _ w) hH (Array.getElem?_eq_some_iff.1 hg).1 (by simp only [List.size_toArray]; omega)
  refine Calls.mono hcall fun e w' h => ?_
  obtain ⟨rfl, d', n, os, hp, hso, rfl⟩ := h
  have hsr := srtK_of hp hso
  have hdl : d'.toList.length = l.length := hsr.1.length_eq
  have hds : d'.size = l.length := by simpa using hdl
  obtain ⟨cur', h1, h2, h3, h4, h5⟩ := sorted_world (enc := Value.string) hg d' (by omega) n os
  refine ⟨.tuple #[], I, [.row (.slice (some ⟨g, 0, none⟩) l.length cap) t 1 l.length (d'.toList.map Value.string)], rfl, ?_, rfl, _, rfl, rfl, _, hsr, rfl⟩
  refine m.step rfl ⟨rfl, Nat.le_add_right w.drawn n⟩ rfl h4 (fun q hq hne => h5 q hq fun e => hne (by subst e; rfl)) ?_ (fun g' hg' => .inl hg')
  rw [hds] at h3
  refine ⟨by simp [hds], .inr ⟨g, cap, cur', rfl, h1, hn, hcm, by rw [h2, hs], by rw [Nat.mul_one]; exact h3⟩⟩
end
end Go.Sx

/- What the walk of places comes to at each step. -/
set_option linter.all false
namespace Go.Sx
open Go
def Plc.eqB (a b : Plc) : Bool := decide (a.into = b.into) && (decide (a.slot = b.slot) && true)
theorem Plc.eqB_eq (a b : Plc) : Plc.eqB a b = decide (a = b) := by
  cases a; cases b; simp [Plc.eqB]
instance : Inhabited Plc := ⟨⟨nil8, nil8⟩⟩
def encPlc (x : Plc) : Value := .agg x.cells.toArray
theorem nI_app (a b : List Nat) : nI (a ++ b) = nI a ++ nI b := by simp [nI]
theorem pick_step {l : List Rep} {C : List Nat} {i : Nat} (hi : i < C.length) (h : C[i] < l.length) : pickN l (C.take (i + 1)) = pickN l (C.take i) ++ [l[C[i]]] := by
  rw [← take_succ_of hi, pickN_append, pickN_cons h]; rfl
/-! comparing -/
def cfPlc (a b : Plc) : Int := orI [cmpS a.into b.into, cmpS a.slot b.slot]
theorem cfPlc_lt {a b : Plc} : cfPlc a b < 0 ↔ plcLt a b = true := by
  have h1 : cfPlc a b = if cmpS a.into b.into = 0 then (if cmpS a.slot b.slot = 0 then 0 else cmpS a.slot b.slot) else cmpS a.into b.into := by
    unfold cfPlc orI orI orI
    simp only [ne_eq, ite_not]
  rw [h1]
  unfold plcLt
  rw [Bool.or_eq_true, Bool.and_eq_true, decide_eq_true_eq, ← cmpS_neg, ← cmpS_neg]
  by_cases h : cmpS a.into b.into = 0
  · rw [if_pos h]
    have e := cmpS_zero.1 h
    by_cases h2 : cmpS a.slot b.slot = 0
    · rw [if_pos h2]; omega
    · rw [if_neg h2]
      constructor
      · exact fun h3 => .inr ⟨e, h3⟩
      · rintro (h3 | h3)
        · omega
        · exact h3.2
  · rw [if_neg h]
    have e : ¬ a.into = b.into := fun e => h (cmpS_zero.2 e)
    constructor
    · exact .inl
    · rintro (h3 | h3)
      · exact h3
      · exact absurd h3.1 e
theorem ltOf_plc : Proofs.ltOf cfPlc = plcLt := by
  funext a b
  rw [Bool.eq_iff_iff]
  simp only [Proofs.ltOf, decide_eq_true_eq]
  exact cfPlc_lt
theorem ltOf_str : Proofs.ltOf cmpS = sLt := by
  funext a b
  rw [Bool.eq_iff_iff]
  simp only [Proofs.ltOf, decide_eq_true_eq]
  exact cmpS_neg
theorem swo_of {α : Type} {lt : α → α → Bool} (hi : ∀ a, lt a a = false) (ht : ∀ a b c, lt a b = true → lt b c = true → lt a c = true) (h3 : ∀ x y, lt y x = false → y ≠ x → lt x y = true) : Sort.SWO lt := by
  refine ⟨hi, ht, fun x y z h1 h2 => ?_⟩
  cases h4 : lt x z with
  | false => rfl
  | true =>
    by_cases e : x = y
    · subst e; rw [h4] at h2; cases h2
    · have h5 := ht _ _ _ (h3 y x h1 e) h4
      rw [h5] at h2; cases h2
theorem plc_swo : Sort.SWO (Proofs.ltOf cfPlc) := by rw [ltOf_plc]; exact swo_of plcLt_irrefl plcLt_trans fun x y h hn => plcLt_tri h hn
theorem str_swo : Sort.SWO (Proofs.ltOf cmpS) := by rw [ltOf_str]; exact swo_of sLt_irrefl (fun a b c h1 h2 => sLt_trans h1 h2) fun x y h hn => sLt_tri' h hn
theorem srtK_plc {l m : List Plc} (h : SrtK cfPlc l m) (hn : l.Nodup) : SrtU plcLt m := by
  have h1 : m.Nodup := (h.1.nodup_iff).2 hn
  have h2 := List.nodup_iff_pairwise_ne.1 h1
  refine List.Pairwise.imp₂ (fun a b hab hne => ?_) h.2 h2
  cases h3 : plcLt b a with
  | true => exact absurd (cfPlc_lt.2 h3) hab
  | false => exact plcLt_tri h3 fun e => hne e.symm
theorem srtK_str {l m : List ByteArray} (h : SrtK cmpS l m) (hn : l.Nodup) : SrtU sLt m := by
  have h1 : m.Nodup := (h.1.nodup_iff).2 hn
  have h2 := List.nodup_iff_pairwise_ne.1 h1
  refine List.Pairwise.imp₂ (fun a b hab hne => ?_) h.2 h2
  cases h3 : sLt b a with
  | true => exact absurd (cmpS_neg.2 h3) hab
  | false => exact sLt_tri' h3 fun e => hne e.symm
theorem shown_plc {kvs : List (Plc × Value)} {L m : List Plc} (hK : KeysG kvs L) (h : SrtK cfPlc (kvs.map Prod.fst) m) : m = srtU plcLt L :=
  SrtU.uniq plcLt_irrefl plcLt_trans (srtK_plc h hK.1) (srtP_nodup L) fun z => by rw [h.1.mem_iff, hK.2, srtU_mem]
theorem shown_str {kvs : List (ByteArray × Value)} {L m : List ByteArray} (hK : KeysG kvs L) (h : SrtK cmpS (kvs.map Prod.fst) m) : m = srtU sLt L :=
  SrtU.uniq sLt_irrefl (fun a b c h1 h2 => sLt_trans h1 h2) (srtK_str h hK.1) (srtS_nodup L) fun z => by rw [h.1.mem_iff, hK.2, srtU_mem]
theorem srtK_perm {α : Type} {cf : α → α → Int} {l l' m : List α} (h : SrtK cf l m) (hp : l.Perm l') : SrtK cf l' m := ⟨h.1.trans hp, h.2⟩
theorem KeysG.len {κ : Type} [DecidableEq κ] {kvs : List (κ × Value)} {L : List κ} (h : KeysG kvs L) : kvs.length ≤ L.length := by
  have h1 : (kvs.map Prod.fst).length ≤ L.length := List.Nodup.length_le_of_subset h.1 fun x hx => (h.2 x).1 hx
  simpa using h1
theorem KeysG.zero_iff {κ : Type} [DecidableEq κ] {kvs : List (κ × Value)} {L : List κ} (h : KeysG kvs L) : kvs.length = 0 ↔ L = [] := by
  constructor
  · intro h0
    rw [List.eq_nil_iff_forall_not_mem]
    intro x hx
    have := (h.2 x).2 hx
    rw [List.eq_nil_of_length_eq_zero h0] at this; cases this
  · rintro rfl
    have := h.len
    simpa using this
/-! ranging over keys -/
section
variable {κ : Type} {pre : List κ} {todo a b kvs : List (κ × Value)} {e : κ × Value}
theorem keys_stepG (hP : (pre ++ todo.map Prod.fst).Perm (kvs.map Prod.fst)) (h : todo = a ++ e :: b) : ((pre ++ [e.1]) ++ (a ++ b).map Prod.fst).Perm (kvs.map Prod.fst) := by
  subst h
  refine List.Perm.trans ?_ hP
  rw [List.append_assoc]
  refine List.Perm.append_left _ ?_
  simp only [List.map_append, List.map_cons, List.singleton_append]
  exact List.perm_middle.symm
theorem keys_ltG (hP : (pre ++ todo.map Prod.fst).Perm (kvs.map Prod.fst)) (h : todo = a ++ e :: b) : pre.length < kvs.length := by
  subst h
  have := hP.length_eq
  simp at this
  omega
end
theorem plc_flat {I : IMap} (l : List Plc) : Flat I (l.flatMap Plc.cells) l := by
  induction l with
  | nil => exact .nil
  | cons x l ih => rw [List.flatMap_cons]; exact .cons rfl ih
theorem str_flat2 {I : IMap} (l : List ByteArray) : Flat I (l.map Value.string) l := by
  induction l with
  | nil => exact .nil
  | cons x l ih => exact .cons rfl ih
/-! the cases -/
def caseS (c : List Kind) (own : List Rep) (day : Int) (t : List Int) : List Part := (atF11 c (pickedF own t).1 day).1
def casTo (c : List Kind) (own : List Rep) (p : ByteArray) (day : Int) (all : List (List Int)) : List (List Part) := (all.map (caseS c own day)).filter fun s => (findP s p).isSome
theorem casTo_all {c : List Kind} {own : List Rep} {p : ByteArray} {day : Int} : casTo c own p day (allF c own 4096).1 = casL c own p day := rfl
section
variable {c : List Kind} {own : List Rep} {p : ByteArray} {day : Int} {all : List (List Int)} {i : Nat}
theorem casTo_yes (hi : i < all.length) (h : (findP (caseS c own day all[i]) p).isSome = true) : casTo c own p day (all.take (i + 1)) = casTo c own p day (all.take i) ++ [caseS c own day all[i]] := by
  unfold casTo
  rw [← take_succ_of hi, List.map_append, List.filter_append]
  simp [h]
theorem casTo_no (hi : i < all.length) (h : (findP (caseS c own day all[i]) p).isSome = false) : casTo c own p day (all.take (i + 1)) = casTo c own p day (all.take i) := by
  unfold casTo
  rw [← take_succ_of hi, List.map_append, List.filter_append]
  simp [h]
theorem casTo_len (hi : i ≤ all.length) : (casTo c own p day (all.take i)).length ≤ i := by
  unfold casTo
  refine Nat.le_trans (List.length_filter_le _ _) ?_
  rw [List.length_map, List.length_take]; omega
end
theorem casE_c {c : List Kind} {l own : List Rep} (h : validC c = false) : casE c l own = 1 := by unfold casE; rw [if_pos h]
theorem casE_l {c : List Kind} {l own : List Rep} (h : validC c = true) (h2 : l.any (fun r => !validRep r) = true) : casE c l own = 1 := by unfold casE; rw [if_neg (by simp [h]), if_pos h2]
theorem casE_o {c : List Kind} {l own : List Rep} (h : validC c = true) (h2 : l.any (fun r => !validRep r) = false) (h3 : own = []) : casE c l own = 2 := by unfold casE; rw [if_neg (by simp [h]), if_neg (by simp [h2]), if_pos h3]
theorem casE_x {c : List Kind} {l own : List Rep} (h : validC c = true) (h2 : l.any (fun r => !validRep r) = false) (h3 : own ≠ []) : casE c l own = if (allF c own 4096).2 ≠ 0 then (allF c own 4096).2 else if (allF c own 4096).1.length = 4096 then 7 else 0 := by unfold casE; rw [if_neg (by simp [h]), if_neg (by simp [h2]), if_neg h3]
theorem casL_len {c : List Kind} {own : List Rep} {p : ByteArray} {day : Int} : (casL c own p day).length ≤ 4096 := by
  have h := (begins_len (c := c) (l := own) (a := 4096) (b := 4096) (by omega) (by omega) (Int.le_refl _)).2.2.1
  unfold casL casA
  refine Nat.le_trans (List.length_filter_le _ _) ?_
  rw [List.length_map]; omega
theorem shw_ne {α : Type} [DecidableEq α] {lt : α → α → Bool} {f : List Part → α} {c : List Kind} {l own : List Rep} {p : ByteArray} {day : Int} (h : casE c l own ≠ 0) : shwF lt f c l own p day = ([], casE c l own) := if_pos h
theorem shw_nil {α : Type} [DecidableEq α] {lt : α → α → Bool} {f : List Part → α} {c : List Kind} {l own : List Rep} {p : ByteArray} {day : Int} (h : casE c l own = 0) (h2 : casL c own p day = []) : shwF lt f c l own p day = ([], 2) := by
  unfold shwF; rw [if_neg (by simp [h]), if_pos h2]
section
variable {s : List Part} {q : ByteArray} {i : Nat} {y z : ByteArray}
theorem root_none (hi : i < s.length) (h : (findP s q).isSome = false) : rootGo s (s.length - i) q = nil8 := by
  obtain ⟨n, hn⟩ : ∃ n, s.length - i = n + 1 := ⟨s.length - i - 1, by omega⟩
  rw [hn]; unfold rootGo
  cases hf : findP s q with
  | none => rfl
  | some x => rw [hf] at h; cases h
theorem root_here (hi : i < s.length) (h : (findP s q).isSome = true) (h2 : ((findP s q).getD zPart).into = nil8) : rootGo s (s.length - i) q = q := by
  obtain ⟨n, hn⟩ : ∃ n, s.length - i = n + 1 := ⟨s.length - i - 1, by omega⟩
  rw [hn]; unfold rootGo
  cases hf : findP s q with
  | none => rw [hf] at h; cases h
  | some x => rw [hf] at h2; exact if_pos h2
theorem root_next (hi : i < s.length) (h : (findP s q).isSome = true) (h2 : ¬ ((findP s q).getD zPart).into = nil8) : rootGo s (s.length - i) q = rootGo s (s.length - (i + 1)) ((findP s q).getD zPart).into := by
  obtain ⟨n, hn⟩ : ∃ n, s.length - i = n + 1 := ⟨s.length - i - 1, by omega⟩
  rw [hn, show s.length - (i + 1) = n by omega]
  conv => lhs; unfold rootGo
  cases hf : findP s q with
  | none => rw [hf] at h; cases h
  | some x => rw [hf] at h2; exact if_neg h2
theorem occ_hit (hi : i < s.length) (hn : occOf y z s = occOf y z (s.drop i)) (h : (⟨s[i].into, s[i].slot⟩ : Plc) = ⟨y, z⟩) : occOf y z s = s[i].name := by
  rw [hn, List.drop_eq_getElem_cons hi]
  unfold occOf
  rw [List.find?_cons_of_pos (by simp only [Plc.mk.injEq] at h; simp [seatB, h.1, h.2])]; rfl
theorem occ_skip (hi : i < s.length) (hn : occOf y z s = occOf y z (s.drop i)) (h : ¬ (⟨s[i].into, s[i].slot⟩ : Plc) = ⟨y, z⟩) : occOf y z s = occOf y z (s.drop (i + 1)) := by
  rw [hn, List.drop_eq_getElem_cons hi]
  unfold occOf
  rw [List.find?_cons_of_neg (by simp only [Plc.mk.injEq] at h; simpa [seatB] using h)]
theorem occ_end (hi : ¬ i < s.length) (hn : occOf y z s = occOf y z (s.drop i)) : occOf y z s = nil8 := by
  rw [hn, List.drop_eq_nil_of_le (by omega)]; rfl
end
end Go.Sx

/-
  DERIVED: THE SHELF's CONTRACTS AT THIS DUMP, IN PLAIN WORDS (tools/lay-plain.mjs out of 'YtdapmfkbpnjkmaaGreatLayT.lean', which tools/lay-shelf.mjs wrote): THE SAME DECLARATIONS UNDER THE SAME NAMES: 'import', 'namespace', 'open', 'def', 'theorem' AND NOTHING ELSE: no command of the shelf's: FOR A HAND-IN. Each laying: the table of numbers ('.._ren') and one theorem, a field a fact of the dump's own or the kernel's comparison; each contract: ONE APPLICATION.
-/
namespace Go.Proofs
open Go.Shelf
def Tryz.layQ_ren : Go.Shelf.Ren := ⟨fun | 6 => 177 | 15 => 226 | 14 => 235 | 28 => 280 | 29 => 281 | 20 => 284 | 21 => 285 | 22 => 286 | 23 => 287 | 24 => 288 | 25 => 289 | 26 => 290 | 27 => 291 | 46 => 327 | 47 => 323 | 48 => 324 | 49 => 328 | 50 => 329 | 57 => 345 | n => n, fun | 22 => 29 | 24 => 55 | 25 => 106 | 3 => 3 | 39 => 293 | 0 => 0 | 53 => 343 | 55 => 345 | 4 => 4 | 46 => 336 | 45 => 335 | 50 => 124 | 5 => 5 | 9 => 9 | 66 => 371 | 70 => 375 | 76 => 384 | 77 => 385 | n => n, fun | n => n⟩
theorem Tryz.layQ : Go.Proofs.SlLaysF0.n6 Tryz.prog Tryz.layQ_ren := {
  mixed := by kernel_rfl
  f6 := ⟨Tryz.f177.name, by decide, Tryz.func177.trans (congrArg some (by kernel_rfl))⟩
  f14 := ⟨Tryz.f235.name, by decide, Tryz.func235.trans (congrArg some (by kernel_rfl))⟩
  f15 := Tryz.func226.trans (congrArg some (by kernel_rfl))
  f20 := ⟨Tryz.f284.name, by decide, Tryz.func284.trans (congrArg some (by kernel_rfl))⟩
  f21 := ⟨Tryz.f285.name, by decide, Tryz.func285.trans (congrArg some (by kernel_rfl))⟩
  f22 := ⟨Tryz.f286.name, by decide, Tryz.func286.trans (congrArg some (by kernel_rfl))⟩
  f23 := ⟨Tryz.f287.name, by decide, Tryz.func287.trans (congrArg some (by kernel_rfl))⟩
  f24 := ⟨Tryz.f288.name, by decide, Tryz.func288.trans (congrArg some (by kernel_rfl))⟩
  f25 := ⟨Tryz.f289.name, by decide, Tryz.func289.trans (congrArg some (by kernel_rfl))⟩
  f26 := ⟨Tryz.f290.name, by decide, Tryz.func290.trans (congrArg some (by kernel_rfl))⟩
  f27 := ⟨Tryz.f291.name, by decide, Tryz.func291.trans (congrArg some (by kernel_rfl))⟩
  f28 := Tryz.func280.trans (congrArg some (by kernel_rfl))
  f29 := Tryz.func281.trans (congrArg some (by kernel_rfl))
  f46 := ⟨Tryz.f327.name, by decide, Tryz.func327.trans (congrArg some (by kernel_rfl))⟩
  f47 := Tryz.func323.trans (congrArg some (by kernel_rfl))
  f48 := Tryz.func324.trans (congrArg some (by kernel_rfl))
  f49 := ⟨Tryz.f328.name, by decide, Tryz.func328.trans (congrArg some (by kernel_rfl))⟩
  f50 := ⟨Tryz.f329.name, by decide, Tryz.func329.trans (congrArg some (by kernel_rfl))⟩
  f57 := ⟨Tryz.f345.name, by decide, Tryz.func345.trans (congrArg some (by kernel_rfl))⟩
  t0 := Tryz.underlying0
  a0 := Tryz.isAgg0
  z0 := Tryz.sizeOf0
  v0 := Tryz.zeroValue0
  t3 := Tryz.underlying3
  a3 := Tryz.isAgg3
  z3 := Tryz.sizeOf3
  v3 := Tryz.zeroValue3
  t4 := Tryz.underlying4
  a4 := Tryz.isAgg4
  z4 := Tryz.sizeOf4
  v4 := Tryz.zeroValue4
  t5 := Tryz.underlying5
  a5 := Tryz.isAgg5
  z5 := Tryz.sizeOf5
  v5 := Tryz.zeroValue5
  t9 := Tryz.underlying9
  a9 := Tryz.isAgg9
  z9 := Tryz.sizeOf9
  v9 := Tryz.zeroValue9
  t22 := Tryz.underlying29
  a22 := Tryz.isAgg29
  z22 := Tryz.sizeOf29
  v22 := Tryz.zeroValue29
  t25 := Tryz.underlying106
  a25 := Tryz.isAgg106
  z25 := Tryz.sizeOf106
  v25 := Tryz.zeroValue106
  t39 := Tryz.underlying293
  a39 := Tryz.isAgg293
  z39 := Tryz.sizeOf293
  v39 := Tryz.zeroValue293
  t45 := Tryz.underlying335
  a45 := Tryz.isAgg335
  z45 := Tryz.sizeOf335
  v45 := Tryz.zeroValue335
  t46 := Tryz.underlying336
  a46 := Tryz.isAgg336
  z46 := Tryz.sizeOf336
  v46 := Tryz.zeroValue336
  t50 := Tryz.underlying124
  a50 := Tryz.isAgg124
  z50 := Tryz.sizeOf124
  v50 := Tryz.zeroValue124
  t53 := Tryz.underlying343
  a53 := Tryz.isAgg343
  z53 := Tryz.sizeOf343
  v53 := Tryz.zeroValue343
  t55 := Tryz.underlying345
  a55 := Tryz.isAgg345
  z55 := Tryz.sizeOf345
  v55 := Tryz.zeroValue345
  t66 := Tryz.underlying371
  a66 := Tryz.isAgg371
  z66 := Tryz.sizeOf371
  v66 := Tryz.zeroValue371
  t70 := Tryz.underlying375
  a70 := Tryz.isAgg375
  z70 := Tryz.sizeOf375
  v70 := Tryz.zeroValue375
  t76 := Tryz.underlying384
  a76 := Tryz.isAgg384
  z76 := Tryz.sizeOf384
  v76 := Tryz.zeroValue384
  t77 := Tryz.underlying385
  a77 := Tryz.isAgg385
  z77 := Tryz.sizeOf385
  v77 := Tryz.zeroValue385 }
def Tryz.layT_ren : Go.Shelf.Ren := ⟨fun | 6 => 188 | 15 => 226 | 14 => 240 | 28 => 280 | 29 => 281 | 20 => 292 | 21 => 293 | 22 => 294 | 23 => 295 | 24 => 296 | 25 => 297 | 26 => 298 | 27 => 299 | 46 => 330 | 47 => 323 | 48 => 324 | 49 => 331 | 50 => 332 | 57 => 346 | n => n, fun | 22 => 33 | 24 => 9 | 25 => 105 | 3 => 3 | 39 => 293 | 0 => 0 | 53 => 343 | 55 => 345 | 4 => 4 | 46 => 336 | 45 => 335 | 50 => 124 | 5 => 5 | 9 => 9 | 66 => 371 | 70 => 375 | 76 => 384 | 77 => 385 | n => n, fun | n => n⟩
theorem Tryz.layT : Go.Proofs.SlLaysF.n6 Tryz.prog Tryz.layT_ren := {
  mixed := by kernel_rfl
  f6 := ⟨Tryz.f188.name, by decide, Tryz.func188.trans (congrArg some (by kernel_rfl))⟩
  f14 := ⟨Tryz.f240.name, by decide, Tryz.func240.trans (congrArg some (by kernel_rfl))⟩
  f15 := Tryz.func226.trans (congrArg some (by kernel_rfl))
  f20 := ⟨Tryz.f292.name, by decide, Tryz.func292.trans (congrArg some (by kernel_rfl))⟩
  f21 := ⟨Tryz.f293.name, by decide, Tryz.func293.trans (congrArg some (by kernel_rfl))⟩
  f22 := ⟨Tryz.f294.name, by decide, Tryz.func294.trans (congrArg some (by kernel_rfl))⟩
  f23 := ⟨Tryz.f295.name, by decide, Tryz.func295.trans (congrArg some (by kernel_rfl))⟩
  f24 := ⟨Tryz.f296.name, by decide, Tryz.func296.trans (congrArg some (by kernel_rfl))⟩
  f25 := ⟨Tryz.f297.name, by decide, Tryz.func297.trans (congrArg some (by kernel_rfl))⟩
  f26 := ⟨Tryz.f298.name, by decide, Tryz.func298.trans (congrArg some (by kernel_rfl))⟩
  f27 := ⟨Tryz.f299.name, by decide, Tryz.func299.trans (congrArg some (by kernel_rfl))⟩
  f28 := Tryz.func280.trans (congrArg some (by kernel_rfl))
  f29 := Tryz.func281.trans (congrArg some (by kernel_rfl))
  f46 := ⟨Tryz.f330.name, by decide, Tryz.func330.trans (congrArg some (by kernel_rfl))⟩
  f47 := Tryz.func323.trans (congrArg some (by kernel_rfl))
  f48 := Tryz.func324.trans (congrArg some (by kernel_rfl))
  f49 := ⟨Tryz.f331.name, by decide, Tryz.func331.trans (congrArg some (by kernel_rfl))⟩
  f50 := ⟨Tryz.f332.name, by decide, Tryz.func332.trans (congrArg some (by kernel_rfl))⟩
  f57 := ⟨Tryz.f346.name, by decide, Tryz.func346.trans (congrArg some (by kernel_rfl))⟩
  t0 := Tryz.underlying0
  a0 := Tryz.isAgg0
  z0 := Tryz.sizeOf0
  v0 := Tryz.zeroValue0
  t3 := Tryz.underlying3
  a3 := Tryz.isAgg3
  z3 := Tryz.sizeOf3
  v3 := Tryz.zeroValue3
  t4 := Tryz.underlying4
  a4 := Tryz.isAgg4
  z4 := Tryz.sizeOf4
  v4 := Tryz.zeroValue4
  t5 := Tryz.underlying5
  a5 := Tryz.isAgg5
  z5 := Tryz.sizeOf5
  v5 := Tryz.zeroValue5
  t9 := Tryz.underlying9
  a9 := Tryz.isAgg9
  z9 := Tryz.sizeOf9
  v9 := Tryz.zeroValue9
  t22 := Tryz.underlying33
  a22 := Tryz.isAgg33
  z22 := Tryz.sizeOf33
  v22 := Tryz.zeroValue33
  a24 := Tryz.isAgg9
  z24 := Tryz.sizeOf9
  t25 := Tryz.underlying105
  a25 := Tryz.isAgg105
  z25 := Tryz.sizeOf105
  v25 := Tryz.zeroValue105
  t39 := Tryz.underlying293
  a39 := Tryz.isAgg293
  z39 := Tryz.sizeOf293
  v39 := Tryz.zeroValue293
  t45 := Tryz.underlying335
  a45 := Tryz.isAgg335
  z45 := Tryz.sizeOf335
  v45 := Tryz.zeroValue335
  t46 := Tryz.underlying336
  a46 := Tryz.isAgg336
  z46 := Tryz.sizeOf336
  v46 := Tryz.zeroValue336
  t50 := Tryz.underlying124
  a50 := Tryz.isAgg124
  z50 := Tryz.sizeOf124
  v50 := Tryz.zeroValue124
  t53 := Tryz.underlying343
  a53 := Tryz.isAgg343
  z53 := Tryz.sizeOf343
  v53 := Tryz.zeroValue343
  t55 := Tryz.underlying345
  a55 := Tryz.isAgg345
  z55 := Tryz.sizeOf345
  v55 := Tryz.zeroValue345
  t66 := Tryz.underlying371
  a66 := Tryz.isAgg371
  z66 := Tryz.sizeOf371
  v66 := Tryz.zeroValue371
  t70 := Tryz.underlying375
  a70 := Tryz.isAgg375
  z70 := Tryz.sizeOf375
  v70 := Tryz.zeroValue375
  t76 := Tryz.underlying384
  a76 := Tryz.isAgg384
  z76 := Tryz.sizeOf384
  v76 := Tryz.zeroValue384
  t77 := Tryz.underlying385
  a77 := Tryz.isAgg385
  z77 := Tryz.sizeOf385
  v77 := Tryz.zeroValue385 }
end Go.Proofs

/- The laws of lives, in plain Lean: later lives, other lives, values. -/
set_option linter.all false
namespace Go.Sx
open Go
section
variable {c : List Kind} {f : Fm} {st : List Part} {l : List Evt} {p : Part} {e : Evt} {d : Ivl}
theorem use_inc (hi : Inc Part.name st) : Inc Part.name (useL st e d) := by
  unfold useL Inc
  rw [List.pairwise_map]
  refine List.Pairwise.imp (fun {a b} h => ?_) hi
  split <;> split <;> exact h
end
/-! values -/
section
variable {p : Part} {s : ByteArray} {d : Int}
end
end Go.Sx

/- Lives of a component in the lives of all. -/
set_option linter.all false
namespace Go.Sx
open Go
noncomputable def runsL (f : Fm) (c : List Kind) : List Part → List Evt → Option (List Part)
  | st, [] => some st
  | st, e :: l => if (applyF c st e).2 = 0 then runsL f c (applyL f c st e).1 l else none
section
variable {f : Fm} {c : List Kind} {D : ByteArray → Bool} {s a b : List Part} {d : Ivl} {v n : ByteArray}
theorem upP_in (h : Spl D s a b) (hn : D n = true) : upP s n = upP a n ∧ (upP a n = nil8 ∨ D (upP a n) = true) := by
  refine ⟨by unfold upP; rw [h.find hn], ?_⟩
  unfold upP
  cases hq : findP a n with
  | none => exact .inl rfl
  | some q => exact (h.na q ((find_iff h.ia).1 hq).1).2
theorem reach_in (h : Spl D s a b) : ∀ (k : Nat) (n : ByteArray), D n = true → reachF s v k n = reachF a v k n
  | 0, _, _ => rfl
  | k + 1, n, hn => by
    obtain ⟨h1, h2⟩ := upP_in h hn
    simp only [reachF, h1]
    rcases h2 with h2 | h2
    · simp [h2]
    · rw [reach_in h k _ h2]
theorem reach_out (h : Spl D s a b) (hv : D v = true) : ∀ (k : Nat) (n : ByteArray), D n = false → reachF s v k n = false
  | 0, _, _ => rfl
  | k + 1, n, hn => by
    obtain ⟨h1, h2⟩ := upP_in h.turn (n := n) (by simpa using hn)
    simp only [reachF]
    rcases h2 with h2 | h2
    · rw [h1, h2]; simp
    · have h3 : D (upP s n) = false := by rw [h1]; simpa using h2
      rw [reach_out h hv k _ h3]
      have : ¬ upP s n = v := fun e => by rw [e, hv] at h3; cases h3
      simp [this]
theorem ins_in (h : Spl D s a b) (hv : D v = true) (hn : D n = true) : InsP s v n ↔ InsP a v n := by
  unfold InsP
  rw [h.find hv, h.find hn]
  refine and_congr_right fun _ => exists_congr fun k => ?_
  rw [reach_in h k n hn]
theorem ins_out (h : Spl D s a b) (hv : D v = true) (hn : D n = false) : ¬ InsP s v n := fun ⟨_, k, hk⟩ => by rw [reach_out h hv k n hn] at hk; cases hk
theorem Spl.use (h : Spl D s a b) {e : Evt} (hv : D e.part = true) : Spl D (useL s e d) (useL a e d) b := by
  have hA : ∀ y ∈ a, (y.name = e.part ∨ InsP s e.part y.name) ↔ (y.name = e.part ∨ InsP a e.part y.name) := fun y hy => by rw [ins_in h hv (h.na y hy).1]
  have hB : ∀ y ∈ b, ¬ (y.name = e.part ∨ InsP s e.part y.name) := fun y hy => by
    have hd := (h.nb y hy).1
    rintro (h1 | h1)
    · rw [h1, hv] at hd; cases hd
    · exact ins_out h hv hd h1
  refine ⟨use_inc h.is, use_inc h.ia, h.ib, fun x => ?_, fun x hx => ?_, h.nb⟩
  · unfold useL
    rw [List.mem_map, List.mem_map]
    constructor
    · rintro ⟨y, hy, rfl⟩
      rcases (h.mem y).1 hy with hy | hy
      · refine .inl ⟨y, hy, ?_⟩
        by_cases h1 : y.name = e.part ∨ InsP s e.part y.name
        · rw [if_pos h1, if_pos ((hA y hy).1 h1)]
        · rw [if_neg h1, if_neg (fun h2 => h1 ((hA y hy).2 h2))]
      · rw [if_neg (hB y hy)]; exact .inr hy
    · rintro (⟨y, hy, rfl⟩ | hx)
      · refine ⟨y, (h.mem y).2 (.inl hy), ?_⟩
        by_cases h1 : y.name = e.part ∨ InsP s e.part y.name
        · rw [if_pos h1, if_pos ((hA y hy).1 h1)]
        · rw [if_neg h1, if_neg (fun h2 => h1 ((hA y hy).2 h2))]
      · exact ⟨x, (h.mem x).2 (.inr hx), if_neg (hB x hx)⟩
  · unfold useL at hx
    obtain ⟨y, hy, rfl⟩ := List.mem_map.1 hx
    split
    · exact h.na y hy
    · exact h.na y hy
end
section
variable {f : Fm} {c : List Kind} {l : List Rep} {s : List Part} {R : Nat → Nat} {t T : List Int} {E : List Evt} {r k : Nat} {p : ByteArray} {day : Int}
end
end Go.Sx

/- Bounds over all histories, in plain Lean. -/
set_option linter.all false
namespace Go.Sx
open Go
def hullL : List Ivl → Ivl
  | [] => zIvl
  | x :: r => r.foldl joinI x
noncomputable def lifeA (f : Fm) (c : List Kind) (own : List Rep) (p : ByteArray) (day : Int) : List (Option Part) := (allF c own 4096).1.map fun t => findP (runL f c (pickedF own t).1 day).1 p
def bndE (f : Fm) (c : List Kind) (l own : List Rep) (day : Int) : Int := if (!validC c || !validFm f) = true then 1 else if (decide (day < 0) || decide (day > 40000)) = true then 1 else casE c l own
noncomputable def bndF (g : Option Part → Ivl) (f : Fm) (c : List Kind) (l own : List Rep) (p : ByteArray) (day : Int) : Ivl × Int :=
  if bndE f c l own day ≠ 0 then (zIvl, bndE f c l own day) else if (lifeA f c own p day).any Option.isSome = false then (zIvl, 2) else (hullL ((lifeA f c own p day).map g), 0)
def kmO (o : Option Part) : Ivl := (o.getD zPart).life.km
def cyO (o : Option Part) : Ivl := (o.getD zPart).life.cycles
def daO (o : Option Part) : Ivl := (o.getD zPart).life.damage
def valO (s : ByteArray) (day : Int) (o : Option Part) : Ivl := match o with
  | some p => (valueF p s day).1
  | none => zIvl
noncomputable def bndLife (f : Fm) (c : List Kind) (l own : List Rep) (p : ByteArray) (day : Int) : Life × Int := (⟨(bndF kmO f c l own p day).1, (bndF cyO f c l own p day).1, (bndF daO f c l own p day).1⟩, (bndF kmO f c l own p day).2)
noncomputable def bndVal (s : ByteArray) (f : Fm) (c : List Kind) (l own : List Rep) (p : ByteArray) (day : Int) : Ivl × Int := if isCur s = false then (zIvl, 15) else bndF (valO s day) f c l own p day
/-! hulls -/
section
variable {L M : List Ivl} {x : Ivl}
end
/-! bounds -/
section
variable {f : Fm} {c : List Kind} {l own : List Rep} {R : Nat → Nat} {p s : ByteArray} {day : Int} {g g' : Option Part → Ivl} {k : Nat}
end
end Go.Sx

