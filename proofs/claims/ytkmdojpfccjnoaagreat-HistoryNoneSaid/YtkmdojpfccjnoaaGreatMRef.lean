/- What the references of catalog, event, fleet and course compute, in plain Lean: the same as the program. -/
import Derived.Test.YtkmdojpfccjnoaaGreatMPut
import Derived.Test.YtkmdojpfccjnoaaGreatM14
set_option linter.all false
namespace Go.Sx
open Go
theorem allP_and {α : Type} {f g : List α → α → Bool} (l : List α) (n : Nat) : allP (fun p x => f p x && g p x) l n = (allP f l n && allP g l n) := by
  rw [Bool.eq_iff_iff, Bool.and_eq_true]
  simp only [allP, List.all_eq_true, List.mem_range]
  constructor
  · intro h
    refine ⟨fun i hi => ?_, fun i hi => ?_⟩ <;>
    · have := h i hi
      revert this
      cases l[i]? with
      | none => simp
      | some x => intro h; simp_all
  · rintro ⟨h1, h2⟩ i hi
    have h3 := h1 i hi
    have h4 := h2 i hi
    revert h3 h4
    cases l[i]? with
    | none => simp
    | some x => intro h3 h4; simp_all
theorem row_one {h : Option Nat → Option Obj} {v : Value} {t : TypeId} {k n : Nat} {xs : List Value} (hr : IsRow h v t k n xs) : v.oneCell' = true := by
  obtain ⟨_, ⟨rfl, _⟩ | ⟨g, cap, cur, rfl, _⟩⟩ := hr <;> rfl
theorem row_all {v : Value} (h : v.oneCell' = true) : ([v] : List Value).all (·.oneCell') = true := by simp [h]
theorem sx_row1 {n : Sz} {E : Ent} {I : IMap} {L : LL} {H : List Res} {K : Act → World → Prop} {v : Value} {t k m : Nat} {xs : List Value} (h : v.oneCell' = true → SX n E I L (.row v t k m xs :: H) K) : SX n E I L (.row v t k m xs :: H) K :=
  sx_know (p := v.oneCell' = true) (fun w mm => row_one (mm.holds (.row v t k m xs) (List.mem_cons_self ..))) h
/-! events -/
def ivlR (i : Ivl) : Bool := (decide (0 ≤ i.low) && decide (i.low ≤ i.high)) && decide (i.high ≤ 1000000)
theorem ivlR_eq (i : Ivl) : ivlR i = ivlOk i := by
  unfold ivlR ivlOk; rw [Bool.eq_iff_iff]; simp
def useR (u : Use) : Bool := (ivlR u.km && ivlR u.cycles) && ivlR u.load
theorem useR_eq (u : Use) : useR u = useTo u 3 := by
  simp only [useR, useTo, ivlR_eq]
  simp [List.range_succ, useAt, Bool.and_assoc]
def baseR (e : Evt) : Evt := ⟨e.op, e.day, e.part, nil8, nil8, nil8, nil8, nil8, zUse⟩
def keepR (e : Evt) : Evt :=
  if e.op = 1 then { baseR e with kind := e.kind } else if e.op = 2 then { baseR e with into := e.into, slot := e.slot } else if e.op = 4 then { baseR e with use := e.use } else if e.op = 6 then { baseR e with key := e.key, value := e.value } else baseR e
def goodR (e : Evt) : Bool :=
  if e.op = 1 then nameRef e.kind else if e.op = 2 then (nameRef e.into && nameRef e.slot) && !decide (e.into = e.part) else if e.op = 4 then useR e.use else if e.op = 6 then (nameRef e.key && decide ((1 : Int) ≤ (e.value.size : Nat))) && decide (((e.value.size : Nat) : Int) ≤ 200) else true
def evBadR (e : Evt) : Bool := (((decide (e.op < 1) || decide (7 < e.op)) || decide (e.day < 0)) || decide (40000 < e.day)) || !nameRef e.part
def validER (e : Evt) : Bool := !evBadR e && (goodR e && decide (keepR e = e))
theorem size_nil {s : ByteArray} : s = nil8 ↔ s.size = 0 := by
  constructor
  · rintro rfl; rfl
  · intro h
    cases s with | mk d => congr 1; exact Array.eq_empty_of_size_eq_zero h
theorem lt_one (s : ByteArray) : decide (((s.size : Nat) : Int) < 1) = decide (s = nil8) := by
  rw [decide_eq_decide, size_nil]; omega
theorem one_le (s : ByteArray) : decide ((1 : Int) ≤ (s.size : Nat)) = !decide (s = nil8) := by
  rw [← decide_not, decide_eq_decide, size_nil]; omega
theorem le_not (a b : Int) : decide (a ≤ b) = !decide (b < a) := by
  rw [← decide_not, decide_eq_decide]; omega
theorem evBadR_eq (e : Evt) : evBadR e = evBad e := by
  unfold evBadR evBad
  rw [name_same]
  congr 3
  rw [Bool.eq_iff_iff, Bool.or_eq_true, decide_eq_true_eq, decide_eq_true_eq, decide_eq_true_eq, wordOf_empty]
  omega
theorem keep_rest (e : Evt) : decide (keepR e = e) = decide (restOf e = zEvt) := by
  rw [decide_eq_decide]
  unfold keepR restOf baseR zEvt
  obtain ⟨op, day, part, kind, into, slot, key, value, use⟩ := e
  by_cases h1 : op = 1
  · subst h1; simp [eq_comm]
  by_cases h2 : op = 2
  · subst h2; simp [eq_comm]
  by_cases h4 : op = 4
  · subst h4; simp [eq_comm]
  by_cases h6 : op = 6
  · subst h6; simp [eq_comm]
  · simp [h1, h2, h4, h6, eq_comm]
theorem good_op (e : Evt) : goodR e = (!opBad e && !((namesOf e).any fun s => !nameOk s)) := by
  unfold goodR opBad namesOf
  by_cases h1 : e.op = 1
  · simp [h1, name_same]
  by_cases h2 : e.op = 2
  · simp [h2, name_same, Bool.and_comm]
  by_cases h4 : e.op = 4
  · simp [h4, useR_eq]
  by_cases h6 : e.op = 6
  · rw [if_neg h1, if_neg h2, if_neg h4, if_pos h6, if_neg h2, if_pos h6, if_neg h1, if_neg h2, if_pos h6, one_le, le_not]
    simp only [List.any_cons, List.any_nil, name_same]
    cases nameRef e.key <;> cases decide (e.value = nil8) <;> cases decide ((200 : Int) < (e.value.size : Nat)) <;> rfl
  · simp [h1, h2, h4, h6]
theorem validER_eq (e : Evt) : validER e = validE e := by
  unfold validER validE
  rw [evBadR_eq, good_op, keep_rest]
  cases evBad e <;> cases opBad e <;> cases decide (restOf e = zEvt) <;> cases (namesOf e).any fun s => !nameOk s <;> rfl
/-! fleets -/
def notAfter {α : Type} (nm : α → ByteArray) (pre : List α) (x : α) : Bool := match pre.getLast? with | some y => !sLt (nm y) (nm x) | none => false
theorem notAfter_eq {α : Type} (nm : α → ByteArray) (pre : List α) (x : α) : notAfter nm pre x = !ordAt nm pre x := by
  unfold notAfter ordAt; cases pre.getLast? <;> simp
theorem notAfter_at {α : Type} {nm : α → ByteArray} {l : List α} {i : Nat} (h0 : 0 < i) (hi : i < l.length) : notAfter nm (l.take i) l[i] = !sLt (nm (l[i - 1]'(by omega))) (nm l[i]) := by
  have : (l.take i).getLast? = some (l[i - 1]'(by omega)) := by
    rw [List.getLast?_eq_getElem?, List.length_take, Nat.min_eq_left (by omega), List.getElem?_take, if_pos (by omega), List.getElem?_eq_getElem]
  simp only [notAfter, this]
theorem notAfter_zero {α : Type} {nm : α → ByteArray} {l : List α} {i : Nat} (h0 : ¬ 0 < i) (x : α) : notAfter nm (l.take i) x = false := by
  obtain rfl : i = 0 := by omega
  simp [notAfter]
def propR (pre : List Prp) (q : Prp) : Bool := !(((!nameRef q.key || decide (((q.value.size : Nat) : Int) < 1)) || decide ((200 : Int) < (q.value.size : Nat))) || notAfter Prp.key pre q)
theorem propR_eq (pre : List Prp) (q : Prp) : propR pre q = (propOk q && ordAt Prp.key pre q) := by
  unfold propR propOk
  rw [notAfter_eq, name_same]
  rw [lt_one, le_not]
  cases nameRef q.key <;> cases decide (q.value = nil8) <;> cases decide ((200 : Int) < (q.value.size : Nat)) <;> cases ordAt Prp.key pre q <;> rfl
def ownBadR (c : List Kind) (p : Part) : Bool := ((((!(findK c p.kind).isSome || !nameRef p.name) || decide (p.made < 0)) || decide (p.since < p.made)) || decide (40000 < p.since)) || decide ((60 : Int) < (p.props.length : Nat))
def ownR (c : List Kind) (p : Part) : Bool := !ownBadR c p && (allP propR p.props p.props.length && ((lifeOk p.life.km && lifeOk p.life.cycles) && lifeOk p.life.damage))
theorem ownR_eq (c : List Kind) (p : Part) : ownR c p = rightP c p := by
  unfold ownR rightP
  rw [show ownBadR c p = partBad c p by unfold ownBadR partBad; rw [name_same], show propR = (fun pre q => propOk q && ordAt Prp.key pre q) from funext fun pre => funext fun q => propR_eq pre q, allP_and]
  simp only [ordF]
  cases partBad c p <;> cases allP (fun _ q => propOk q) p.props p.props.length <;> cases allP (ordAt Prp.key) p.props p.props.length <;> simp
def clash (p x : Part) : Bool := decide (x.into = p.into) && decide (x.slot = p.slot)
def bad1R (c : List Kind) (pre : List Part) (p : Part) : Bool := (!ownR c p || notAfter Part.name pre p) || !(decide (p.into = nil8) == decide (p.slot = nil8))
def bad2R (c : List Kind) (st : List Part) (p : Part) : Bool := ((!(findP st p.into).isSome || p.scrapped) || ((findP st p.into).getD zPart).scrapped) || !takesF c ((findP st p.into).getD zPart).kind p.slot p.kind
def partR (c : List Kind) (st pre : List Part) (p : Part) : Bool := !bad1R c pre p && (decide (p.into = nil8) || (!bad2R c st p && !pre.any (clash p)))
def validSR (c : List Kind) (st : List Part) : Bool := !(!validR c || decide ((20000 : Int) < (st.length : Nat))) && allP (partR c st) st st.length
theorem hit_clash (p : Part) (h : ¬ p.into = nil8) (pre : List Part) : hit seatOf (seated pre) (seatOf p) = pre.any (clash p) := by
  rw [hit_eq, Bool.eq_iff_iff, List.any_eq_true, List.any_eq_true]
  constructor
  · rintro ⟨x, hx, he⟩
    rw [seated, List.mem_filter] at hx
    refine ⟨x, hx.1, ?_⟩
    simp only [seatOf, Prod.mk.injEq, decide_eq_true_eq] at he
    simp [clash, he.1, he.2]
  · rintro ⟨x, hx, he⟩
    simp only [clash, Bool.and_eq_true, decide_eq_true_eq] at he
    refine ⟨x, ?_, by simp [seatOf, he.1, he.2]⟩
    rw [seated, List.mem_filter]
    exact ⟨hx, by simp [he.1, h]⟩
theorem partR_eq (c : List Kind) (st pre : List Part) (p : Part) : partR c st pre p = (ordAt Part.name pre p && partFine c st pre p) := by
  unfold partR partFine bad1R bad1P
  rw [notAfter_eq, ownR_eq]
  by_cases h : p.into = nil8
  · simp only [h, decide_true]
    cases rightP c p <;> cases ordAt Part.name pre p <;> cases decide (p.slot = nil8) <;> rfl
  · simp only [bad2R, bad2P, hit_clash p h, decide_eq_false h]
    cases rightP c p <;> cases ordAt Part.name pre p <;> cases decide (p.slot = nil8) <;> cases (findP st p.into).isSome <;> cases p.scrapped <;> cases ((findP st p.into).getD zPart).scrapped <;> cases pre.any (clash p) <;> cases takesF c ((findP st p.into).getD zPart).kind p.slot p.kind <;> rfl
theorem validSR_eq (c : List Kind) (st : List Part) : validSR c st = validS c st := by
  unfold validSR validS bad0S
  rw [valid_same, show partR c st = (fun pre p => ordAt Part.name pre p && partFine c st pre p) from funext fun pre => funext fun p => partR_eq c st pre p, allP_and]
  simp only [ordF]
  cases validR c <;> cases decide ((20000 : Int) < (st.length : Nat)) <;> cases allP (ordAt Part.name) st st.length <;> rfl
/-! putting in -/
section
variable {α : Type} (nm : α → ByteArray) (x : α)
def wStep1 (s : List α × Bool) (y : α) : List α × Bool := if (!s.2 && !sLt (nm y) (nm x)) = true then (s.1 ++ [x], true) else s
def wStep (s : List α × Bool) (y : α) : List α × Bool := if nm y = nm x then wStep1 nm x s y else ((wStep1 nm x s y).1 ++ [y], (wStep1 nm x s y).2)
def wF (l : List α) : List α × Bool := l.foldl (wStep nm x) ([], false)
def withF (l : List α) : List α := if (wF nm x l).2 = true then (wF nm x l).1 else (wF nm x l).1 ++ [x]
variable {nm x}
theorem wF_succ {l : List α} {i : Nat} (hi : i < l.length) : wF nm x (l.take (i + 1)) = wStep nm x (wF nm x (l.take i)) l[i] := by
  rw [← take_succ_of hi, wF, List.foldl_append]; rfl
theorem wF_len (l : List α) : (wF nm x l).1.length ≤ l.length + if (wF nm x l).2 = true then 1 else 0 := by
  suffices ∀ (l : List α) (s : List α × Bool), (l.foldl (wStep nm x) s).1.length + (if s.2 = true then 1 else 0) ≤ s.1.length + l.length + if (l.foldl (wStep nm x) s).2 = true then 1 else 0 by
    have := this l ([], false)
    unfold wF
    simp only [Bool.false_eq_true, if_false, List.length_nil, Nat.zero_add, Nat.add_zero] at this
    exact this
  intro l
  induction l with
  | nil => intro s; rw [List.foldl_nil, List.length_nil]; omega
  | cons y r ih =>
    intro s
    have h := ih (wStep nm x s y)
    rw [List.foldl_cons]
    obtain ⟨s1, s2⟩ := s
    have h2 : (wStep nm x (s1, s2) y).1.length + (if s2 = true then 1 else 0) ≤ s1.length + 1 + (if (wStep nm x (s1, s2) y).2 = true then 1 else 0) := by
      unfold wStep wStep1
      by_cases he : nm y = nm x
      · cases s2 <;> cases sLt (nm y) (nm x) <;> simp [he]
      · cases s2 <;> cases sLt (nm y) (nm x) <;> simp [he]
    simp only [List.length_cons]
    show _ + (if s2 = true then 1 else 0) ≤ s1.length + _ + _
    omega
theorem w_done {b : List α} (p : List α) (h : ∀ y ∈ b, nm y ≠ nm x) : b.foldl (wStep nm x) (p, true) = (p ++ b, true) := by
  induction b generalizing p with
  | nil => simp
  | cons y r ih =>
    rw [List.foldl_cons]
    have : wStep nm x (p, true) y = (p ++ [y], true) := by simp [wStep, wStep1, h y (by simp)]
    rw [this, ih _ (fun z hz => h z (by simp [hz]))]
    simp
theorem w_lo {p a : List α} (h : ∀ y ∈ a, sLt (nm y) (nm x) = true) : a.foldl (wStep nm x) (p, false) = (p ++ a, false) := by
  induction a generalizing p with
  | nil => simp
  | cons y r ih =>
    rw [List.foldl_cons]
    have h1 := h y (by simp)
    have hn : nm y ≠ nm x := by intro e; rw [e, sLt_irrefl] at h1; cases h1
    have : wStep nm x (p, false) y = (p ++ [y], false) := by simp [wStep, wStep1, h1, hn]
    rw [this, ih (fun z hz => h z (by simp [hz]))]
    simp
theorem with_put {l : List α} (h : Inc nm l) : withF nm x l = putL nm l x := by
  rcases cut_of l (nm x) h with ⟨a, b, rfl, hc⟩ | ⟨a, y, b, rfl, hy, hc⟩
  · rw [put_cut hc]
    have h1 : wF nm x (a ++ b) = if b = [] then (a, false) else (a ++ x :: b, true) := by
      rw [wF, List.foldl_append, w_lo hc.lo]
      cases b with
      | nil => simp
      | cons y r =>
        have h2 := hc.hi y (by simp)
        have hn : nm y ≠ nm x := cut_ne hc (.inr (by simp))
        rw [List.foldl_cons]
        have : wStep nm x ([] ++ a, false) y = (a ++ [x] ++ [y], true) := by simp [wStep, wStep1, sLt_asymm h2, hn]
        rw [this, w_done (nm := nm) (x := x) (b := r) _ (fun z hz => cut_ne hc (.inr (by simp [hz])))]
        simp
    unfold withF
    rw [h1]
    by_cases hb : b = []
    · subst hb; simp
    · simp [hb]
  · rw [put_cut1 hc hy]
    have h1 : wF nm x (a ++ y :: b) = (a ++ x :: b, true) := by
      rw [wF, List.foldl_append, w_lo hc.lo, List.foldl_cons]
      have : wStep nm x ([] ++ a, false) y = (a ++ [x], true) := by simp [wStep, wStep1, hy, sLt_irrefl]
      rw [this, w_done (nm := nm) (x := x) (b := b) _ (fun z hz => cut_ne hc (.inr hz))]
      simp
    unfold withF
    rw [h1]; simp
end
theorem seat_end {l : List Part} {p : Part} {m i : Nat} (hq : ∀ j x, j < m → l[j]? = some x → clash p x = false) (hi : i ≤ m) : (l.take i).any (clash p) = false := by
  rw [List.any_eq_false]
  intro x hx
  obtain ⟨j, hj, rfl⟩ := List.getElem_of_mem hx
  rw [List.length_take] at hj
  rw [List.getElem_take]
  simpa using hq j _ (by omega) (List.getElem?_eq_getElem (by omega))
theorem seat_hit {l : List Part} {p : Part} {m i : Nat} (hm : m < i) (hl : m < l.length) (h : clash p l[m] = true) : (l.take i).any (clash p) = true := by
  rw [List.any_eq_true]
  exact ⟨l[m], List.mem_iff_getElem.2 ⟨m, by rw [List.length_take]; omega, List.getElem_take⟩, h⟩
section
variable {α : Type} {nm : α → ByteArray} {x : α} {l : List α} {i : Nat} {out : List α} {b : Bool}
theorem wF_tt (hi : i < l.length) (hw : wF nm x (l.take i) = (out, b)) (h1 : (!b) = true) (h2 : (!sLt (nm l[i]) (nm x)) = true) (h3 : (!decide (nm l[i] = nm x)) = true) : wF nm x (l.take (i + 1)) = (out ++ [x] ++ [l[i]], true) := by
  have h4 : ¬ nm l[i] = nm x := by simpa using h3
  rw [wF_succ hi, hw, wStep, if_neg h4]; simp only [wStep1, h1, h2, Bool.and_self, if_true]
theorem wF_tf (hi : i < l.length) (hw : wF nm x (l.take i) = (out, b)) (h1 : (!b) = true) (h2 : (!sLt (nm l[i]) (nm x)) = true) (h3 : (!decide (nm l[i] = nm x)) = false) : wF nm x (l.take (i + 1)) = (out ++ [x], true) := by
  have h4 : nm l[i] = nm x := by simpa using h3
  rw [wF_succ hi, hw, wStep, if_pos h4]; simp only [wStep1, h1, h2, Bool.and_self, if_true]
theorem wF_ft (hi : i < l.length) (hw : wF nm x (l.take i) = (out, b)) (h1 : (!b && !sLt (nm l[i]) (nm x)) = false) (h3 : (!decide (nm l[i] = nm x)) = true) : wF nm x (l.take (i + 1)) = (out ++ [l[i]], b) := by
  have h4 : ¬ nm l[i] = nm x := by simpa using h3
  rw [wF_succ hi, hw, wStep, if_neg h4]; simp only [wStep1, h1, Bool.false_eq_true, if_false]
theorem wF_ff (hi : i < l.length) (hw : wF nm x (l.take i) = (out, b)) (h1 : (!b && !sLt (nm l[i]) (nm x)) = false) (h3 : (!decide (nm l[i] = nm x)) = false) : wF nm x (l.take (i + 1)) = (out, b) := by
  have h4 : nm l[i] = nm x := by simpa using h3
  rw [wF_succ hi, hw, wStep, if_pos h4]; simp only [wStep1, h1, Bool.false_eq_true, if_false]
theorem w_le (hw : wF nm x (l.take i) = (out, b)) : out.length ≤ i + 1 := by
  have h := wF_len (nm := nm) (x := x) (l.take i)
  rw [hw, List.length_take] at h
  dsimp only at h; split at h <;> omega
theorem with_t (hw : wF nm x l = (out, b)) (h : (!b) = true) : withF nm x l = out ++ [x] := by
  have : b = false := by simpa using h
  simp [withF, hw, this]
theorem with_f (hw : wF nm x l = (out, b)) (h : (!b) = false) : withF nm x l = out := by
  have : b = true := by simpa using h
  simp [withF, hw, this]
theorem any_none {p : α → Bool} (h : ∀ j x, j < l.length → l[j]? = some x → p x = false) : l.any p = false := by
  rw [List.any_eq_false]
  intro y hy
  obtain ⟨j, hj, rfl⟩ := List.getElem_of_mem hy
  simpa using h j _ hj (List.getElem?_eq_getElem hj)
theorem filter_yes {f : α → Bool} (hi : i < l.length) (h : f l[i] = true) : (l.take (i + 1)).filter f = (l.take i).filter f ++ [l[i]] := by
  rw [← take_succ_of hi, List.filter_append]; simp [h]
theorem filter_no {f : α → Bool} (hi : i < l.length) (h : f l[i] = false) : (l.take (i + 1)).filter f = (l.take i).filter f := by
  rw [← take_succ_of hi, List.filter_append]; simp [h]
end
def otherN (e : Evt) : ByteArray := if e.op = 2 then e.into else e.part
theorem otherO_eq (st : List Part) (e : Evt) : otherO st e = findP st (otherN e) := by unfold otherO otherN; split <;> rfl
def heldF (st : List Part) (into slot : ByteArray) : Bool := st.any fun x => decide (x.into = into) && (decide (slot = nil8) || decide (x.slot = slot))
theorem held_any (st : List Part) (s : ByteArray) : heldF st s nil8 = holdsAny st s := by simp [heldF, holdsAny]
theorem held_seat (st : List Part) (e : Evt) (h : e.slot ≠ nil8) : heldF st e.into e.slot = seatTaken st e := by simp [heldF, seatTaken, h]
theorem fit_slot {e : Evt} (h : validE e = true) (h2 : e.op = 2) : e.slot ≠ nil8 := by
  intro he
  simp [validE, namesOf, h2, he] at h
  have : nameOk nil8 = false := by decide
  rw [this] at h; simp at h
theorem find_idx {st : List Part} {s : ByteArray} : decide (0 ≤ idxF (fun p : Part => decide (p.name = s)) st) = (findP st s).isSome := by
  rw [idxF_any, findP, Bool.eq_iff_iff, List.any_eq_true, List.find?_isSome]
/-! the course -/
theorem run_step {c : List Kind} {st : List Part} {l : List Evt} {i : Nat} (hi : i < l.length) {z : Int} : runGo c st z (l.drop i) = if (applyF c st l[i]).2 = 0 then runGo c (applyF c st l[i]).1 (z + 1) (l.drop (i + 1)) else ([], z, (applyF c st l[i]).2) := by
  rw [List.drop_eq_getElem_cons hi]; rfl
theorem ins_right {α : Type} [Day α] {l : List α} {e : α} {k : Nat} (hk : k ≤ (sortF l).length) (h1 : ∀ j y, k ≤ j → (sortF l)[j]? = some y → Day.day y > Day.day e)
    (h2 : k = 0 ∨ ∃ y, (sortF l)[k - 1]? = some y ∧ Day.day y ≤ Day.day e) : (sortF l).take k ++ e :: (sortF l).drop k = sortF (l ++ [e]) := by
  have hs := sortF_srt l
  have hd : ∀ y ∈ (sortF l).drop k, Day.day e < Day.day y := by
    intro y hy
    obtain ⟨j, hj, rfl⟩ := List.getElem_of_mem hy
    rw [List.getElem_drop]
    exact h1 (k + j) _ (by omega) (List.getElem?_eq_getElem _)
  have ht : ∀ y ∈ (sortF l).take k, Day.day y ≤ Day.day e := by
    intro y hy
    rcases h2 with rfl | ⟨z, hz, hze⟩
    · simp at hy
    · obtain ⟨j, hj, rfl⟩ := List.getElem_of_mem hy
      rw [List.length_take] at hj
      rw [List.getElem_take]
      obtain ⟨hk1, rfl⟩ := List.getElem?_eq_some_iff.1 hz
      rw [Srtd, List.pairwise_iff_getElem] at hs
      rcases Nat.lt_or_ge j (k - 1) with hlt | hge
      · exact Int.le_trans (hs j (k - 1) (by omega) hk1 hlt) hze
      · obtain rfl : j = k - 1 := by omega
        exact hze
  refine stb_one _ _ ?_ (sortF_srt _) fun d => ?_
  · unfold Srtd at hs ⊢
    rw [← List.take_append_drop k (sortF l), List.pairwise_append] at hs
    rw [List.pairwise_append, List.pairwise_cons]
    refine ⟨hs.1, ⟨fun y hy => Int.le_of_lt (hd y hy), hs.2.1⟩, fun y hy z hz => ?_⟩
    rcases List.mem_cons.1 hz with rfl | hz
    · exact ht y hy
    · exact Int.le_trans (ht y hy) (Int.le_of_lt (hd z hz))
  · rw [sortF_filter, List.filter_append, List.filter_append, ← sortF_filter d l, List.filter_cons]
    conv => rhs; rw [← List.take_append_drop k (sortF l), List.filter_append]
    by_cases he : Day.day e = d
    · have : ((sortF l).drop k).filter (fun e => decide (Day.day e = d)) = [] := by
        rw [List.filter_eq_nil_iff]
        intro y hy
        have := hd y hy
        simp; omega
      rw [this]; simp [he]
    · simp [he]
end Go.Sx
