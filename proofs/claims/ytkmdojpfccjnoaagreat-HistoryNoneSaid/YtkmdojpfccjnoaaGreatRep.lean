/- Reports and choices: what they are in Lean, how they lie in memory. -/
import Derived.Test.YtkmdojpfccjnoaaGreatM14
import Derived.Test.YtkmdojpfccjnoaaGreatMRef
set_option linter.all false
namespace Go.Sx
open Go
structure Rep where
  options : List Evt
  doubtful : Bool
  deriving DecidableEq
def Rep.cells (r : Rep) (s : Value) : List Value := [s, .bool r.doubtful]
instance : Enc Rep where
  k := 2
  rd I vs x := ∃ s, vs = x.cells s ∧ RdS I s x.options
  len h := by obtain ⟨ks, rfl, _⟩ := h; rfl
  mono hI h := by obtain ⟨ks, rfl, h⟩ := h; exact ⟨ks, rfl, h.le hI⟩
  one h := by obtain ⟨ks, rfl, h⟩ := h; obtain ⟨A, c, rfl, _⟩ := h; rfl
instance : Enc UInt8 where
  k := 1
  rd _ vs x := vs = [.int .u8 x.toNat]
  len h := by rw [h]; rfl
  mono _ h := h
  one h := by rw [h]; rfl
/-- an event that is picked, and the report that picks it -/
structure Pkd where
  e : Evt
  rep : Int
  lo : 0 ≤ e.day
  hi : e.day ≤ 40000
def Pkd.cells (p : Pkd) : List Value := p.e.cells ++ [ci p.rep]
instance : Enc Pkd where
  k := 15
  rd _ vs x := vs = x.cells
  len h := by rw [h]; rfl
  mono _ h := h
  one h := by rw [h]; rfl
instance : Day Pkd := ⟨fun p => p.e.day, Pkd.cells, 15, fun _ => rfl⟩
/-! reports -/
def optFine (pre : List Evt) (e : Evt) : Bool := !(hit id pre e || !validE e)
def validRep (r : Rep) : Bool := !(decide (((r.options.length : Nat) : Int) = 0) || decide ((4 : Int) < (r.options.length : Nat))) && allP optFine r.options r.options.length
def chs (r : Rep) : Int := if validRep r = false then 0 else if r.doubtful = true then ((r.options.length : Nat) : Int) + 1 else ((r.options.length : Nat) : Int)
theorem validRep_e {r : Rep} (h : validRep r = true) : ∀ e ∈ r.options, validE e = true := by
  intro e he
  simp only [validRep, Bool.and_eq_true] at h
  obtain ⟨pre, h1⟩ := allP_mem h.2 he
  simp only [optFine, Bool.not_eq_true', Bool.or_eq_false_iff, Bool.not_eq_false'] at h1
  exact h1.2
theorem validE_day {e : Evt} (h : validE e = true) : 0 ≤ e.day ∧ e.day ≤ 40000 := by
  simp only [validE, Bool.and_eq_true, Bool.not_eq_true'] at h
  have h1 := h.1.1.1
  simp only [evBad, Bool.or_eq_false_iff, decide_eq_false_iff_not] at h1
  omega
/-! numbers for reports -/
/-- of what is at an index of both lists -/
def at2 {β : Type} (f : Rep → Int → β) (l : List Rep) (ch : List Int) (i : Nat) : Option β := match l[i]?, ch[i]? with | some r, some k => some (f r k) | _, _ => none
theorem at2_eq {β : Type} {f : Rep → Int → β} {l : List Rep} {ch : List Int} {i : Nat} (h1 : i < l.length) (h2 : i < ch.length) : at2 f l ch i = some (f l[i] ch[i]) := by
  simp [at2, h1, h2]
def allTo (f : Rep → Int → Bool) (l : List Rep) (ch : List Int) (n : Nat) : Bool := (List.range n).all fun i => (at2 f l ch i).getD true
theorem allTo_succ {f : Rep → Int → Bool} {l : List Rep} {ch : List Int} {i : Nat} (h : allTo f l ch i = true) (h1 : i < l.length) (h2 : i < ch.length) (hf : f l[i] ch[i] = true) : allTo f l ch (i + 1) = true :=
  all_succ h (by simp [at2_eq h1 h2, hf])
theorem allTo_not {f : Rep → Int → Bool} {l : List Rep} {ch : List Int} {i n : Nat} (hn : i < n) (h1 : i < l.length) (h2 : i < ch.length) (hf : f l[i] ch[i] = false) : allTo f l ch n = false :=
  all_not (p := fun i => (at2 f l ch i).getD true) hn (by simp [at2_eq h1 h2, hf])
theorem allTo_at {f : Rep → Int → Bool} {l : List Rep} {ch : List Int} {n i : Nat} (h : allTo f l ch n = true) (hi : i < n) (h1 : i < l.length) (h2 : i < ch.length) : f l[i] ch[i] = true := by
  rw [allTo, List.all_eq_true] at h
  have := h i (List.mem_range.2 hi)
  simpa [at2_eq h1 h2] using this
def chFine (least : Int) (r : Rep) (k : Int) : Bool := !((decide (chs r = 0) || decide (k < least)) || decide (chs r ≤ k))
def givenF (c : List Kind) (l : List Rep) (ch : List Int) (least : Int) : Bool := !(!validC c || !decide (((ch.length : Nat) : Int) = (l.length : Nat))) && allTo (chFine least) l ch l.length
/-- the option that a number picks, if it is before a day -/
def optAt (day : Int) (r : Rep) (k : Int) : Option Evt := if 0 ≤ k then (match r.options[k.toNat]? with | some e => if e.day < day then some e else none | none => none) else none
def pkd (day : Int) (l : List Rep) (ch : List Int) (i : Nat) : Option Pkd := match (at2 (optAt day) l ch i).join with
  | some e => if h : 0 ≤ e.day ∧ e.day ≤ 40000 then some ⟨e, i, h.1, h.2⟩ else none
  | none => none
def pickF (day : Int) (l : List Rep) (ch : List Int) (n : Nat) : List Pkd := (List.range n).filterMap (pkd day l ch)
theorem pick_succ (day : Int) (l : List Rep) (ch : List Int) (i : Nat) : pickF day l ch (i + 1) = pickF day l ch i ++ (pkd day l ch i).toList := by
  rw [pickF, List.range_succ, List.filterMap_append, pickF]
  congr 1
/-- the course of what is picked -/
def followGo (c : List Kind) : List Part → List Pkd → Int × Int
  | _, [] => (-1, 0)
  | st, p :: r => if (applyF c st p.e).2 = 0 then followGo c (applyF c st p.e).1 r else (p.rep, (applyF c st p.e).2)
def followF (c : List Kind) (l : List Rep) (ch : List Int) (day : Int) : Int × Int := followGo c [] (sortF (pickF day l ch l.length))
def failsF (c : List Kind) (l : List Rep) (ch : List Int) : Int × Int := if givenF c l ch 0 = false then (-1, 1) else followF c l ch 40001
def isF (c : List Kind) (l : List Rep) (ch : List Int) : Bool := decide ((failsF c l ch).2 = 0)
/-- the days of what is open -/
def openDays (l : List Rep) (ch : List Int) (n : Nat) : List Int := (List.range n).flatMap fun i => (at2 (fun r k => if k < 0 then r.options.map Evt.day else []) l ch i).getD []
def leastF (l : List Int) : Int := l.foldl (fun a d => if d < a then d else a) 40001
def falseF (c : List Kind) (l : List Rep) (ch : List Int) : Bool := if givenF c l ch (-1) = false then false else !decide ((followF c l ch (leastF (openDays l ch l.length))).2 = 0)
end Go.Sx
