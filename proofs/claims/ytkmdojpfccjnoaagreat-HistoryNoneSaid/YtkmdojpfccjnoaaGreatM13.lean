/- What the laws of the course rest on, in plain Lean. -/
import Derived.Test.YtkmdojpfccjnoaaGreatM12
set_option linter.all false
namespace Go.Sx
open Go
theorem fewE_sm {l : List Evt} {n : Int} (h : fewE l n = true) : (∀ e ∈ l, SmE e) ∧ ((l.length : Nat) : Int) ≤ n := by
  simp only [fewE, Bool.and_eq_true, decide_eq_true_eq] at h
  refine ⟨fun e he => ?_, h.2⟩
  obtain ⟨_, h1⟩ := allP_mem h.1 he
  simp only [shortE, Bool.and_eq_true, decide_eq_true_eq] at h1
  refine ⟨?_, ?_, ?_, ?_, ?_, ?_⟩ <;> unfold Sm <;> omega
theorem fewC_sm {c : List Kind} (h : fewC c = true) : SmC c := by
  simp only [fewC, Bool.and_eq_true, Bool.not_eq_true', decide_eq_false_iff_not] at h
  intro k hk
  obtain ⟨_, h1⟩ := allP_mem h.2 hk
  simp only [fewKind, Bool.and_eq_true, Bool.not_eq_true', Bool.or_eq_false_iff, decide_eq_false_iff_not] at h1
  refine ⟨by unfold Sm; omega, fun s hs => ?_⟩
  obtain ⟨_, h2⟩ := allP_mem h1.2 hs
  simp only [fewSlot, Bool.and_eq_true, Bool.not_eq_true', Bool.or_eq_false_iff, decide_eq_false_iff_not] at h2
  refine ⟨by unfold Sm; omega, fun q hq => ?_⟩
  obtain ⟨_, h3⟩ := allP_mem h2.2 hq
  simp only [Bool.not_eq_true', decide_eq_false_iff_not] at h3
  unfold Sm; omega
/-! the example -/
def nMotor : ByteArray := ⟨#[109, 111, 116, 111, 114]⟩
def nCoach : ByteArray := ⟨#[99, 111, 97, 99, 104]⟩
def nM : ByteArray := ⟨#[109]⟩
def nM1 : ByteArray := ⟨#[109, 49]⟩
def nV1 : ByteArray := ⟨#[118, 49]⟩
def smpC : List Kind := [⟨nMotor, false, []⟩, ⟨nCoach, true, [⟨nM, [nMotor], 1⟩]⟩]
def smpL (day : Int) : List Evt := [⟨2, day, nM1, nil8, nV1, nM, nil8, nil8, zUse⟩, ⟨1, 1, nM1, nMotor, nil8, nil8, nil8, nil8, zUse⟩, ⟨1, 1, nV1, nCoach, nil8, nil8, nil8, nil8, zUse⟩]
def smpA : List Part := [⟨nM1, nMotor, nV1, nM, 1, 1, false, [], zLife⟩, ⟨nV1, nCoach, nil8, nil8, 1, 1, false, [], zLife⟩]
def smpB : List Part := [⟨nM1, nMotor, nil8, nil8, 1, 1, false, [], zLife⟩, ⟨nV1, nCoach, nil8, nil8, 1, 1, false, [], zLife⟩]
theorem smp_run5 : runF smpC (smpL 5) = (smpA, -1, 0) := by decide +kernel
theorem smp_run1 : runF smpC (smpL 1) = ([], 0, 2) := by decide +kernel
theorem smp_at4 : atF11 smpC (smpL 5) 4 = (smpB, -1, 0) := by decide +kernel
theorem smp_smC : SmC smpC := fewC_sm (by decide +kernel)
theorem smp_smE (d : Int) : ∀ e ∈ smpL d, SmE e := (fewE_sm (n := 3) (by
  have h : ∀ e ∈ smpL d, shortE e = true := by
    intro e he
    simp only [smpL, List.mem_cons, List.not_mem_nil, or_false] at he
    rcases he with rfl | rfl | rfl
    · show (shortE ⟨2, 0, nM1, nil8, nV1, nM, nil8, nil8, zUse⟩) = true; decide +kernel
    · decide +kernel
    · decide +kernel
  simp only [fewE, Bool.and_eq_true]
  refine ⟨?_, by simp [smpL]⟩
  rw [allP, List.all_eq_true]
  intro i hi
  have hi := List.mem_range.1 hi
  simp only [List.getElem?_eq_getElem hi]
  exact h _ (List.getElem_mem hi))).1
end Go.Sx
