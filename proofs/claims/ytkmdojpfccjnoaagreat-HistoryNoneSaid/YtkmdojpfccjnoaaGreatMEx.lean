/- The example of the laws of histories. -/
import Derived.Test.YtkmdojpfccjnoaaGreatRepB
set_option linter.all false
namespace Go.Sx
open Go
abbrev nA1 : ByteArray := ⟨#[97, 49]⟩
abbrev nAxle : ByteArray := ⟨#[97, 120, 108, 101]⟩
def exC : List Kind := [⟨nAxle, false, []⟩]
def exMade : Evt := ⟨1, 0, nA1, nAxle, nil8, nil8, nil8, nil8, zUse⟩
def exLater : Evt := ⟨1, 3, nA1, nAxle, nil8, nil8, nil8, nil8, zUse⟩
def exScrap : Evt := ⟨7, 2, nA1, nil8, nil8, nil8, nil8, nil8, zUse⟩
def exNote : Evt := ⟨6, 5, nA1, nil8, nil8, nil8, ⟨#[107]⟩, ⟨#[118]⟩, zUse⟩
def exL : List Rep := [⟨[exMade, exLater], false⟩, ⟨[exScrap], true⟩]
def exLate : List Rep := exL ++ [⟨[exNote], false⟩]
theorem ex_smC : SmC exC := by
  intro k hk
  simp only [exC, List.mem_singleton] at hk
  subst hk
  exact ⟨by decide, fun s hs => (by cases hs)⟩
theorem exMade_sm : SmE exMade := ⟨by decide, by decide, by decide, by decide, by decide, by decide⟩
theorem exLater_sm : SmE exLater := ⟨by decide, by decide, by decide, by decide, by decide, by decide⟩
theorem exScrap_sm : SmE exScrap := ⟨by decide, by decide, by decide, by decide, by decide, by decide⟩
theorem exNote_sm : SmE exNote := ⟨by decide, by decide, by decide, by decide, by decide, by decide⟩
theorem exLate_sm : ∀ r ∈ exLate, ∀ e ∈ r.options, SmE e := by
  intro r hr e he
  simp only [exLate, exL, List.cons_append, List.nil_append, List.mem_cons, List.not_mem_nil, or_false] at hr
  rcases hr with rfl | rfl | rfl <;> simp only [List.mem_cons, List.not_mem_nil, or_false] at he
  · rcases he with rfl | rfl
    · exact exMade_sm
    · exact exLater_sm
  · subst he; exact exScrap_sm
  · subst he; exact exNote_sm
theorem exL_sm : ∀ r ∈ exL, ∀ e ∈ r.options, SmE e := fun r hr => exLate_sm r (List.mem_append_left _ hr)
theorem ex_f10 : failsF exC exL [1, 0] = (1, 2) := by decide +kernel
theorem ex_f00 : failsF exC exL [0, 0] = (-1, 0) := by decide +kernel
theorem ex_f02 : (failsF exC exL [0, 2]).2 = 1 := by decide +kernel
theorem ex_i00 : isF exC exL [0, 0] = true := by decide +kernel
theorem ex_i01 : isF exC exL [0, 1] = true := by decide +kernel
theorem ex_i11 : isF exC exL [1, 1] = true := by decide +kernel
theorem ex_i10 : isF exC exL [1, 0] = false := by decide +kernel
theorem ex_n0 : falseF exC exL [-1, 0] = false := by decide +kernel
theorem ex_1n : falseF exC exL [1, -1] = false := by decide +kernel
theorem ex_10 : falseF exC exL [1, 0] = true := by decide +kernel
theorem ex_late : falseF exC exLate [1, 0, -1] = true := by decide +kernel
end Go.Sx
