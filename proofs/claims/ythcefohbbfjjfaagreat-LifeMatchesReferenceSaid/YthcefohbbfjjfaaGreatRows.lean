/-
  NARROWER THAN 'FOR EVERY INPUT', by the rows' own cells (each row's printed sentence says how): LifeRuns: loops · LifeMatchesReference: loops · LifeOthers: loops · LifeLater: loops · LifeStates: loops.
  DERIVED. THE GIVEN ROWS OF THIS SEAT. 6 by the template 'for every input the law returns true; each argument reads behind the call as it read before'; 0 by the template 'total and deterministic' (their statements: YthcefohbbfjjfaaGreatTotals.lean).
  GIVEN WITH THE SEED: the statements are not yours to turn. If you find one false, say at which input.
  Laid BY PROGRAM, IN A SANDBOX (cutbox-rows.mjs): the forced cells as the released guide's own fill.sh prints them over the translation c180006a6e0ef2fd… (all of the seat's roots in one cut). By AI agents, Wed Nov 11 2026. No macro, syntax, notation, axiom, sorry.
-/
import Derived.Test.YthcefohbbfjjfaaGreatChecked
import GoSem.Claim
import GoSem.ClaimJoined
import GoSem.ClaimMapViews
import Derived.JoinedTies
import Derived.KernelRfl
namespace Go.Proofs.YthcefohbbfjjfaaGreat
/- THE CELL 'sum', in the pinned program and in every row, IS THE sha256 OF THE DUMP (.gsa) THAT YthcefohbbfjjfaaGreatProg.lean LOADS. Nothing in Lean hashes anything: it is a label: what it is worth is what the hold of that sum in a sandbox is worth. -/
noncomputable def Tryz.pinned : Pinned := { name := "ythcefohbbfjjfaagreat", sum := "c180006a6e0ef2fdef6389adf06e925cf0512a7c3a27df577d8c3641d482aef4", checked := Tryz.checked }
namespace Rows
def none {H : Type} : Left H := { results := [], args := [] }

/-- 'bogielaw12.LifeRuns': WHATEVER THE INPUT: true; the input reads as it did. -/
def lifeRunsSpec : ChangeSpec := { name := "lifeRuns", fn := fun _ => fun
  | [d1, d2, d3, d4] => { results := [.lit (.bool true)], args := [d1, d2, d3, d4] }
  | _ => none }
def lifeRunsRow : OpenClaim := { program := "ythcefohbbfjjfaagreat", sum := "c180006a6e0ef2fdef6389adf06e925cf0512a7c3a27df577d8c3641d482aef4", func := "bogie/bogielaw12.LifeRuns", spec := "lifeRuns", inPlace := ["internal/bytealg.IndexByteString", "slices.overlaps[bogie/api.Part]", "slices.overlaps[bogie/api.Prop]"], unfollowed := true, recurses := true, loops := true, plainKeys := false, apart := false }
def LifeRunsSaid : Prop := lifeRunsRow.holds Tryz.pinned (OpenSpec.ofChange lifeRunsSpec)

/-- ITS FALSE NEIGHBOUR: 'it returns false'. Refute it at one input. -/
def lifeRunsWrong : ChangeSpec := { name := "lifeRuns", fn := fun _ => fun
  | [d1, d2, d3, d4] => { results := [.lit (.bool false)], args := [d1, d2, d3, d4] }
  | _ => none }
def LifeRunsWrongFalsely : Prop := lifeRunsRow.holds Tryz.pinned (OpenSpec.ofChange lifeRunsWrong)

/-- 'bogielaw12.LifeMatchesReference': WHATEVER THE INPUT: true; the input reads as it did. -/
def lifeMatchesReferenceSpec : ChangeSpec := { name := "lifeMatchesReference", fn := fun _ => fun
  | [d1, d2, d3, d4, d5] => { results := [.lit (.bool true)], args := [d1, d2, d3, d4, d5] }
  | _ => none }
def lifeMatchesReferenceRow : OpenClaim := { program := "ythcefohbbfjjfaagreat", sum := "c180006a6e0ef2fdef6389adf06e925cf0512a7c3a27df577d8c3641d482aef4", func := "bogie/bogielaw12.LifeMatchesReference", spec := "lifeMatchesReference", inPlace := ["internal/bytealg.IndexByteString", "slices.overlaps[bogie/api.Part]", "slices.overlaps[bogie/api.Prop]"], unfollowed := true, recurses := true, loops := true, plainKeys := false, apart := false }
def LifeMatchesReferenceSaid : Prop := lifeMatchesReferenceRow.holds Tryz.pinned (OpenSpec.ofChange lifeMatchesReferenceSpec)

/-- ITS FALSE NEIGHBOUR: 'it returns false'. Refute it at one input. -/
def lifeMatchesReferenceWrong : ChangeSpec := { name := "lifeMatchesReference", fn := fun _ => fun
  | [d1, d2, d3, d4, d5] => { results := [.lit (.bool false)], args := [d1, d2, d3, d4, d5] }
  | _ => none }
def LifeMatchesReferenceWrongFalsely : Prop := lifeMatchesReferenceRow.holds Tryz.pinned (OpenSpec.ofChange lifeMatchesReferenceWrong)

/-- 'bogielaw12.LifeValues': WHATEVER THE INPUT: true; the input reads as it did. -/
def lifeValuesSpec : ChangeSpec := { name := "lifeValues", fn := fun _ => fun
  | [d1, d2, d3] => { results := [.lit (.bool true)], args := [d1, d2, d3] }
  | _ => none }
def lifeValuesRow : OpenClaim := { program := "ythcefohbbfjjfaagreat", sum := "c180006a6e0ef2fdef6389adf06e925cf0512a7c3a27df577d8c3641d482aef4", func := "bogie/bogielaw12.LifeValues", spec := "lifeValues", inPlace := ["internal/bytealg.IndexByteString", "slices.overlaps[bogie/api.Part]", "slices.overlaps[bogie/api.Prop]"], unfollowed := true, recurses := true, plainKeys := false, apart := false }
def LifeValuesSaid : Prop := lifeValuesRow.holds Tryz.pinned (OpenSpec.ofChange lifeValuesSpec)

/-- ITS FALSE NEIGHBOUR: 'it returns false'. Refute it at one input. -/
def lifeValuesWrong : ChangeSpec := { name := "lifeValues", fn := fun _ => fun
  | [d1, d2, d3] => { results := [.lit (.bool false)], args := [d1, d2, d3] }
  | _ => none }
def LifeValuesWrongFalsely : Prop := lifeValuesRow.holds Tryz.pinned (OpenSpec.ofChange lifeValuesWrong)

/-- 'bogielaw12.LifeOthers': WHATEVER THE INPUT: true; the input reads as it did. -/
def lifeOthersSpec : ChangeSpec := { name := "lifeOthers", fn := fun _ => fun
  | [d1, d2, d3] => { results := [.lit (.bool true)], args := [d1, d2, d3] }
  | _ => none }
def lifeOthersRow : OpenClaim := { program := "ythcefohbbfjjfaagreat", sum := "c180006a6e0ef2fdef6389adf06e925cf0512a7c3a27df577d8c3641d482aef4", func := "bogie/bogielaw12.LifeOthers", spec := "lifeOthers", inPlace := ["internal/bytealg.IndexByteString", "slices.overlaps[bogie/api.Part]", "slices.overlaps[bogie/api.Prop]"], unfollowed := true, recurses := true, loops := true, plainKeys := false, apart := false }
def LifeOthersSaid : Prop := lifeOthersRow.holds Tryz.pinned (OpenSpec.ofChange lifeOthersSpec)

/-- ITS FALSE NEIGHBOUR: 'it returns false'. Refute it at one input. -/
def lifeOthersWrong : ChangeSpec := { name := "lifeOthers", fn := fun _ => fun
  | [d1, d2, d3] => { results := [.lit (.bool false)], args := [d1, d2, d3] }
  | _ => none }
def LifeOthersWrongFalsely : Prop := lifeOthersRow.holds Tryz.pinned (OpenSpec.ofChange lifeOthersWrong)

/-- 'bogielaw12.LifeLater': WHATEVER THE INPUT: true; the input reads as it did. -/
def lifeLaterSpec : ChangeSpec := { name := "lifeLater", fn := fun _ => fun
  | [d1, d2, d3, d4] => { results := [.lit (.bool true)], args := [d1, d2, d3, d4] }
  | _ => none }
def lifeLaterRow : OpenClaim := { program := "ythcefohbbfjjfaagreat", sum := "c180006a6e0ef2fdef6389adf06e925cf0512a7c3a27df577d8c3641d482aef4", func := "bogie/bogielaw12.LifeLater", spec := "lifeLater", inPlace := ["internal/bytealg.IndexByteString", "slices.overlaps[bogie/api.Part]", "slices.overlaps[bogie/api.Prop]"], unfollowed := true, recurses := true, loops := true, plainKeys := false, apart := false }
def LifeLaterSaid : Prop := lifeLaterRow.holds Tryz.pinned (OpenSpec.ofChange lifeLaterSpec)

/-- ITS FALSE NEIGHBOUR: 'it returns false'. Refute it at one input. -/
def lifeLaterWrong : ChangeSpec := { name := "lifeLater", fn := fun _ => fun
  | [d1, d2, d3, d4] => { results := [.lit (.bool false)], args := [d1, d2, d3, d4] }
  | _ => none }
def LifeLaterWrongFalsely : Prop := lifeLaterRow.holds Tryz.pinned (OpenSpec.ofChange lifeLaterWrong)

/-- 'bogielaw12.LifeStates': WHATEVER THE INPUT: true; the input reads as it did. -/
def lifeStatesSpec : ChangeSpec := { name := "lifeStates", fn := fun _ => fun
  | [d1, d2, d3] => { results := [.lit (.bool true)], args := [d1, d2, d3] }
  | _ => none }
def lifeStatesRow : OpenClaim := { program := "ythcefohbbfjjfaagreat", sum := "c180006a6e0ef2fdef6389adf06e925cf0512a7c3a27df577d8c3641d482aef4", func := "bogie/bogielaw12.LifeStates", spec := "lifeStates", inPlace := ["internal/bytealg.IndexByteString", "slices.overlaps[bogie/api.Part]", "slices.overlaps[bogie/api.Prop]"], unfollowed := true, recurses := true, loops := true, plainKeys := false, apart := false }
def LifeStatesSaid : Prop := lifeStatesRow.holds Tryz.pinned (OpenSpec.ofChange lifeStatesSpec)

/-- ITS FALSE NEIGHBOUR: 'it returns false'. Refute it at one input. -/
def lifeStatesWrong : ChangeSpec := { name := "lifeStates", fn := fun _ => fun
  | [d1, d2, d3] => { results := [.lit (.bool false)], args := [d1, d2, d3] }
  | _ => none }
def LifeStatesWrongFalsely : Prop := lifeStatesRow.holds Tryz.pinned (OpenSpec.ofChange lifeStatesWrong)

/- THE SECOND FORM. 'bulk': how many values and letters a reading holds, each counted each time it is reached (what is shared counts as often as it is met; a slice's spare places count too). A statement '..UptoSaid' is the law's where the arguments, and the package variables that the reading takes, are together of bulk at most 1048576: NARROWER than '..Said'. Prove '..Said' where nothing that the law and all that it calls make is longer than what came in: it says more and counts as full. Else prove '..UptoSaid'. A law counts once. -/
mutual
def uptoBulk {H : Type} : DataW H → Nat
  | .lit (.string bytes) => bytes.length + 1
  | .lit _ => 1
  | .nil => 1
  | .ptr d => uptoBulk d + 1
  | .slice elems spare => uptoBulkAll elems + uptoBulkAll spare + 1
  | .agg parts => uptoBulkAll parts + 1
  | .iface _ d => uptoBulk d + 1
  | .map entries => uptoBulkEntries entries + 1
  | .held _ => 1
def uptoBulkAll {H : Type} : List (DataW H) → Nat
  | [] => 0
  | d :: r => uptoBulk d + uptoBulkAll r
def uptoBulkEntries {H : Type} : List (Lit × DataW H) → Nat
  | [] => 0
  | x :: r => uptoBulkEntry x + uptoBulkEntries r
def uptoBulkEntry {H : Type} : Lit × DataW H → Nat
  | (.string bytes, d) => bytes.length + uptoBulk d + 1
  | (_, d) => uptoBulk d + 1
 end
def uptoSmall : (H : Type) → List (DataW H) → Bool := fun _ ds => decide (uptoBulkAll ds ≤ 1048576)
def OpenSpec.upto (s : _root_.Go.ChangeSpec) : _root_.Go.OpenSpec := { _root_.Go.OpenSpec.ofChange s with cond := some uptoSmall }

/-- 'bogielaw12.LifeRuns', WHERE WHAT IT READS IS OF BULK AT MOST 1048576: true; the input reads as it did. -/
def lifeRunsUptoRow : OpenClaim := { program := "ythcefohbbfjjfaagreat", sum := "c180006a6e0ef2fdef6389adf06e925cf0512a7c3a27df577d8c3641d482aef4", func := "bogie/bogielaw12.LifeRuns", spec := "lifeRuns", inPlace := ["internal/bytealg.IndexByteString", "slices.overlaps[bogie/api.Part]", "slices.overlaps[bogie/api.Prop]"], unfollowed := true, recurses := true, loops := true, plainKeys := false, apart := false, narrowed := true }
def LifeRunsUptoSaid : Prop := lifeRunsUptoRow.holds Tryz.pinned (OpenSpec.upto lifeRunsSpec)

/-- 'bogielaw12.LifeMatchesReference', WHERE WHAT IT READS IS OF BULK AT MOST 1048576: true; the input reads as it did. -/
def lifeMatchesReferenceUptoRow : OpenClaim := { program := "ythcefohbbfjjfaagreat", sum := "c180006a6e0ef2fdef6389adf06e925cf0512a7c3a27df577d8c3641d482aef4", func := "bogie/bogielaw12.LifeMatchesReference", spec := "lifeMatchesReference", inPlace := ["internal/bytealg.IndexByteString", "slices.overlaps[bogie/api.Part]", "slices.overlaps[bogie/api.Prop]"], unfollowed := true, recurses := true, loops := true, plainKeys := false, apart := false, narrowed := true }
def LifeMatchesReferenceUptoSaid : Prop := lifeMatchesReferenceUptoRow.holds Tryz.pinned (OpenSpec.upto lifeMatchesReferenceSpec)

/-- 'bogielaw12.LifeValues', WHERE WHAT IT READS IS OF BULK AT MOST 1048576: true; the input reads as it did. -/
def lifeValuesUptoRow : OpenClaim := { program := "ythcefohbbfjjfaagreat", sum := "c180006a6e0ef2fdef6389adf06e925cf0512a7c3a27df577d8c3641d482aef4", func := "bogie/bogielaw12.LifeValues", spec := "lifeValues", inPlace := ["internal/bytealg.IndexByteString", "slices.overlaps[bogie/api.Part]", "slices.overlaps[bogie/api.Prop]"], unfollowed := true, recurses := true, plainKeys := false, apart := false, narrowed := true }
def LifeValuesUptoSaid : Prop := lifeValuesUptoRow.holds Tryz.pinned (OpenSpec.upto lifeValuesSpec)

/-- 'bogielaw12.LifeOthers', WHERE WHAT IT READS IS OF BULK AT MOST 1048576: true; the input reads as it did. -/
def lifeOthersUptoRow : OpenClaim := { program := "ythcefohbbfjjfaagreat", sum := "c180006a6e0ef2fdef6389adf06e925cf0512a7c3a27df577d8c3641d482aef4", func := "bogie/bogielaw12.LifeOthers", spec := "lifeOthers", inPlace := ["internal/bytealg.IndexByteString", "slices.overlaps[bogie/api.Part]", "slices.overlaps[bogie/api.Prop]"], unfollowed := true, recurses := true, loops := true, plainKeys := false, apart := false, narrowed := true }
def LifeOthersUptoSaid : Prop := lifeOthersUptoRow.holds Tryz.pinned (OpenSpec.upto lifeOthersSpec)

/-- 'bogielaw12.LifeLater', WHERE WHAT IT READS IS OF BULK AT MOST 1048576: true; the input reads as it did. -/
def lifeLaterUptoRow : OpenClaim := { program := "ythcefohbbfjjfaagreat", sum := "c180006a6e0ef2fdef6389adf06e925cf0512a7c3a27df577d8c3641d482aef4", func := "bogie/bogielaw12.LifeLater", spec := "lifeLater", inPlace := ["internal/bytealg.IndexByteString", "slices.overlaps[bogie/api.Part]", "slices.overlaps[bogie/api.Prop]"], unfollowed := true, recurses := true, loops := true, plainKeys := false, apart := false, narrowed := true }
def LifeLaterUptoSaid : Prop := lifeLaterUptoRow.holds Tryz.pinned (OpenSpec.upto lifeLaterSpec)

/-- 'bogielaw12.LifeStates', WHERE WHAT IT READS IS OF BULK AT MOST 1048576: true; the input reads as it did. -/
def lifeStatesUptoRow : OpenClaim := { program := "ythcefohbbfjjfaagreat", sum := "c180006a6e0ef2fdef6389adf06e925cf0512a7c3a27df577d8c3641d482aef4", func := "bogie/bogielaw12.LifeStates", spec := "lifeStates", inPlace := ["internal/bytealg.IndexByteString", "slices.overlaps[bogie/api.Part]", "slices.overlaps[bogie/api.Prop]"], unfollowed := true, recurses := true, loops := true, plainKeys := false, apart := false, narrowed := true }
def LifeStatesUptoSaid : Prop := lifeStatesUptoRow.holds Tryz.pinned (OpenSpec.upto lifeStatesSpec)

end Rows
end Go.Proofs.YthcefohbbfjjfaaGreat
