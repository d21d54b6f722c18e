/-
  No cell of these rows narrows 'for every input' (looked for: loops, veiled, ifaces, maps, wideKeys, modest, calm, conditions, laid).
  DERIVED. THE GIVEN ROWS OF THIS SEAT. 7 by the template 'for every input the law returns true; each argument reads behind the call as it read before'; 0 by the template 'total and deterministic' (their statements: YtdkjmaoelojpeaaGreatTotals.lean).
  GIVEN WITH THE SEED: the statements are not yours to turn. If you find one false, say at which input.
  Laid BY PROGRAM, IN A SANDBOX (cutbox-rows.mjs): the forced cells as the released guide's own fill.sh prints them over the translation 5974005f3ff159e7… (all of the seat's roots in one cut). By AI agents, Wed Nov 11 2026. No macro, syntax, notation, axiom, sorry.
-/
import Derived.Test.YtdkjmaoelojpeaaGreatChecked
import GoSem.Claim
import GoSem.ClaimJoined
import GoSem.ClaimMapViews
import Derived.JoinedTies
import Derived.KernelRfl
namespace Go.Proofs.YtdkjmaoelojpeaaGreat
/- THE CELL 'sum', in the pinned program and in every row, IS THE sha256 OF THE DUMP (.gsa) THAT YtdkjmaoelojpeaaGreatProg.lean LOADS. Nothing in Lean hashes anything: it is a label: what it is worth is what the hold of that sum in a sandbox is worth. -/
noncomputable def Tryz.pinned : Pinned := { name := "ytdkjmaoelojpeaagreat", sum := "5974005f3ff159e75d33eaa1fa21225c75c8d657fd3d6a306b05f595a61000fc", checked := Tryz.checked }
namespace Rows
def none {H : Type} : Left H := { results := [], args := [] }

/-- 'bogielaw26.DutyMatchesReference': WHATEVER THE INPUT: true; the input reads as it did. -/
def dutyMatchesReferenceSpec : ChangeSpec := { name := "dutyMatchesReference", fn := fun _ => fun
  | [d1, d2, d3, d4, d5] => { results := [.lit (.bool true)], args := [d1, d2, d3, d4, d5] }
  | _ => none }
def dutyMatchesReferenceRow : OpenClaim := { program := "ytdkjmaoelojpeaagreat", sum := "5974005f3ff159e75d33eaa1fa21225c75c8d657fd3d6a306b05f595a61000fc", func := "bogie/bogielaw26.DutyMatchesReference", spec := "dutyMatchesReference", inPlace := ["internal/bytealg.IndexByteString", "slices.overlaps[bogie/api.Part]", "slices.overlaps[bogie/api.Prop]", "internal/bytealg.abigen_runtime_cmpstring"], unfollowed := true, recurses := true, plainKeys := false, apart := false }
def DutyMatchesReferenceSaid : Prop := dutyMatchesReferenceRow.holds Tryz.pinned (OpenSpec.ofChange dutyMatchesReferenceSpec)

/-- ITS FALSE NEIGHBOUR: 'it returns false'. Refute it at one input. -/
def dutyMatchesReferenceWrong : ChangeSpec := { name := "dutyMatchesReference", fn := fun _ => fun
  | [d1, d2, d3, d4, d5] => { results := [.lit (.bool false)], args := [d1, d2, d3, d4, d5] }
  | _ => none }
def DutyMatchesReferenceWrongFalsely : Prop := dutyMatchesReferenceRow.holds Tryz.pinned (OpenSpec.ofChange dutyMatchesReferenceWrong)

/-- 'bogielaw26.DutyAlone': WHATEVER THE INPUT: true; the input reads as it did. -/
def dutyAloneSpec : ChangeSpec := { name := "dutyAlone", fn := fun _ => fun
  | [d1, d2, d3, d4, d5] => { results := [.lit (.bool true)], args := [d1, d2, d3, d4, d5] }
  | _ => none }
def dutyAloneRow : OpenClaim := { program := "ytdkjmaoelojpeaagreat", sum := "5974005f3ff159e75d33eaa1fa21225c75c8d657fd3d6a306b05f595a61000fc", func := "bogie/bogielaw26.DutyAlone", spec := "dutyAlone", inPlace := ["internal/bytealg.IndexByteString", "slices.overlaps[bogie/api.Part]", "slices.overlaps[bogie/api.Prop]", "internal/bytealg.abigen_runtime_cmpstring"], unfollowed := true, recurses := true, plainKeys := false, apart := false }
def DutyAloneSaid : Prop := dutyAloneRow.holds Tryz.pinned (OpenSpec.ofChange dutyAloneSpec)

/-- ITS FALSE NEIGHBOUR: 'it returns false'. Refute it at one input. -/
def dutyAloneWrong : ChangeSpec := { name := "dutyAlone", fn := fun _ => fun
  | [d1, d2, d3, d4, d5] => { results := [.lit (.bool false)], args := [d1, d2, d3, d4, d5] }
  | _ => none }
def DutyAloneWrongFalsely : Prop := dutyAloneRow.holds Tryz.pinned (OpenSpec.ofChange dutyAloneWrong)

/-- 'bogielaw26.DutyNoted': WHATEVER THE INPUT: true; the input reads as it did. -/
def dutyNotedSpec : ChangeSpec := { name := "dutyNoted", fn := fun _ => fun
  | [d1, d2, d3, d4, d5, d6] => { results := [.lit (.bool true)], args := [d1, d2, d3, d4, d5, d6] }
  | _ => none }
def dutyNotedRow : OpenClaim := { program := "ytdkjmaoelojpeaagreat", sum := "5974005f3ff159e75d33eaa1fa21225c75c8d657fd3d6a306b05f595a61000fc", func := "bogie/bogielaw26.DutyNoted", spec := "dutyNoted", inPlace := ["internal/bytealg.IndexByteString", "slices.overlaps[bogie/api.Part]", "slices.overlaps[bogie/api.Prop]", "internal/bytealg.abigen_runtime_cmpstring"], unfollowed := true, recurses := true, plainKeys := false, apart := false }
def DutyNotedSaid : Prop := dutyNotedRow.holds Tryz.pinned (OpenSpec.ofChange dutyNotedSpec)

/-- ITS FALSE NEIGHBOUR: 'it returns false'. Refute it at one input. -/
def dutyNotedWrong : ChangeSpec := { name := "dutyNoted", fn := fun _ => fun
  | [d1, d2, d3, d4, d5, d6] => { results := [.lit (.bool false)], args := [d1, d2, d3, d4, d5, d6] }
  | _ => none }
def DutyNotedWrongFalsely : Prop := dutyNotedRow.holds Tryz.pinned (OpenSpec.ofChange dutyNotedWrong)

/-- 'bogielaw26.DutyLate': WHATEVER THE INPUT: true; the input reads as it did. -/
def dutyLateSpec : ChangeSpec := { name := "dutyLate", fn := fun _ => fun
  | [d1, d2, d3, d4, d5, d6] => { results := [.lit (.bool true)], args := [d1, d2, d3, d4, d5, d6] }
  | _ => none }
def dutyLateRow : OpenClaim := { program := "ytdkjmaoelojpeaagreat", sum := "5974005f3ff159e75d33eaa1fa21225c75c8d657fd3d6a306b05f595a61000fc", func := "bogie/bogielaw26.DutyLate", spec := "dutyLate", inPlace := ["internal/bytealg.IndexByteString", "slices.overlaps[bogie/api.Part]", "slices.overlaps[bogie/api.Prop]", "internal/bytealg.abigen_runtime_cmpstring"], unfollowed := true, recurses := true, plainKeys := false, apart := false }
def DutyLateSaid : Prop := dutyLateRow.holds Tryz.pinned (OpenSpec.ofChange dutyLateSpec)

/-- ITS FALSE NEIGHBOUR: 'it returns false'. Refute it at one input. -/
def dutyLateWrong : ChangeSpec := { name := "dutyLate", fn := fun _ => fun
  | [d1, d2, d3, d4, d5, d6] => { results := [.lit (.bool false)], args := [d1, d2, d3, d4, d5, d6] }
  | _ => none }
def DutyLateWrongFalsely : Prop := dutyLateRow.holds Tryz.pinned (OpenSpec.ofChange dutyLateWrong)

/-- 'bogielaw26.DutyEnds': WHATEVER THE INPUT: true; the input reads as it did. -/
def dutyEndsSpec : ChangeSpec := { name := "dutyEnds", fn := fun _ => fun
  | [d1, d2, d3, d4, d5, d6] => { results := [.lit (.bool true)], args := [d1, d2, d3, d4, d5, d6] }
  | _ => none }
def dutyEndsRow : OpenClaim := { program := "ytdkjmaoelojpeaagreat", sum := "5974005f3ff159e75d33eaa1fa21225c75c8d657fd3d6a306b05f595a61000fc", func := "bogie/bogielaw26.DutyEnds", spec := "dutyEnds", inPlace := ["internal/bytealg.IndexByteString", "slices.overlaps[bogie/api.Part]", "slices.overlaps[bogie/api.Prop]", "internal/bytealg.abigen_runtime_cmpstring"], unfollowed := true, recurses := true, plainKeys := false, apart := false }
def DutyEndsSaid : Prop := dutyEndsRow.holds Tryz.pinned (OpenSpec.ofChange dutyEndsSpec)

/-- ITS FALSE NEIGHBOUR: 'it returns false'. Refute it at one input. -/
def dutyEndsWrong : ChangeSpec := { name := "dutyEnds", fn := fun _ => fun
  | [d1, d2, d3, d4, d5, d6] => { results := [.lit (.bool false)], args := [d1, d2, d3, d4, d5, d6] }
  | _ => none }
def DutyEndsWrongFalsely : Prop := dutyEndsRow.holds Tryz.pinned (OpenSpec.ofChange dutyEndsWrong)

/-- 'bogielaw26.DutyOthers': WHATEVER THE INPUT: true; the input reads as it did. -/
def dutyOthersSpec : ChangeSpec := { name := "dutyOthers", fn := fun _ => fun
  | [d1, d2, d3, d4, d5, d6, d7] => { results := [.lit (.bool true)], args := [d1, d2, d3, d4, d5, d6, d7] }
  | _ => none }
def dutyOthersRow : OpenClaim := { program := "ytdkjmaoelojpeaagreat", sum := "5974005f3ff159e75d33eaa1fa21225c75c8d657fd3d6a306b05f595a61000fc", func := "bogie/bogielaw26.DutyOthers", spec := "dutyOthers", inPlace := ["internal/bytealg.IndexByteString", "slices.overlaps[bogie/api.Part]", "slices.overlaps[bogie/api.Prop]", "internal/bytealg.abigen_runtime_cmpstring"], unfollowed := true, recurses := true, plainKeys := false, apart := false }
def DutyOthersSaid : Prop := dutyOthersRow.holds Tryz.pinned (OpenSpec.ofChange dutyOthersSpec)

/-- ITS FALSE NEIGHBOUR: 'it returns false'. Refute it at one input. -/
def dutyOthersWrong : ChangeSpec := { name := "dutyOthers", fn := fun _ => fun
  | [d1, d2, d3, d4, d5, d6, d7] => { results := [.lit (.bool false)], args := [d1, d2, d3, d4, d5, d6, d7] }
  | _ => none }
def DutyOthersWrongFalsely : Prop := dutyOthersRow.holds Tryz.pinned (OpenSpec.ofChange dutyOthersWrong)

/-- 'bogielaw26.DutyLonger': WHATEVER THE INPUT: true; the input reads as it did. -/
def dutyLongerSpec : ChangeSpec := { name := "dutyLonger", fn := fun _ => fun
  | [d1, d2, d3, d4, d5, d6] => { results := [.lit (.bool true)], args := [d1, d2, d3, d4, d5, d6] }
  | _ => none }
def dutyLongerRow : OpenClaim := { program := "ytdkjmaoelojpeaagreat", sum := "5974005f3ff159e75d33eaa1fa21225c75c8d657fd3d6a306b05f595a61000fc", func := "bogie/bogielaw26.DutyLonger", spec := "dutyLonger", inPlace := ["internal/bytealg.IndexByteString", "slices.overlaps[bogie/api.Part]", "slices.overlaps[bogie/api.Prop]", "internal/bytealg.abigen_runtime_cmpstring"], unfollowed := true, recurses := true, plainKeys := false, apart := false }
def DutyLongerSaid : Prop := dutyLongerRow.holds Tryz.pinned (OpenSpec.ofChange dutyLongerSpec)

/-- ITS FALSE NEIGHBOUR: 'it returns false'. Refute it at one input. -/
def dutyLongerWrong : ChangeSpec := { name := "dutyLonger", fn := fun _ => fun
  | [d1, d2, d3, d4, d5, d6] => { results := [.lit (.bool false)], args := [d1, d2, d3, d4, d5, d6] }
  | _ => none }
def DutyLongerWrongFalsely : Prop := dutyLongerRow.holds Tryz.pinned (OpenSpec.ofChange dutyLongerWrong)

/- THE SECOND FORM. 'bulk': how many values and letters a reading holds, each counted each time it is reached (what is shared counts as often as it is met; a slice's spare places count too). A statement '..UptoSaid' is the law's where the arguments, and the package variables that the reading takes, are together of bulk at most 1048576: NARROWER than '..Said'. Prove '..Said' where nothing that the law and all that it calls make is longer than what came in: it says more and counts as full. Else prove '..UptoSaid'. A law counts once. -/
mutual
def uptoBulk {H : Type} : DataW H → Nat
  | .lit (.string bytes) => bytes.length + 1
  | .lit _ => 1
  | .nil => 1
  | .ptr d => uptoBulk d + 1
  | .slice elems spare => uptoBulkAll elems + uptoBulkAll spare + 1
  | .agg parts => uptoBulkAll parts + 1
  | .iface _ d => uptoBulk d + 1
  | .map entries => uptoBulkEntries entries + 1
  | .held _ => 1
def uptoBulkAll {H : Type} : List (DataW H) → Nat
  | [] => 0
  | d :: r => uptoBulk d + uptoBulkAll r
def uptoBulkEntries {H : Type} : List (Lit × DataW H) → Nat
  | [] => 0
  | x :: r => uptoBulkEntry x + uptoBulkEntries r
def uptoBulkEntry {H : Type} : Lit × DataW H → Nat
  | (.string bytes, d) => bytes.length + uptoBulk d + 1
  | (_, d) => uptoBulk d + 1
 end
def uptoSmall : (H : Type) → List (DataW H) → Bool := fun _ ds => decide (uptoBulkAll ds ≤ 1048576)
def OpenSpec.upto (s : _root_.Go.ChangeSpec) : _root_.Go.OpenSpec := { _root_.Go.OpenSpec.ofChange s with cond := some uptoSmall }

/-- 'bogielaw26.DutyMatchesReference', WHERE WHAT IT READS IS OF BULK AT MOST 1048576: true; the input reads as it did. -/
def dutyMatchesReferenceUptoRow : OpenClaim := { program := "ytdkjmaoelojpeaagreat", sum := "5974005f3ff159e75d33eaa1fa21225c75c8d657fd3d6a306b05f595a61000fc", func := "bogie/bogielaw26.DutyMatchesReference", spec := "dutyMatchesReference", inPlace := ["internal/bytealg.IndexByteString", "slices.overlaps[bogie/api.Part]", "slices.overlaps[bogie/api.Prop]", "internal/bytealg.abigen_runtime_cmpstring"], unfollowed := true, recurses := true, plainKeys := false, apart := false, narrowed := true }
def DutyMatchesReferenceUptoSaid : Prop := dutyMatchesReferenceUptoRow.holds Tryz.pinned (OpenSpec.upto dutyMatchesReferenceSpec)

/-- 'bogielaw26.DutyAlone', WHERE WHAT IT READS IS OF BULK AT MOST 1048576: true; the input reads as it did. -/
def dutyAloneUptoRow : OpenClaim := { program := "ytdkjmaoelojpeaagreat", sum := "5974005f3ff159e75d33eaa1fa21225c75c8d657fd3d6a306b05f595a61000fc", func := "bogie/bogielaw26.DutyAlone", spec := "dutyAlone", inPlace := ["internal/bytealg.IndexByteString", "slices.overlaps[bogie/api.Part]", "slices.overlaps[bogie/api.Prop]", "internal/bytealg.abigen_runtime_cmpstring"], unfollowed := true, recurses := true, plainKeys := false, apart := false, narrowed := true }
def DutyAloneUptoSaid : Prop := dutyAloneUptoRow.holds Tryz.pinned (OpenSpec.upto dutyAloneSpec)

/-- 'bogielaw26.DutyNoted', WHERE WHAT IT READS IS OF BULK AT MOST 1048576: true; the input reads as it did. -/
def dutyNotedUptoRow : OpenClaim := { program := "ytdkjmaoelojpeaagreat", sum := "5974005f3ff159e75d33eaa1fa21225c75c8d657fd3d6a306b05f595a61000fc", func := "bogie/bogielaw26.DutyNoted", spec := "dutyNoted", inPlace := ["internal/bytealg.IndexByteString", "slices.overlaps[bogie/api.Part]", "slices.overlaps[bogie/api.Prop]", "internal/bytealg.abigen_runtime_cmpstring"], unfollowed := true, recurses := true, plainKeys := false, apart := false, narrowed := true }
def DutyNotedUptoSaid : Prop := dutyNotedUptoRow.holds Tryz.pinned (OpenSpec.upto dutyNotedSpec)

/-- 'bogielaw26.DutyLate', WHERE WHAT IT READS IS OF BULK AT MOST 1048576: true; the input reads as it did. -/
def dutyLateUptoRow : OpenClaim := { program := "ytdkjmaoelojpeaagreat", sum := "5974005f3ff159e75d33eaa1fa21225c75c8d657fd3d6a306b05f595a61000fc", func := "bogie/bogielaw26.DutyLate", spec := "dutyLate", inPlace := ["internal/bytealg.IndexByteString", "slices.overlaps[bogie/api.Part]", "slices.overlaps[bogie/api.Prop]", "internal/bytealg.abigen_runtime_cmpstring"], unfollowed := true, recurses := true, plainKeys := false, apart := false, narrowed := true }
def DutyLateUptoSaid : Prop := dutyLateUptoRow.holds Tryz.pinned (OpenSpec.upto dutyLateSpec)

/-- 'bogielaw26.DutyEnds', WHERE WHAT IT READS IS OF BULK AT MOST 1048576: true; the input reads as it did. -/
def dutyEndsUptoRow : OpenClaim := { program := "ytdkjmaoelojpeaagreat", sum := "5974005f3ff159e75d33eaa1fa21225c75c8d657fd3d6a306b05f595a61000fc", func := "bogie/bogielaw26.DutyEnds", spec := "dutyEnds", inPlace := ["internal/bytealg.IndexByteString", "slices.overlaps[bogie/api.Part]", "slices.overlaps[bogie/api.Prop]", "internal/bytealg.abigen_runtime_cmpstring"], unfollowed := true, recurses := true, plainKeys := false, apart := false, narrowed := true }
def DutyEndsUptoSaid : Prop := dutyEndsUptoRow.holds Tryz.pinned (OpenSpec.upto dutyEndsSpec)

/-- 'bogielaw26.DutyOthers', WHERE WHAT IT READS IS OF BULK AT MOST 1048576: true; the input reads as it did. -/
def dutyOthersUptoRow : OpenClaim := { program := "ytdkjmaoelojpeaagreat", sum := "5974005f3ff159e75d33eaa1fa21225c75c8d657fd3d6a306b05f595a61000fc", func := "bogie/bogielaw26.DutyOthers", spec := "dutyOthers", inPlace := ["internal/bytealg.IndexByteString", "slices.overlaps[bogie/api.Part]", "slices.overlaps[bogie/api.Prop]", "internal/bytealg.abigen_runtime_cmpstring"], unfollowed := true, recurses := true, plainKeys := false, apart := false, narrowed := true }
def DutyOthersUptoSaid : Prop := dutyOthersUptoRow.holds Tryz.pinned (OpenSpec.upto dutyOthersSpec)

/-- 'bogielaw26.DutyLonger', WHERE WHAT IT READS IS OF BULK AT MOST 1048576: true; the input reads as it did. -/
def dutyLongerUptoRow : OpenClaim := { program := "ytdkjmaoelojpeaagreat", sum := "5974005f3ff159e75d33eaa1fa21225c75c8d657fd3d6a306b05f595a61000fc", func := "bogie/bogielaw26.DutyLonger", spec := "dutyLonger", inPlace := ["internal/bytealg.IndexByteString", "slices.overlaps[bogie/api.Part]", "slices.overlaps[bogie/api.Prop]", "internal/bytealg.abigen_runtime_cmpstring"], unfollowed := true, recurses := true, plainKeys := false, apart := false, narrowed := true }
def DutyLongerUptoSaid : Prop := dutyLongerUptoRow.holds Tryz.pinned (OpenSpec.upto dutyLongerSpec)

end Rows
end Go.Proofs.YtdkjmaoelojpeaaGreat
