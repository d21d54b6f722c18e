/-
  NARROWER THAN 'FOR EVERY INPUT', by the rows' own cells (each row's printed sentence says how): TopLate: loops · TopExact: loops · TopSafe: loops · TopDecided: loops.
  DERIVED. THE GIVEN ROWS OF THIS SEAT. 4 by the template 'for every input the law returns true; each argument reads behind the call as it read before'; 0 by the template 'total and deterministic' (their statements: YtgmkjpafapgccaaGreatTotals.lean).
  GIVEN WITH THE SEED: the statements are not yours to turn. If you find one false, say at which input.
  Laid BY PROGRAM, IN A SANDBOX (cutbox-rows.mjs): the forced cells as the released guide's own fill.sh prints them over the translation 7044f0eae53aa715… (all of the seat's roots in one cut). By AI agents, Wed Nov 11 2026. No macro, syntax, notation, axiom, sorry.
-/
import Derived.Test.YtgmkjpafapgccaaGreatChecked
import GoSem.Claim
import GoSem.ClaimJoined
import GoSem.ClaimMapViews
import Derived.JoinedTies
import Derived.KernelRfl
namespace Go.Proofs.YtgmkjpafapgccaaGreat
/- THE CELL 'sum', in the pinned program and in every row, IS THE sha256 OF THE DUMP (.gsa) THAT YtgmkjpafapgccaaGreatProg.lean LOADS. Nothing in Lean hashes anything: it is a label: what it is worth is what the hold of that sum in a sandbox is worth. -/
noncomputable def Tryz.pinned : Pinned := { name := "ytgmkjpafapgccaagreat", sum := "7044f0eae53aa7152901b6798ae0c90b1082cb4d01fda3da72fb26398555e634", checked := Tryz.checked }
namespace Rows
def none {H : Type} : Left H := { results := [], args := [] }

/-- 'bogietop.TopLate': WHATEVER THE INPUT: true; the input reads as it did. -/
def topLateSpec : ChangeSpec := { name := "topLate", fn := fun _ => fun
  | [d1, d2, d3, d4, d5, d6, d7, d8] => { results := [.lit (.bool true)], args := [d1, d2, d3, d4, d5, d6, d7, d8] }
  | _ => none }
def topLateRow : OpenClaim := { program := "ytgmkjpafapgccaagreat", sum := "7044f0eae53aa7152901b6798ae0c90b1082cb4d01fda3da72fb26398555e634", func := "bogie/bogietop.TopLate", spec := "topLate", inPlace := ["internal/bytealg.IndexByteString", "slices.overlaps[bogie/api.Part]", "slices.overlaps[bogie/api.Prop]"], unfollowed := true, recurses := true, loops := true, plainKeys := false, apart := false }
def TopLateSaid : Prop := topLateRow.holds Tryz.pinned (OpenSpec.ofChange topLateSpec)

/-- ITS FALSE NEIGHBOUR: 'it returns false'. Refute it at one input. -/
def topLateWrong : ChangeSpec := { name := "topLate", fn := fun _ => fun
  | [d1, d2, d3, d4, d5, d6, d7, d8] => { results := [.lit (.bool false)], args := [d1, d2, d3, d4, d5, d6, d7, d8] }
  | _ => none }
def TopLateWrongFalsely : Prop := topLateRow.holds Tryz.pinned (OpenSpec.ofChange topLateWrong)

/-- 'bogietop.TopExact': WHATEVER THE INPUT: true; the input reads as it did. -/
def topExactSpec : ChangeSpec := { name := "topExact", fn := fun _ => fun
  | [d1, d2, d3, d4, d5] => { results := [.lit (.bool true)], args := [d1, d2, d3, d4, d5] }
  | _ => none }
def topExactRow : OpenClaim := { program := "ytgmkjpafapgccaagreat", sum := "7044f0eae53aa7152901b6798ae0c90b1082cb4d01fda3da72fb26398555e634", func := "bogie/bogietop.TopExact", spec := "topExact", inPlace := ["internal/bytealg.IndexByteString", "slices.overlaps[bogie/api.Part]", "slices.overlaps[bogie/api.Prop]"], unfollowed := true, recurses := true, loops := true, plainKeys := false, apart := false }
def TopExactSaid : Prop := topExactRow.holds Tryz.pinned (OpenSpec.ofChange topExactSpec)

/-- ITS FALSE NEIGHBOUR: 'it returns false'. Refute it at one input. -/
def topExactWrong : ChangeSpec := { name := "topExact", fn := fun _ => fun
  | [d1, d2, d3, d4, d5] => { results := [.lit (.bool false)], args := [d1, d2, d3, d4, d5] }
  | _ => none }
def TopExactWrongFalsely : Prop := topExactRow.holds Tryz.pinned (OpenSpec.ofChange topExactWrong)

/-- 'bogietop.TopSafe': WHATEVER THE INPUT: true; the input reads as it did. -/
def topSafeSpec : ChangeSpec := { name := "topSafe", fn := fun _ => fun
  | [d1, d2, d3, d4, d5, d6] => { results := [.lit (.bool true)], args := [d1, d2, d3, d4, d5, d6] }
  | _ => none }
def topSafeRow : OpenClaim := { program := "ytgmkjpafapgccaagreat", sum := "7044f0eae53aa7152901b6798ae0c90b1082cb4d01fda3da72fb26398555e634", func := "bogie/bogietop.TopSafe", spec := "topSafe", inPlace := ["internal/bytealg.IndexByteString", "slices.overlaps[bogie/api.Part]", "slices.overlaps[bogie/api.Prop]"], unfollowed := true, recurses := true, loops := true, plainKeys := false, apart := false }
def TopSafeSaid : Prop := topSafeRow.holds Tryz.pinned (OpenSpec.ofChange topSafeSpec)

/-- ITS FALSE NEIGHBOUR: 'it returns false'. Refute it at one input. -/
def topSafeWrong : ChangeSpec := { name := "topSafe", fn := fun _ => fun
  | [d1, d2, d3, d4, d5, d6] => { results := [.lit (.bool false)], args := [d1, d2, d3, d4, d5, d6] }
  | _ => none }
def TopSafeWrongFalsely : Prop := topSafeRow.holds Tryz.pinned (OpenSpec.ofChange topSafeWrong)

/-- 'bogietop.TopDecided': WHATEVER THE INPUT: true; the input reads as it did. -/
def topDecidedSpec : ChangeSpec := { name := "topDecided", fn := fun _ => fun
  | [d1, d2, d3, d4, d5, d6] => { results := [.lit (.bool true)], args := [d1, d2, d3, d4, d5, d6] }
  | _ => none }
def topDecidedRow : OpenClaim := { program := "ytgmkjpafapgccaagreat", sum := "7044f0eae53aa7152901b6798ae0c90b1082cb4d01fda3da72fb26398555e634", func := "bogie/bogietop.TopDecided", spec := "topDecided", inPlace := ["internal/bytealg.IndexByteString", "slices.overlaps[bogie/api.Part]", "slices.overlaps[bogie/api.Prop]"], unfollowed := true, recurses := true, loops := true, plainKeys := false, apart := false }
def TopDecidedSaid : Prop := topDecidedRow.holds Tryz.pinned (OpenSpec.ofChange topDecidedSpec)

/-- ITS FALSE NEIGHBOUR: 'it returns false'. Refute it at one input. -/
def topDecidedWrong : ChangeSpec := { name := "topDecided", fn := fun _ => fun
  | [d1, d2, d3, d4, d5, d6] => { results := [.lit (.bool false)], args := [d1, d2, d3, d4, d5, d6] }
  | _ => none }
def TopDecidedWrongFalsely : Prop := topDecidedRow.holds Tryz.pinned (OpenSpec.ofChange topDecidedWrong)

/- THE SECOND FORM. 'bulk': how many values and letters a reading holds, each counted each time it is reached (what is shared counts as often as it is met; a slice's spare places count too). A statement '..UptoSaid' is the law's where the arguments, and the package variables that the reading takes, are together of bulk at most 1048576: NARROWER than '..Said'. Prove '..Said' where nothing that the law and all that it calls make is longer than what came in: it says more and counts as full. Else prove '..UptoSaid'. A law counts once. -/
mutual
def uptoBulk {H : Type} : DataW H → Nat
  | .lit (.string bytes) => bytes.length + 1
  | .lit _ => 1
  | .nil => 1
  | .ptr d => uptoBulk d + 1
  | .slice elems spare => uptoBulkAll elems + uptoBulkAll spare + 1
  | .agg parts => uptoBulkAll parts + 1
  | .iface _ d => uptoBulk d + 1
  | .map entries => uptoBulkEntries entries + 1
  | .held _ => 1
def uptoBulkAll {H : Type} : List (DataW H) → Nat
  | [] => 0
  | d :: r => uptoBulk d + uptoBulkAll r
def uptoBulkEntries {H : Type} : List (Lit × DataW H) → Nat
  | [] => 0
  | x :: r => uptoBulkEntry x + uptoBulkEntries r
def uptoBulkEntry {H : Type} : Lit × DataW H → Nat
  | (.string bytes, d) => bytes.length + uptoBulk d + 1
  | (_, d) => uptoBulk d + 1
 end
def uptoSmall : (H : Type) → List (DataW H) → Bool := fun _ ds => decide (uptoBulkAll ds ≤ 1048576)
def OpenSpec.upto (s : _root_.Go.ChangeSpec) : _root_.Go.OpenSpec := { _root_.Go.OpenSpec.ofChange s with cond := some uptoSmall }

/-- 'bogietop.TopLate', WHERE WHAT IT READS IS OF BULK AT MOST 1048576: true; the input reads as it did. -/
def topLateUptoRow : OpenClaim := { program := "ytgmkjpafapgccaagreat", sum := "7044f0eae53aa7152901b6798ae0c90b1082cb4d01fda3da72fb26398555e634", func := "bogie/bogietop.TopLate", spec := "topLate", inPlace := ["internal/bytealg.IndexByteString", "slices.overlaps[bogie/api.Part]", "slices.overlaps[bogie/api.Prop]"], unfollowed := true, recurses := true, loops := true, plainKeys := false, apart := false, narrowed := true }
def TopLateUptoSaid : Prop := topLateUptoRow.holds Tryz.pinned (OpenSpec.upto topLateSpec)

/-- 'bogietop.TopExact', WHERE WHAT IT READS IS OF BULK AT MOST 1048576: true; the input reads as it did. -/
def topExactUptoRow : OpenClaim := { program := "ytgmkjpafapgccaagreat", sum := "7044f0eae53aa7152901b6798ae0c90b1082cb4d01fda3da72fb26398555e634", func := "bogie/bogietop.TopExact", spec := "topExact", inPlace := ["internal/bytealg.IndexByteString", "slices.overlaps[bogie/api.Part]", "slices.overlaps[bogie/api.Prop]"], unfollowed := true, recurses := true, loops := true, plainKeys := false, apart := false, narrowed := true }
def TopExactUptoSaid : Prop := topExactUptoRow.holds Tryz.pinned (OpenSpec.upto topExactSpec)

/-- 'bogietop.TopSafe', WHERE WHAT IT READS IS OF BULK AT MOST 1048576: true; the input reads as it did. -/
def topSafeUptoRow : OpenClaim := { program := "ytgmkjpafapgccaagreat", sum := "7044f0eae53aa7152901b6798ae0c90b1082cb4d01fda3da72fb26398555e634", func := "bogie/bogietop.TopSafe", spec := "topSafe", inPlace := ["internal/bytealg.IndexByteString", "slices.overlaps[bogie/api.Part]", "slices.overlaps[bogie/api.Prop]"], unfollowed := true, recurses := true, loops := true, plainKeys := false, apart := false, narrowed := true }
def TopSafeUptoSaid : Prop := topSafeUptoRow.holds Tryz.pinned (OpenSpec.upto topSafeSpec)

/-- 'bogietop.TopDecided', WHERE WHAT IT READS IS OF BULK AT MOST 1048576: true; the input reads as it did. -/
def topDecidedUptoRow : OpenClaim := { program := "ytgmkjpafapgccaagreat", sum := "7044f0eae53aa7152901b6798ae0c90b1082cb4d01fda3da72fb26398555e634", func := "bogie/bogietop.TopDecided", spec := "topDecided", inPlace := ["internal/bytealg.IndexByteString", "slices.overlaps[bogie/api.Part]", "slices.overlaps[bogie/api.Prop]"], unfollowed := true, recurses := true, loops := true, plainKeys := false, apart := false, narrowed := true }
def TopDecidedUptoSaid : Prop := topDecidedUptoRow.holds Tryz.pinned (OpenSpec.upto topDecidedSpec)

end Rows
end Go.Proofs.YtgmkjpafapgccaaGreat
