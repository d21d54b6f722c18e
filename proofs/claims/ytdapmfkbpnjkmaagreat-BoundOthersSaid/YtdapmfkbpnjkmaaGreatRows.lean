/-
  NARROWER THAN 'FOR EVERY INPUT', by the rows' own cells (each row's printed sentence says how): BoundMatchesReference: loops · BoundHolds: loops · BoundSure: loops · BoundOthers: loops · BoundDecided: loops.
  DERIVED. THE GIVEN ROWS OF THIS SEAT. 12 by the template 'for every input the law returns true; each argument reads behind the call as it read before'; 0 by the template 'total and deterministic' (their statements: YtdapmfkbpnjkmaaGreatTotals.lean).
  GIVEN WITH THE SEED: the statements are not yours to turn. If you find one false, say at which input.
  Laid BY PROGRAM, IN A SANDBOX (cutbox-rows.mjs): the forced cells as the released guide's own fill.sh prints them over the translation 3d51e09bbb480694… (all of the seat's roots in one cut). By AI agents, Wed Nov 11 2026. No macro, syntax, notation, axiom, sorry.
-/
import Derived.Test.YtdapmfkbpnjkmaaGreatChecked
import GoSem.Claim
import GoSem.ClaimJoined
import GoSem.ClaimMapViews
import Derived.JoinedTies
import Derived.KernelRfl
namespace Go.Proofs.YtdapmfkbpnjkmaaGreat
/- THE CELL 'sum', in the pinned program and in every row, IS THE sha256 OF THE DUMP (.gsa) THAT YtdapmfkbpnjkmaaGreatProg.lean LOADS. Nothing in Lean hashes anything: it is a label: what it is worth is what the hold of that sum in a sandbox is worth. -/
noncomputable def Tryz.pinned : Pinned := { name := "ytdapmfkbpnjkmaagreat", sum := "3d51e09bbb4806949b9fcde25fc925e7513af844cec856b2e19ffc7fb4524c73", checked := Tryz.checked }
namespace Rows
def none {H : Type} : Left H := { results := [], args := [] }

/-- 'bogielaw19.PlaceMatchesReference': WHATEVER THE INPUT: true; the input reads as it did. -/
def placeMatchesReferenceSpec : ChangeSpec := { name := "placeMatchesReference", fn := fun _ => fun
  | [d1, d2, d3, d4, d5] => { results := [.lit (.bool true)], args := [d1, d2, d3, d4, d5] }
  | _ => none }
def placeMatchesReferenceRow : OpenClaim := { program := "ytdapmfkbpnjkmaagreat", sum := "3d51e09bbb4806949b9fcde25fc925e7513af844cec856b2e19ffc7fb4524c73", func := "bogie/bogielaw19.PlaceMatchesReference", spec := "placeMatchesReference", inPlace := ["internal/bytealg.IndexByteString", "slices.overlaps[bogie/api.Part]", "slices.overlaps[bogie/api.Prop]"], unfollowed := true, recurses := true, plainKeys := false, apart := false }
def PlaceMatchesReferenceSaid : Prop := placeMatchesReferenceRow.holds Tryz.pinned (OpenSpec.ofChange placeMatchesReferenceSpec)

/-- ITS FALSE NEIGHBOUR: 'it returns false'. Refute it at one input. -/
def placeMatchesReferenceWrong : ChangeSpec := { name := "placeMatchesReference", fn := fun _ => fun
  | [d1, d2, d3, d4, d5] => { results := [.lit (.bool false)], args := [d1, d2, d3, d4, d5] }
  | _ => none }
def PlaceMatchesReferenceWrongFalsely : Prop := placeMatchesReferenceRow.holds Tryz.pinned (OpenSpec.ofChange placeMatchesReferenceWrong)

/-- 'bogielaw19.PlaceHistories': WHATEVER THE INPUT: true; the input reads as it did. -/
def placeHistoriesSpec : ChangeSpec := { name := "placeHistories", fn := fun _ => fun
  | [d1, d2, d3, d4] => { results := [.lit (.bool true)], args := [d1, d2, d3, d4] }
  | _ => none }
def placeHistoriesRow : OpenClaim := { program := "ytdapmfkbpnjkmaagreat", sum := "3d51e09bbb4806949b9fcde25fc925e7513af844cec856b2e19ffc7fb4524c73", func := "bogie/bogielaw19.PlaceHistories", spec := "placeHistories", inPlace := ["internal/bytealg.IndexByteString", "slices.overlaps[bogie/api.Part]", "slices.overlaps[bogie/api.Prop]"], unfollowed := true, recurses := true, plainKeys := false, apart := false }
def PlaceHistoriesSaid : Prop := placeHistoriesRow.holds Tryz.pinned (OpenSpec.ofChange placeHistoriesSpec)

/-- ITS FALSE NEIGHBOUR: 'it returns false'. Refute it at one input. -/
def placeHistoriesWrong : ChangeSpec := { name := "placeHistories", fn := fun _ => fun
  | [d1, d2, d3, d4] => { results := [.lit (.bool false)], args := [d1, d2, d3, d4] }
  | _ => none }
def PlaceHistoriesWrongFalsely : Prop := placeHistoriesRow.holds Tryz.pinned (OpenSpec.ofChange placeHistoriesWrong)

/-- 'bogielaw19.PlaceBothWays': WHATEVER THE INPUT: true; the input reads as it did. -/
def placeBothWaysSpec : ChangeSpec := { name := "placeBothWays", fn := fun _ => fun
  | [d1, d2, d3, d4] => { results := [.lit (.bool true)], args := [d1, d2, d3, d4] }
  | _ => none }
def placeBothWaysRow : OpenClaim := { program := "ytdapmfkbpnjkmaagreat", sum := "3d51e09bbb4806949b9fcde25fc925e7513af844cec856b2e19ffc7fb4524c73", func := "bogie/bogielaw19.PlaceBothWays", spec := "placeBothWays", inPlace := ["internal/bytealg.IndexByteString", "slices.overlaps[bogie/api.Part]", "slices.overlaps[bogie/api.Prop]"], unfollowed := true, recurses := true, plainKeys := false, apart := false }
def PlaceBothWaysSaid : Prop := placeBothWaysRow.holds Tryz.pinned (OpenSpec.ofChange placeBothWaysSpec)

/-- ITS FALSE NEIGHBOUR: 'it returns false'. Refute it at one input. -/
def placeBothWaysWrong : ChangeSpec := { name := "placeBothWays", fn := fun _ => fun
  | [d1, d2, d3, d4] => { results := [.lit (.bool false)], args := [d1, d2, d3, d4] }
  | _ => none }
def PlaceBothWaysWrongFalsely : Prop := placeBothWaysRow.holds Tryz.pinned (OpenSpec.ofChange placeBothWaysWrong)

/-- 'bogielaw19.PlaceRoots': WHATEVER THE INPUT: true; the input reads as it did. -/
def placeRootsSpec : ChangeSpec := { name := "placeRoots", fn := fun _ => fun
  | [d1, d2, d3, d4] => { results := [.lit (.bool true)], args := [d1, d2, d3, d4] }
  | _ => none }
def placeRootsRow : OpenClaim := { program := "ytdapmfkbpnjkmaagreat", sum := "3d51e09bbb4806949b9fcde25fc925e7513af844cec856b2e19ffc7fb4524c73", func := "bogie/bogielaw19.PlaceRoots", spec := "placeRoots", inPlace := ["internal/bytealg.IndexByteString", "slices.overlaps[bogie/api.Part]", "slices.overlaps[bogie/api.Prop]"], unfollowed := true, recurses := true, plainKeys := false, apart := false }
def PlaceRootsSaid : Prop := placeRootsRow.holds Tryz.pinned (OpenSpec.ofChange placeRootsSpec)

/-- ITS FALSE NEIGHBOUR: 'it returns false'. Refute it at one input. -/
def placeRootsWrong : ChangeSpec := { name := "placeRoots", fn := fun _ => fun
  | [d1, d2, d3, d4] => { results := [.lit (.bool false)], args := [d1, d2, d3, d4] }
  | _ => none }
def PlaceRootsWrongFalsely : Prop := placeRootsRow.holds Tryz.pinned (OpenSpec.ofChange placeRootsWrong)

/-- 'bogielaw19.PlaceSure': WHATEVER THE INPUT: true; the input reads as it did. -/
def placeSureSpec : ChangeSpec := { name := "placeSure", fn := fun _ => fun
  | [d1, d2, d3, d4, d5] => { results := [.lit (.bool true)], args := [d1, d2, d3, d4, d5] }
  | _ => none }
def placeSureRow : OpenClaim := { program := "ytdapmfkbpnjkmaagreat", sum := "3d51e09bbb4806949b9fcde25fc925e7513af844cec856b2e19ffc7fb4524c73", func := "bogie/bogielaw19.PlaceSure", spec := "placeSure", inPlace := ["internal/bytealg.IndexByteString", "slices.overlaps[bogie/api.Part]", "slices.overlaps[bogie/api.Prop]"], unfollowed := true, recurses := true, plainKeys := false, apart := false }
def PlaceSureSaid : Prop := placeSureRow.holds Tryz.pinned (OpenSpec.ofChange placeSureSpec)

/-- ITS FALSE NEIGHBOUR: 'it returns false'. Refute it at one input. -/
def placeSureWrong : ChangeSpec := { name := "placeSure", fn := fun _ => fun
  | [d1, d2, d3, d4, d5] => { results := [.lit (.bool false)], args := [d1, d2, d3, d4, d5] }
  | _ => none }
def PlaceSureWrongFalsely : Prop := placeSureRow.holds Tryz.pinned (OpenSpec.ofChange placeSureWrong)

/-- 'bogielaw19.PlaceOthers': WHATEVER THE INPUT: true; the input reads as it did. -/
def placeOthersSpec : ChangeSpec := { name := "placeOthers", fn := fun _ => fun
  | [d1, d2, d3, d4] => { results := [.lit (.bool true)], args := [d1, d2, d3, d4] }
  | _ => none }
def placeOthersRow : OpenClaim := { program := "ytdapmfkbpnjkmaagreat", sum := "3d51e09bbb4806949b9fcde25fc925e7513af844cec856b2e19ffc7fb4524c73", func := "bogie/bogielaw19.PlaceOthers", spec := "placeOthers", inPlace := ["internal/bytealg.IndexByteString", "slices.overlaps[bogie/api.Part]", "slices.overlaps[bogie/api.Prop]"], unfollowed := true, recurses := true, plainKeys := false, apart := false }
def PlaceOthersSaid : Prop := placeOthersRow.holds Tryz.pinned (OpenSpec.ofChange placeOthersSpec)

/-- ITS FALSE NEIGHBOUR: 'it returns false'. Refute it at one input. -/
def placeOthersWrong : ChangeSpec := { name := "placeOthers", fn := fun _ => fun
  | [d1, d2, d3, d4] => { results := [.lit (.bool false)], args := [d1, d2, d3, d4] }
  | _ => none }
def PlaceOthersWrongFalsely : Prop := placeOthersRow.holds Tryz.pinned (OpenSpec.ofChange placeOthersWrong)

/-- 'bogielaw18.BoundMatchesReference': WHATEVER THE INPUT: true; the input reads as it did. -/
def boundMatchesReferenceSpec : ChangeSpec := { name := "boundMatchesReference", fn := fun _ => fun
  | [d1, d2, d3, d4, d5] => { results := [.lit (.bool true)], args := [d1, d2, d3, d4, d5] }
  | _ => none }
def boundMatchesReferenceRow : OpenClaim := { program := "ytdapmfkbpnjkmaagreat", sum := "3d51e09bbb4806949b9fcde25fc925e7513af844cec856b2e19ffc7fb4524c73", func := "bogie/bogielaw18.BoundMatchesReference", spec := "boundMatchesReference", inPlace := ["internal/bytealg.IndexByteString", "slices.overlaps[bogie/api.Part]", "slices.overlaps[bogie/api.Prop]"], unfollowed := true, recurses := true, loops := true, plainKeys := false, apart := false }
def BoundMatchesReferenceSaid : Prop := boundMatchesReferenceRow.holds Tryz.pinned (OpenSpec.ofChange boundMatchesReferenceSpec)

/-- ITS FALSE NEIGHBOUR: 'it returns false'. Refute it at one input. -/
def boundMatchesReferenceWrong : ChangeSpec := { name := "boundMatchesReference", fn := fun _ => fun
  | [d1, d2, d3, d4, d5] => { results := [.lit (.bool false)], args := [d1, d2, d3, d4, d5] }
  | _ => none }
def BoundMatchesReferenceWrongFalsely : Prop := boundMatchesReferenceRow.holds Tryz.pinned (OpenSpec.ofChange boundMatchesReferenceWrong)

/-- 'bogielaw18.BoundHolds': WHATEVER THE INPUT: true; the input reads as it did. -/
def boundHoldsSpec : ChangeSpec := { name := "boundHolds", fn := fun _ => fun
  | [d1, d2, d3, d4] => { results := [.lit (.bool true)], args := [d1, d2, d3, d4] }
  | _ => none }
def boundHoldsRow : OpenClaim := { program := "ytdapmfkbpnjkmaagreat", sum := "3d51e09bbb4806949b9fcde25fc925e7513af844cec856b2e19ffc7fb4524c73", func := "bogie/bogielaw18.BoundHolds", spec := "boundHolds", inPlace := ["internal/bytealg.IndexByteString", "slices.overlaps[bogie/api.Part]", "slices.overlaps[bogie/api.Prop]"], unfollowed := true, recurses := true, loops := true, plainKeys := false, apart := false }
def BoundHoldsSaid : Prop := boundHoldsRow.holds Tryz.pinned (OpenSpec.ofChange boundHoldsSpec)

/-- ITS FALSE NEIGHBOUR: 'it returns false'. Refute it at one input. -/
def boundHoldsWrong : ChangeSpec := { name := "boundHolds", fn := fun _ => fun
  | [d1, d2, d3, d4] => { results := [.lit (.bool false)], args := [d1, d2, d3, d4] }
  | _ => none }
def BoundHoldsWrongFalsely : Prop := boundHoldsRow.holds Tryz.pinned (OpenSpec.ofChange boundHoldsWrong)

/-- 'bogielaw18.BoundSure': WHATEVER THE INPUT: true; the input reads as it did. -/
def boundSureSpec : ChangeSpec := { name := "boundSure", fn := fun _ => fun
  | [d1, d2, d3, d4, d5] => { results := [.lit (.bool true)], args := [d1, d2, d3, d4, d5] }
  | _ => none }
def boundSureRow : OpenClaim := { program := "ytdapmfkbpnjkmaagreat", sum := "3d51e09bbb4806949b9fcde25fc925e7513af844cec856b2e19ffc7fb4524c73", func := "bogie/bogielaw18.BoundSure", spec := "boundSure", inPlace := ["internal/bytealg.IndexByteString", "slices.overlaps[bogie/api.Part]", "slices.overlaps[bogie/api.Prop]"], unfollowed := true, recurses := true, loops := true, plainKeys := false, apart := false }
def BoundSureSaid : Prop := boundSureRow.holds Tryz.pinned (OpenSpec.ofChange boundSureSpec)

/-- ITS FALSE NEIGHBOUR: 'it returns false'. Refute it at one input. -/
def boundSureWrong : ChangeSpec := { name := "boundSure", fn := fun _ => fun
  | [d1, d2, d3, d4, d5] => { results := [.lit (.bool false)], args := [d1, d2, d3, d4, d5] }
  | _ => none }
def BoundSureWrongFalsely : Prop := boundSureRow.holds Tryz.pinned (OpenSpec.ofChange boundSureWrong)

/-- 'bogielaw18.BoundOthers': WHATEVER THE INPUT: true; the input reads as it did. -/
def boundOthersSpec : ChangeSpec := { name := "boundOthers", fn := fun _ => fun
  | [d1, d2, d3, d4] => { results := [.lit (.bool true)], args := [d1, d2, d3, d4] }
  | _ => none }
def boundOthersRow : OpenClaim := { program := "ytdapmfkbpnjkmaagreat", sum := "3d51e09bbb4806949b9fcde25fc925e7513af844cec856b2e19ffc7fb4524c73", func := "bogie/bogielaw18.BoundOthers", spec := "boundOthers", inPlace := ["internal/bytealg.IndexByteString", "slices.overlaps[bogie/api.Part]", "slices.overlaps[bogie/api.Prop]"], unfollowed := true, recurses := true, loops := true, plainKeys := false, apart := false }
def BoundOthersSaid : Prop := boundOthersRow.holds Tryz.pinned (OpenSpec.ofChange boundOthersSpec)

/-- ITS FALSE NEIGHBOUR: 'it returns false'. Refute it at one input. -/
def boundOthersWrong : ChangeSpec := { name := "boundOthers", fn := fun _ => fun
  | [d1, d2, d3, d4] => { results := [.lit (.bool false)], args := [d1, d2, d3, d4] }
  | _ => none }
def BoundOthersWrongFalsely : Prop := boundOthersRow.holds Tryz.pinned (OpenSpec.ofChange boundOthersWrong)

/-- 'bogielaw19.PlaceEvidence': WHATEVER THE INPUT: true; the input reads as it did. -/
def placeEvidenceSpec : ChangeSpec := { name := "placeEvidence", fn := fun _ => fun
  | [d1, d2, d3, d4, d5, d6] => { results := [.lit (.bool true)], args := [d1, d2, d3, d4, d5, d6] }
  | _ => none }
def placeEvidenceRow : OpenClaim := { program := "ytdapmfkbpnjkmaagreat", sum := "3d51e09bbb4806949b9fcde25fc925e7513af844cec856b2e19ffc7fb4524c73", func := "bogie/bogielaw19.PlaceEvidence", spec := "placeEvidence", inPlace := ["internal/bytealg.IndexByteString", "slices.overlaps[bogie/api.Part]", "slices.overlaps[bogie/api.Prop]"], unfollowed := true, recurses := true, plainKeys := false, apart := false }
def PlaceEvidenceSaid : Prop := placeEvidenceRow.holds Tryz.pinned (OpenSpec.ofChange placeEvidenceSpec)

/-- ITS FALSE NEIGHBOUR: 'it returns false'. Refute it at one input. -/
def placeEvidenceWrong : ChangeSpec := { name := "placeEvidence", fn := fun _ => fun
  | [d1, d2, d3, d4, d5, d6] => { results := [.lit (.bool false)], args := [d1, d2, d3, d4, d5, d6] }
  | _ => none }
def PlaceEvidenceWrongFalsely : Prop := placeEvidenceRow.holds Tryz.pinned (OpenSpec.ofChange placeEvidenceWrong)

/-- 'bogielaw18.BoundDecided': WHATEVER THE INPUT: true; the input reads as it did. -/
def boundDecidedSpec : ChangeSpec := { name := "boundDecided", fn := fun _ => fun
  | [d1, d2, d3, d4, d5, d6] => { results := [.lit (.bool true)], args := [d1, d2, d3, d4, d5, d6] }
  | _ => none }
def boundDecidedRow : OpenClaim := { program := "ytdapmfkbpnjkmaagreat", sum := "3d51e09bbb4806949b9fcde25fc925e7513af844cec856b2e19ffc7fb4524c73", func := "bogie/bogielaw18.BoundDecided", spec := "boundDecided", inPlace := ["internal/bytealg.IndexByteString", "slices.overlaps[bogie/api.Part]", "slices.overlaps[bogie/api.Prop]"], unfollowed := true, recurses := true, loops := true, plainKeys := false, apart := false }
def BoundDecidedSaid : Prop := boundDecidedRow.holds Tryz.pinned (OpenSpec.ofChange boundDecidedSpec)

/-- ITS FALSE NEIGHBOUR: 'it returns false'. Refute it at one input. -/
def boundDecidedWrong : ChangeSpec := { name := "boundDecided", fn := fun _ => fun
  | [d1, d2, d3, d4, d5, d6] => { results := [.lit (.bool false)], args := [d1, d2, d3, d4, d5, d6] }
  | _ => none }
def BoundDecidedWrongFalsely : Prop := boundDecidedRow.holds Tryz.pinned (OpenSpec.ofChange boundDecidedWrong)

/- THE SECOND FORM. 'bulk': how many values and letters a reading holds, each counted each time it is reached (what is shared counts as often as it is met; a slice's spare places count too). A statement '..UptoSaid' is the law's where the arguments, and the package variables that the reading takes, are together of bulk at most 1048576: NARROWER than '..Said'. Prove '..Said' where nothing that the law and all that it calls make is longer than what came in: it says more and counts as full. Else prove '..UptoSaid'. A law counts once. -/
mutual
def uptoBulk {H : Type} : DataW H → Nat
  | .lit (.string bytes) => bytes.length + 1
  | .lit _ => 1
  | .nil => 1
  | .ptr d => uptoBulk d + 1
  | .slice elems spare => uptoBulkAll elems + uptoBulkAll spare + 1
  | .agg parts => uptoBulkAll parts + 1
  | .iface _ d => uptoBulk d + 1
  | .map entries => uptoBulkEntries entries + 1
  | .held _ => 1
def uptoBulkAll {H : Type} : List (DataW H) → Nat
  | [] => 0
  | d :: r => uptoBulk d + uptoBulkAll r
def uptoBulkEntries {H : Type} : List (Lit × DataW H) → Nat
  | [] => 0
  | x :: r => uptoBulkEntry x + uptoBulkEntries r
def uptoBulkEntry {H : Type} : Lit × DataW H → Nat
  | (.string bytes, d) => bytes.length + uptoBulk d + 1
  | (_, d) => uptoBulk d + 1
 end
def uptoSmall : (H : Type) → List (DataW H) → Bool := fun _ ds => decide (uptoBulkAll ds ≤ 1048576)
def OpenSpec.upto (s : _root_.Go.ChangeSpec) : _root_.Go.OpenSpec := { _root_.Go.OpenSpec.ofChange s with cond := some uptoSmall }

/-- 'bogielaw19.PlaceMatchesReference', WHERE WHAT IT READS IS OF BULK AT MOST 1048576: true; the input reads as it did. -/
def placeMatchesReferenceUptoRow : OpenClaim := { program := "ytdapmfkbpnjkmaagreat", sum := "3d51e09bbb4806949b9fcde25fc925e7513af844cec856b2e19ffc7fb4524c73", func := "bogie/bogielaw19.PlaceMatchesReference", spec := "placeMatchesReference", inPlace := ["internal/bytealg.IndexByteString", "slices.overlaps[bogie/api.Part]", "slices.overlaps[bogie/api.Prop]"], unfollowed := true, recurses := true, plainKeys := false, apart := false, narrowed := true }
def PlaceMatchesReferenceUptoSaid : Prop := placeMatchesReferenceUptoRow.holds Tryz.pinned (OpenSpec.upto placeMatchesReferenceSpec)

/-- 'bogielaw19.PlaceHistories', WHERE WHAT IT READS IS OF BULK AT MOST 1048576: true; the input reads as it did. -/
def placeHistoriesUptoRow : OpenClaim := { program := "ytdapmfkbpnjkmaagreat", sum := "3d51e09bbb4806949b9fcde25fc925e7513af844cec856b2e19ffc7fb4524c73", func := "bogie/bogielaw19.PlaceHistories", spec := "placeHistories", inPlace := ["internal/bytealg.IndexByteString", "slices.overlaps[bogie/api.Part]", "slices.overlaps[bogie/api.Prop]"], unfollowed := true, recurses := true, plainKeys := false, apart := false, narrowed := true }
def PlaceHistoriesUptoSaid : Prop := placeHistoriesUptoRow.holds Tryz.pinned (OpenSpec.upto placeHistoriesSpec)

/-- 'bogielaw19.PlaceBothWays', WHERE WHAT IT READS IS OF BULK AT MOST 1048576: true; the input reads as it did. -/
def placeBothWaysUptoRow : OpenClaim := { program := "ytdapmfkbpnjkmaagreat", sum := "3d51e09bbb4806949b9fcde25fc925e7513af844cec856b2e19ffc7fb4524c73", func := "bogie/bogielaw19.PlaceBothWays", spec := "placeBothWays", inPlace := ["internal/bytealg.IndexByteString", "slices.overlaps[bogie/api.Part]", "slices.overlaps[bogie/api.Prop]"], unfollowed := true, recurses := true, plainKeys := false, apart := false, narrowed := true }
def PlaceBothWaysUptoSaid : Prop := placeBothWaysUptoRow.holds Tryz.pinned (OpenSpec.upto placeBothWaysSpec)

/-- 'bogielaw19.PlaceRoots', WHERE WHAT IT READS IS OF BULK AT MOST 1048576: true; the input reads as it did. -/
def placeRootsUptoRow : OpenClaim := { program := "ytdapmfkbpnjkmaagreat", sum := "3d51e09bbb4806949b9fcde25fc925e7513af844cec856b2e19ffc7fb4524c73", func := "bogie/bogielaw19.PlaceRoots", spec := "placeRoots", inPlace := ["internal/bytealg.IndexByteString", "slices.overlaps[bogie/api.Part]", "slices.overlaps[bogie/api.Prop]"], unfollowed := true, recurses := true, plainKeys := false, apart := false, narrowed := true }
def PlaceRootsUptoSaid : Prop := placeRootsUptoRow.holds Tryz.pinned (OpenSpec.upto placeRootsSpec)

/-- 'bogielaw19.PlaceSure', WHERE WHAT IT READS IS OF BULK AT MOST 1048576: true; the input reads as it did. -/
def placeSureUptoRow : OpenClaim := { program := "ytdapmfkbpnjkmaagreat", sum := "3d51e09bbb4806949b9fcde25fc925e7513af844cec856b2e19ffc7fb4524c73", func := "bogie/bogielaw19.PlaceSure", spec := "placeSure", inPlace := ["internal/bytealg.IndexByteString", "slices.overlaps[bogie/api.Part]", "slices.overlaps[bogie/api.Prop]"], unfollowed := true, recurses := true, plainKeys := false, apart := false, narrowed := true }
def PlaceSureUptoSaid : Prop := placeSureUptoRow.holds Tryz.pinned (OpenSpec.upto placeSureSpec)

/-- 'bogielaw19.PlaceOthers', WHERE WHAT IT READS IS OF BULK AT MOST 1048576: true; the input reads as it did. -/
def placeOthersUptoRow : OpenClaim := { program := "ytdapmfkbpnjkmaagreat", sum := "3d51e09bbb4806949b9fcde25fc925e7513af844cec856b2e19ffc7fb4524c73", func := "bogie/bogielaw19.PlaceOthers", spec := "placeOthers", inPlace := ["internal/bytealg.IndexByteString", "slices.overlaps[bogie/api.Part]", "slices.overlaps[bogie/api.Prop]"], unfollowed := true, recurses := true, plainKeys := false, apart := false, narrowed := true }
def PlaceOthersUptoSaid : Prop := placeOthersUptoRow.holds Tryz.pinned (OpenSpec.upto placeOthersSpec)

/-- 'bogielaw18.BoundMatchesReference', WHERE WHAT IT READS IS OF BULK AT MOST 1048576: true; the input reads as it did. -/
def boundMatchesReferenceUptoRow : OpenClaim := { program := "ytdapmfkbpnjkmaagreat", sum := "3d51e09bbb4806949b9fcde25fc925e7513af844cec856b2e19ffc7fb4524c73", func := "bogie/bogielaw18.BoundMatchesReference", spec := "boundMatchesReference", inPlace := ["internal/bytealg.IndexByteString", "slices.overlaps[bogie/api.Part]", "slices.overlaps[bogie/api.Prop]"], unfollowed := true, recurses := true, loops := true, plainKeys := false, apart := false, narrowed := true }
def BoundMatchesReferenceUptoSaid : Prop := boundMatchesReferenceUptoRow.holds Tryz.pinned (OpenSpec.upto boundMatchesReferenceSpec)

/-- 'bogielaw18.BoundHolds', WHERE WHAT IT READS IS OF BULK AT MOST 1048576: true; the input reads as it did. -/
def boundHoldsUptoRow : OpenClaim := { program := "ytdapmfkbpnjkmaagreat", sum := "3d51e09bbb4806949b9fcde25fc925e7513af844cec856b2e19ffc7fb4524c73", func := "bogie/bogielaw18.BoundHolds", spec := "boundHolds", inPlace := ["internal/bytealg.IndexByteString", "slices.overlaps[bogie/api.Part]", "slices.overlaps[bogie/api.Prop]"], unfollowed := true, recurses := true, loops := true, plainKeys := false, apart := false, narrowed := true }
def BoundHoldsUptoSaid : Prop := boundHoldsUptoRow.holds Tryz.pinned (OpenSpec.upto boundHoldsSpec)

/-- 'bogielaw18.BoundSure', WHERE WHAT IT READS IS OF BULK AT MOST 1048576: true; the input reads as it did. -/
def boundSureUptoRow : OpenClaim := { program := "ytdapmfkbpnjkmaagreat", sum := "3d51e09bbb4806949b9fcde25fc925e7513af844cec856b2e19ffc7fb4524c73", func := "bogie/bogielaw18.BoundSure", spec := "boundSure", inPlace := ["internal/bytealg.IndexByteString", "slices.overlaps[bogie/api.Part]", "slices.overlaps[bogie/api.Prop]"], unfollowed := true, recurses := true, loops := true, plainKeys := false, apart := false, narrowed := true }
def BoundSureUptoSaid : Prop := boundSureUptoRow.holds Tryz.pinned (OpenSpec.upto boundSureSpec)

/-- 'bogielaw18.BoundOthers', WHERE WHAT IT READS IS OF BULK AT MOST 1048576: true; the input reads as it did. -/
def boundOthersUptoRow : OpenClaim := { program := "ytdapmfkbpnjkmaagreat", sum := "3d51e09bbb4806949b9fcde25fc925e7513af844cec856b2e19ffc7fb4524c73", func := "bogie/bogielaw18.BoundOthers", spec := "boundOthers", inPlace := ["internal/bytealg.IndexByteString", "slices.overlaps[bogie/api.Part]", "slices.overlaps[bogie/api.Prop]"], unfollowed := true, recurses := true, loops := true, plainKeys := false, apart := false, narrowed := true }
def BoundOthersUptoSaid : Prop := boundOthersUptoRow.holds Tryz.pinned (OpenSpec.upto boundOthersSpec)

/-- 'bogielaw19.PlaceEvidence', WHERE WHAT IT READS IS OF BULK AT MOST 1048576: true; the input reads as it did. -/
def placeEvidenceUptoRow : OpenClaim := { program := "ytdapmfkbpnjkmaagreat", sum := "3d51e09bbb4806949b9fcde25fc925e7513af844cec856b2e19ffc7fb4524c73", func := "bogie/bogielaw19.PlaceEvidence", spec := "placeEvidence", inPlace := ["internal/bytealg.IndexByteString", "slices.overlaps[bogie/api.Part]", "slices.overlaps[bogie/api.Prop]"], unfollowed := true, recurses := true, plainKeys := false, apart := false, narrowed := true }
def PlaceEvidenceUptoSaid : Prop := placeEvidenceUptoRow.holds Tryz.pinned (OpenSpec.upto placeEvidenceSpec)

/-- 'bogielaw18.BoundDecided', WHERE WHAT IT READS IS OF BULK AT MOST 1048576: true; the input reads as it did. -/
def boundDecidedUptoRow : OpenClaim := { program := "ytdapmfkbpnjkmaagreat", sum := "3d51e09bbb4806949b9fcde25fc925e7513af844cec856b2e19ffc7fb4524c73", func := "bogie/bogielaw18.BoundDecided", spec := "boundDecided", inPlace := ["internal/bytealg.IndexByteString", "slices.overlaps[bogie/api.Part]", "slices.overlaps[bogie/api.Prop]"], unfollowed := true, recurses := true, loops := true, plainKeys := false, apart := false, narrowed := true }
def BoundDecidedUptoSaid : Prop := boundDecidedUptoRow.holds Tryz.pinned (OpenSpec.upto boundDecidedSpec)

end Rows
end Go.Proofs.YtdapmfkbpnjkmaaGreat
