/-
  No cell of these rows narrows 'for every input' (looked for: loops, veiled, ifaces, maps, wideKeys, modest, calm, conditions, laid).
  DERIVED. THE GIVEN ROWS OF THIS SEAT. 6 by the template 'for every input the law returns true; each argument reads behind the call as it read before'; 0 by the template 'total and deterministic' (their statements: YtkmdojpfccjnoaaGreatTotals.lean).
  GIVEN WITH THE SEED: the statements are not yours to turn. If you find one false, say at which input.
  Laid BY PROGRAM, IN A SANDBOX (cutbox-rows.mjs): the forced cells as the released guide's own fill.sh prints them over the translation 238d775518a9e3ef… (all of the seat's roots in one cut). By AI agents, Wed Nov 11 2026. No macro, syntax, notation, axiom, sorry.
-/
import Derived.Test.YtkmdojpfccjnoaaGreatChecked
import GoSem.Claim
import GoSem.ClaimJoined
import GoSem.ClaimMapViews
import Derived.JoinedTies
import Derived.KernelRfl
namespace Go.Proofs.YtkmdojpfccjnoaaGreat
/- THE CELL 'sum', in the pinned program and in every row, IS THE sha256 OF THE DUMP (.gsa) THAT YtkmdojpfccjnoaaGreatProg.lean LOADS. Nothing in Lean hashes anything: it is a label: what it is worth is what the hold of that sum in a sandbox is worth. -/
noncomputable def Tryz.pinned : Pinned := { name := "ytkmdojpfccjnoaagreat", sum := "238d775518a9e3ef949bc3f3944e2153ed142a00a46ab4ac833dd4ccccd448de", checked := Tryz.checked }
namespace Rows
def none {H : Type} : Left H := { results := [], args := [] }

/-- 'bogielaw15.HistoryMatchesReference': WHATEVER THE INPUT: true; the input reads as it did. -/
def historyMatchesReferenceSpec : ChangeSpec := { name := "historyMatchesReference", fn := fun _ => fun
  | [d1, d2, d3] => { results := [.lit (.bool true)], args := [d1, d2, d3] }
  | _ => none }
def historyMatchesReferenceRow : OpenClaim := { program := "ytkmdojpfccjnoaagreat", sum := "238d775518a9e3ef949bc3f3944e2153ed142a00a46ab4ac833dd4ccccd448de", func := "bogie/bogielaw15.HistoryMatchesReference", spec := "historyMatchesReference", inPlace := ["internal/bytealg.IndexByteString", "slices.overlaps[bogie/api.Part]", "slices.overlaps[bogie/api.Prop]"], unfollowed := true, recurses := true, plainKeys := false, apart := false }
def HistoryMatchesReferenceSaid : Prop := historyMatchesReferenceRow.holds Tryz.pinned (OpenSpec.ofChange historyMatchesReferenceSpec)

/-- ITS FALSE NEIGHBOUR: 'it returns false'. Refute it at one input. -/
def historyMatchesReferenceWrong : ChangeSpec := { name := "historyMatchesReference", fn := fun _ => fun
  | [d1, d2, d3] => { results := [.lit (.bool false)], args := [d1, d2, d3] }
  | _ => none }
def HistoryMatchesReferenceWrongFalsely : Prop := historyMatchesReferenceRow.holds Tryz.pinned (OpenSpec.ofChange historyMatchesReferenceWrong)

/-- 'bogielaw15.HistoryFails': WHATEVER THE INPUT: true; the input reads as it did. -/
def historyFailsSpec : ChangeSpec := { name := "historyFails", fn := fun _ => fun
  | [d1, d2, d3] => { results := [.lit (.bool true)], args := [d1, d2, d3] }
  | _ => none }
def historyFailsRow : OpenClaim := { program := "ytkmdojpfccjnoaagreat", sum := "238d775518a9e3ef949bc3f3944e2153ed142a00a46ab4ac833dd4ccccd448de", func := "bogie/bogielaw15.HistoryFails", spec := "historyFails", inPlace := ["internal/bytealg.IndexByteString", "slices.overlaps[bogie/api.Part]", "slices.overlaps[bogie/api.Prop]"], unfollowed := true, recurses := true, plainKeys := false, apart := false }
def HistoryFailsSaid : Prop := historyFailsRow.holds Tryz.pinned (OpenSpec.ofChange historyFailsSpec)

/-- ITS FALSE NEIGHBOUR: 'it returns false'. Refute it at one input. -/
def historyFailsWrong : ChangeSpec := { name := "historyFails", fn := fun _ => fun
  | [d1, d2, d3] => { results := [.lit (.bool false)], args := [d1, d2, d3] }
  | _ => none }
def HistoryFailsWrongFalsely : Prop := historyFailsRow.holds Tryz.pinned (OpenSpec.ofChange historyFailsWrong)

/-- 'bogielaw15.HistoryFalse': WHATEVER THE INPUT: true; the input reads as it did. -/
def historyFalseSpec : ChangeSpec := { name := "historyFalse", fn := fun _ => fun
  | [d1, d2, d3, d4, d5] => { results := [.lit (.bool true)], args := [d1, d2, d3, d4, d5] }
  | _ => none }
def historyFalseRow : OpenClaim := { program := "ytkmdojpfccjnoaagreat", sum := "238d775518a9e3ef949bc3f3944e2153ed142a00a46ab4ac833dd4ccccd448de", func := "bogie/bogielaw15.HistoryFalse", spec := "historyFalse", inPlace := ["internal/bytealg.IndexByteString", "slices.overlaps[bogie/api.Part]", "slices.overlaps[bogie/api.Prop]"], unfollowed := true, recurses := true, plainKeys := false, apart := false }
def HistoryFalseSaid : Prop := historyFalseRow.holds Tryz.pinned (OpenSpec.ofChange historyFalseSpec)

/-- ITS FALSE NEIGHBOUR: 'it returns false'. Refute it at one input. -/
def historyFalseWrong : ChangeSpec := { name := "historyFalse", fn := fun _ => fun
  | [d1, d2, d3, d4, d5] => { results := [.lit (.bool false)], args := [d1, d2, d3, d4, d5] }
  | _ => none }
def HistoryFalseWrongFalsely : Prop := historyFalseRow.holds Tryz.pinned (OpenSpec.ofChange historyFalseWrong)

/-- 'bogielaw15.HistoryNone': WHATEVER THE INPUT: true; the input reads as it did. -/
def historyNoneSpec : ChangeSpec := { name := "historyNone", fn := fun _ => fun
  | [d1, d2, d3, d4, d5] => { results := [.lit (.bool true)], args := [d1, d2, d3, d4, d5] }
  | _ => none }
def historyNoneRow : OpenClaim := { program := "ytkmdojpfccjnoaagreat", sum := "238d775518a9e3ef949bc3f3944e2153ed142a00a46ab4ac833dd4ccccd448de", func := "bogie/bogielaw15.HistoryNone", spec := "historyNone", inPlace := ["internal/bytealg.IndexByteString", "slices.overlaps[bogie/api.Part]", "slices.overlaps[bogie/api.Prop]"], unfollowed := true, recurses := true, plainKeys := false, apart := false }
def HistoryNoneSaid : Prop := historyNoneRow.holds Tryz.pinned (OpenSpec.ofChange historyNoneSpec)

/-- ITS FALSE NEIGHBOUR: 'it returns false'. Refute it at one input. -/
def historyNoneWrong : ChangeSpec := { name := "historyNone", fn := fun _ => fun
  | [d1, d2, d3, d4, d5] => { results := [.lit (.bool false)], args := [d1, d2, d3, d4, d5] }
  | _ => none }
def HistoryNoneWrongFalsely : Prop := historyNoneRow.holds Tryz.pinned (OpenSpec.ofChange historyNoneWrong)

/-- 'bogielaw15.HistoryPlaces': WHATEVER THE INPUT: true; the input reads as it did. -/
def historyPlacesSpec : ChangeSpec := { name := "historyPlaces", fn := fun _ => fun
  | [d1, d2, d3, d4] => { results := [.lit (.bool true)], args := [d1, d2, d3, d4] }
  | _ => none }
def historyPlacesRow : OpenClaim := { program := "ytkmdojpfccjnoaagreat", sum := "238d775518a9e3ef949bc3f3944e2153ed142a00a46ab4ac833dd4ccccd448de", func := "bogie/bogielaw15.HistoryPlaces", spec := "historyPlaces", inPlace := ["internal/bytealg.IndexByteString", "slices.overlaps[bogie/api.Part]", "slices.overlaps[bogie/api.Prop]"], unfollowed := true, recurses := true, plainKeys := false, apart := false }
def HistoryPlacesSaid : Prop := historyPlacesRow.holds Tryz.pinned (OpenSpec.ofChange historyPlacesSpec)

/-- ITS FALSE NEIGHBOUR: 'it returns false'. Refute it at one input. -/
def historyPlacesWrong : ChangeSpec := { name := "historyPlaces", fn := fun _ => fun
  | [d1, d2, d3, d4] => { results := [.lit (.bool false)], args := [d1, d2, d3, d4] }
  | _ => none }
def HistoryPlacesWrongFalsely : Prop := historyPlacesRow.holds Tryz.pinned (OpenSpec.ofChange historyPlacesWrong)

/-- 'bogielaw15.HistoryApart': WHATEVER THE INPUT: true; the input reads as it did. -/
def historyApartSpec : ChangeSpec := { name := "historyApart", fn := fun _ => fun
  | [d1, d2, d3, d4, d5] => { results := [.lit (.bool true)], args := [d1, d2, d3, d4, d5] }
  | _ => none }
def historyApartRow : OpenClaim := { program := "ytkmdojpfccjnoaagreat", sum := "238d775518a9e3ef949bc3f3944e2153ed142a00a46ab4ac833dd4ccccd448de", func := "bogie/bogielaw15.HistoryApart", spec := "historyApart", inPlace := ["internal/bytealg.IndexByteString", "slices.overlaps[bogie/api.Part]", "slices.overlaps[bogie/api.Prop]"], unfollowed := true, recurses := true, plainKeys := false, apart := false }
def HistoryApartSaid : Prop := historyApartRow.holds Tryz.pinned (OpenSpec.ofChange historyApartSpec)

/-- ITS FALSE NEIGHBOUR: 'it returns false'. Refute it at one input. -/
def historyApartWrong : ChangeSpec := { name := "historyApart", fn := fun _ => fun
  | [d1, d2, d3, d4, d5] => { results := [.lit (.bool false)], args := [d1, d2, d3, d4, d5] }
  | _ => none }
def HistoryApartWrongFalsely : Prop := historyApartRow.holds Tryz.pinned (OpenSpec.ofChange historyApartWrong)

/- THE SECOND FORM. 'bulk': how many values and letters a reading holds, each counted each time it is reached (what is shared counts as often as it is met; a slice's spare places count too). A statement '..UptoSaid' is the law's where the arguments, and the package variables that the reading takes, are together of bulk at most 1048576: NARROWER than '..Said'. Prove '..Said' where nothing that the law and all that it calls make is longer than what came in: it says more and counts as full. Else prove '..UptoSaid'. A law counts once. -/
mutual
def uptoBulk {H : Type} : DataW H → Nat
  | .lit (.string bytes) => bytes.length + 1
  | .lit _ => 1
  | .nil => 1
  | .ptr d => uptoBulk d + 1
  | .slice elems spare => uptoBulkAll elems + uptoBulkAll spare + 1
  | .agg parts => uptoBulkAll parts + 1
  | .iface _ d => uptoBulk d + 1
  | .map entries => uptoBulkEntries entries + 1
  | .held _ => 1
def uptoBulkAll {H : Type} : List (DataW H) → Nat
  | [] => 0
  | d :: r => uptoBulk d + uptoBulkAll r
def uptoBulkEntries {H : Type} : List (Lit × DataW H) → Nat
  | [] => 0
  | x :: r => uptoBulkEntry x + uptoBulkEntries r
def uptoBulkEntry {H : Type} : Lit × DataW H → Nat
  | (.string bytes, d) => bytes.length + uptoBulk d + 1
  | (_, d) => uptoBulk d + 1
 end
def uptoSmall : (H : Type) → List (DataW H) → Bool := fun _ ds => decide (uptoBulkAll ds ≤ 1048576)
def OpenSpec.upto (s : _root_.Go.ChangeSpec) : _root_.Go.OpenSpec := { _root_.Go.OpenSpec.ofChange s with cond := some uptoSmall }

/-- 'bogielaw15.HistoryMatchesReference', WHERE WHAT IT READS IS OF BULK AT MOST 1048576: true; the input reads as it did. -/
def historyMatchesReferenceUptoRow : OpenClaim := { program := "ytkmdojpfccjnoaagreat", sum := "238d775518a9e3ef949bc3f3944e2153ed142a00a46ab4ac833dd4ccccd448de", func := "bogie/bogielaw15.HistoryMatchesReference", spec := "historyMatchesReference", inPlace := ["internal/bytealg.IndexByteString", "slices.overlaps[bogie/api.Part]", "slices.overlaps[bogie/api.Prop]"], unfollowed := true, recurses := true, plainKeys := false, apart := false, narrowed := true }
def HistoryMatchesReferenceUptoSaid : Prop := historyMatchesReferenceUptoRow.holds Tryz.pinned (OpenSpec.upto historyMatchesReferenceSpec)

/-- 'bogielaw15.HistoryFails', WHERE WHAT IT READS IS OF BULK AT MOST 1048576: true; the input reads as it did. -/
def historyFailsUptoRow : OpenClaim := { program := "ytkmdojpfccjnoaagreat", sum := "238d775518a9e3ef949bc3f3944e2153ed142a00a46ab4ac833dd4ccccd448de", func := "bogie/bogielaw15.HistoryFails", spec := "historyFails", inPlace := ["internal/bytealg.IndexByteString", "slices.overlaps[bogie/api.Part]", "slices.overlaps[bogie/api.Prop]"], unfollowed := true, recurses := true, plainKeys := false, apart := false, narrowed := true }
def HistoryFailsUptoSaid : Prop := historyFailsUptoRow.holds Tryz.pinned (OpenSpec.upto historyFailsSpec)

/-- 'bogielaw15.HistoryFalse', WHERE WHAT IT READS IS OF BULK AT MOST 1048576: true; the input reads as it did. -/
def historyFalseUptoRow : OpenClaim := { program := "ytkmdojpfccjnoaagreat", sum := "238d775518a9e3ef949bc3f3944e2153ed142a00a46ab4ac833dd4ccccd448de", func := "bogie/bogielaw15.HistoryFalse", spec := "historyFalse", inPlace := ["internal/bytealg.IndexByteString", "slices.overlaps[bogie/api.Part]", "slices.overlaps[bogie/api.Prop]"], unfollowed := true, recurses := true, plainKeys := false, apart := false, narrowed := true }
def HistoryFalseUptoSaid : Prop := historyFalseUptoRow.holds Tryz.pinned (OpenSpec.upto historyFalseSpec)

/-- 'bogielaw15.HistoryNone', WHERE WHAT IT READS IS OF BULK AT MOST 1048576: true; the input reads as it did. -/
def historyNoneUptoRow : OpenClaim := { program := "ytkmdojpfccjnoaagreat", sum := "238d775518a9e3ef949bc3f3944e2153ed142a00a46ab4ac833dd4ccccd448de", func := "bogie/bogielaw15.HistoryNone", spec := "historyNone", inPlace := ["internal/bytealg.IndexByteString", "slices.overlaps[bogie/api.Part]", "slices.overlaps[bogie/api.Prop]"], unfollowed := true, recurses := true, plainKeys := false, apart := false, narrowed := true }
def HistoryNoneUptoSaid : Prop := historyNoneUptoRow.holds Tryz.pinned (OpenSpec.upto historyNoneSpec)

/-- 'bogielaw15.HistoryPlaces', WHERE WHAT IT READS IS OF BULK AT MOST 1048576: true; the input reads as it did. -/
def historyPlacesUptoRow : OpenClaim := { program := "ytkmdojpfccjnoaagreat", sum := "238d775518a9e3ef949bc3f3944e2153ed142a00a46ab4ac833dd4ccccd448de", func := "bogie/bogielaw15.HistoryPlaces", spec := "historyPlaces", inPlace := ["internal/bytealg.IndexByteString", "slices.overlaps[bogie/api.Part]", "slices.overlaps[bogie/api.Prop]"], unfollowed := true, recurses := true, plainKeys := false, apart := false, narrowed := true }
def HistoryPlacesUptoSaid : Prop := historyPlacesUptoRow.holds Tryz.pinned (OpenSpec.upto historyPlacesSpec)

/-- 'bogielaw15.HistoryApart', WHERE WHAT IT READS IS OF BULK AT MOST 1048576: true; the input reads as it did. -/
def historyApartUptoRow : OpenClaim := { program := "ytkmdojpfccjnoaagreat", sum := "238d775518a9e3ef949bc3f3944e2153ed142a00a46ab4ac833dd4ccccd448de", func := "bogie/bogielaw15.HistoryApart", spec := "historyApart", inPlace := ["internal/bytealg.IndexByteString", "slices.overlaps[bogie/api.Part]", "slices.overlaps[bogie/api.Prop]"], unfollowed := true, recurses := true, plainKeys := false, apart := false, narrowed := true }
def HistoryApartUptoSaid : Prop := historyApartUptoRow.holds Tryz.pinned (OpenSpec.upto historyApartSpec)

end Rows
end Go.Proofs.YtkmdojpfccjnoaaGreat
