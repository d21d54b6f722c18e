/-
  No cell of these rows narrows 'for every input' (looked for: loops, veiled, ifaces, maps, wideKeys, modest, calm, conditions, laid).
  DERIVED. THE GIVEN ROWS OF THIS SEAT. 12 by the template 'for every input the law returns true; each argument reads behind the call as it read before'; 0 by the template 'total and deterministic' (their statements: YtoadjlmbdliceaaGreatTotals.lean).
  GIVEN WITH THE SEED: the statements are not yours to turn. If you find one false, say at which input.
  Laid BY PROGRAM, IN A SANDBOX (cutbox-rows.mjs): the forced cells as the released guide's own fill.sh prints them over the translation d06ff0b934ca55af… (all of the seat's roots in one cut). By AI agents, Wed Nov 11 2026. No macro, syntax, notation, axiom, sorry.
-/
import Derived.Test.YtoadjlmbdliceaaGreatChecked
import GoSem.Claim
import GoSem.ClaimJoined
import GoSem.ClaimMapViews
import Derived.JoinedTies
import Derived.KernelRfl
namespace Go.Proofs.YtoadjlmbdliceaaGreat
/- THE CELL 'sum', in the pinned program and in every row, IS THE sha256 OF THE DUMP (.gsa) THAT YtoadjlmbdliceaaGreatProg.lean LOADS. Nothing in Lean hashes anything: it is a label: what it is worth is what the hold of that sum in a sandbox is worth. -/
noncomputable def Tryz.pinned : Pinned := { name := "ytoadjlmbdliceaagreat", sum := "d06ff0b934ca55afd89453fd487ed19b297e69d15ff2295d7f982c39a711bff1", checked := Tryz.checked }
namespace Rows
def none {H : Type} : Left H := { results := [], args := [] }

/-- 'bogielaw16.SearchMatchesReference': WHATEVER THE INPUT: true; the input reads as it did. -/
def searchMatchesReferenceSpec : ChangeSpec := { name := "searchMatchesReference", fn := fun _ => fun
  | [d1, d2, d3] => { results := [.lit (.bool true)], args := [d1, d2, d3] }
  | _ => none }
def searchMatchesReferenceRow : OpenClaim := { program := "ytoadjlmbdliceaagreat", sum := "d06ff0b934ca55afd89453fd487ed19b297e69d15ff2295d7f982c39a711bff1", func := "bogie/bogielaw16.SearchMatchesReference", spec := "searchMatchesReference", inPlace := ["internal/bytealg.IndexByteString", "slices.overlaps[bogie/api.Part]", "slices.overlaps[bogie/api.Prop]"], unfollowed := true, recurses := true, plainKeys := false, apart := false }
def SearchMatchesReferenceSaid : Prop := searchMatchesReferenceRow.holds Tryz.pinned (OpenSpec.ofChange searchMatchesReferenceSpec)

/-- ITS FALSE NEIGHBOUR: 'it returns false'. Refute it at one input. -/
def searchMatchesReferenceWrong : ChangeSpec := { name := "searchMatchesReference", fn := fun _ => fun
  | [d1, d2, d3] => { results := [.lit (.bool false)], args := [d1, d2, d3] }
  | _ => none }
def SearchMatchesReferenceWrongFalsely : Prop := searchMatchesReferenceRow.holds Tryz.pinned (OpenSpec.ofChange searchMatchesReferenceWrong)

/-- 'bogielaw16.SearchHistories': WHATEVER THE INPUT: true; the input reads as it did. -/
def searchHistoriesSpec : ChangeSpec := { name := "searchHistories", fn := fun _ => fun
  | [d1, d2, d3] => { results := [.lit (.bool true)], args := [d1, d2, d3] }
  | _ => none }
def searchHistoriesRow : OpenClaim := { program := "ytoadjlmbdliceaagreat", sum := "d06ff0b934ca55afd89453fd487ed19b297e69d15ff2295d7f982c39a711bff1", func := "bogie/bogielaw16.SearchHistories", spec := "searchHistories", inPlace := ["internal/bytealg.IndexByteString", "slices.overlaps[bogie/api.Part]", "slices.overlaps[bogie/api.Prop]"], unfollowed := true, recurses := true, plainKeys := false, apart := false }
def SearchHistoriesSaid : Prop := searchHistoriesRow.holds Tryz.pinned (OpenSpec.ofChange searchHistoriesSpec)

/-- ITS FALSE NEIGHBOUR: 'it returns false'. Refute it at one input. -/
def searchHistoriesWrong : ChangeSpec := { name := "searchHistories", fn := fun _ => fun
  | [d1, d2, d3] => { results := [.lit (.bool false)], args := [d1, d2, d3] }
  | _ => none }
def SearchHistoriesWrongFalsely : Prop := searchHistoriesRow.holds Tryz.pinned (OpenSpec.ofChange searchHistoriesWrong)

/-- 'bogielaw16.SearchBegins': WHATEVER THE INPUT: true; the input reads as it did. -/
def searchBeginsSpec : ChangeSpec := { name := "searchBegins", fn := fun _ => fun
  | [d1, d2, d3, d4] => { results := [.lit (.bool true)], args := [d1, d2, d3, d4] }
  | _ => none }
def searchBeginsRow : OpenClaim := { program := "ytoadjlmbdliceaagreat", sum := "d06ff0b934ca55afd89453fd487ed19b297e69d15ff2295d7f982c39a711bff1", func := "bogie/bogielaw16.SearchBegins", spec := "searchBegins", inPlace := ["internal/bytealg.IndexByteString", "slices.overlaps[bogie/api.Part]", "slices.overlaps[bogie/api.Prop]"], unfollowed := true, recurses := true, plainKeys := false, apart := false }
def SearchBeginsSaid : Prop := searchBeginsRow.holds Tryz.pinned (OpenSpec.ofChange searchBeginsSpec)

/-- ITS FALSE NEIGHBOUR: 'it returns false'. Refute it at one input. -/
def searchBeginsWrong : ChangeSpec := { name := "searchBegins", fn := fun _ => fun
  | [d1, d2, d3, d4] => { results := [.lit (.bool false)], args := [d1, d2, d3, d4] }
  | _ => none }
def SearchBeginsWrongFalsely : Prop := searchBeginsRow.holds Tryz.pinned (OpenSpec.ofChange searchBeginsWrong)

/-- 'bogielaw16.SearchEvidence': WHATEVER THE INPUT: true; the input reads as it did. -/
def searchEvidenceSpec : ChangeSpec := { name := "searchEvidence", fn := fun _ => fun
  | [d1, d2, d3, d4] => { results := [.lit (.bool true)], args := [d1, d2, d3, d4] }
  | _ => none }
def searchEvidenceRow : OpenClaim := { program := "ytoadjlmbdliceaagreat", sum := "d06ff0b934ca55afd89453fd487ed19b297e69d15ff2295d7f982c39a711bff1", func := "bogie/bogielaw16.SearchEvidence", spec := "searchEvidence", inPlace := ["internal/bytealg.IndexByteString", "slices.overlaps[bogie/api.Part]", "slices.overlaps[bogie/api.Prop]"], unfollowed := true, recurses := true, plainKeys := false, apart := false }
def SearchEvidenceSaid : Prop := searchEvidenceRow.holds Tryz.pinned (OpenSpec.ofChange searchEvidenceSpec)

/-- ITS FALSE NEIGHBOUR: 'it returns false'. Refute it at one input. -/
def searchEvidenceWrong : ChangeSpec := { name := "searchEvidence", fn := fun _ => fun
  | [d1, d2, d3, d4] => { results := [.lit (.bool false)], args := [d1, d2, d3, d4] }
  | _ => none }
def SearchEvidenceWrongFalsely : Prop := searchEvidenceRow.holds Tryz.pinned (OpenSpec.ofChange searchEvidenceWrong)

/-- 'bogielaw16.SearchSure': WHATEVER THE INPUT: true; the input reads as it did. -/
def searchSureSpec : ChangeSpec := { name := "searchSure", fn := fun _ => fun
  | [d1, d2, d3] => { results := [.lit (.bool true)], args := [d1, d2, d3] }
  | _ => none }
def searchSureRow : OpenClaim := { program := "ytoadjlmbdliceaagreat", sum := "d06ff0b934ca55afd89453fd487ed19b297e69d15ff2295d7f982c39a711bff1", func := "bogie/bogielaw16.SearchSure", spec := "searchSure", inPlace := ["internal/bytealg.IndexByteString", "slices.overlaps[bogie/api.Part]", "slices.overlaps[bogie/api.Prop]"], unfollowed := true, recurses := true, plainKeys := false, apart := false }
def SearchSureSaid : Prop := searchSureRow.holds Tryz.pinned (OpenSpec.ofChange searchSureSpec)

/-- ITS FALSE NEIGHBOUR: 'it returns false'. Refute it at one input. -/
def searchSureWrong : ChangeSpec := { name := "searchSure", fn := fun _ => fun
  | [d1, d2, d3] => { results := [.lit (.bool false)], args := [d1, d2, d3] }
  | _ => none }
def SearchSureWrongFalsely : Prop := searchSureRow.holds Tryz.pinned (OpenSpec.ofChange searchSureWrong)

/-- 'bogielaw16.SearchApart': WHATEVER THE INPUT: true; the input reads as it did. -/
def searchApartSpec : ChangeSpec := { name := "searchApart", fn := fun _ => fun
  | [d1, d2, d3] => { results := [.lit (.bool true)], args := [d1, d2, d3] }
  | _ => none }
def searchApartRow : OpenClaim := { program := "ytoadjlmbdliceaagreat", sum := "d06ff0b934ca55afd89453fd487ed19b297e69d15ff2295d7f982c39a711bff1", func := "bogie/bogielaw16.SearchApart", spec := "searchApart", inPlace := ["internal/bytealg.IndexByteString", "slices.overlaps[bogie/api.Part]", "slices.overlaps[bogie/api.Prop]"], unfollowed := true, recurses := true, plainKeys := false, apart := false }
def SearchApartSaid : Prop := searchApartRow.holds Tryz.pinned (OpenSpec.ofChange searchApartSpec)

/-- ITS FALSE NEIGHBOUR: 'it returns false'. Refute it at one input. -/
def searchApartWrong : ChangeSpec := { name := "searchApart", fn := fun _ => fun
  | [d1, d2, d3] => { results := [.lit (.bool false)], args := [d1, d2, d3] }
  | _ => none }
def SearchApartWrongFalsely : Prop := searchApartRow.holds Tryz.pinned (OpenSpec.ofChange searchApartWrong)

/-- 'bogielaw17.PossibleMatchesReference': WHATEVER THE INPUT: true; the input reads as it did. -/
def possibleMatchesReferenceSpec : ChangeSpec := { name := "possibleMatchesReference", fn := fun _ => fun
  | [d1, d2] => { results := [.lit (.bool true)], args := [d1, d2] }
  | _ => none }
def possibleMatchesReferenceRow : OpenClaim := { program := "ytoadjlmbdliceaagreat", sum := "d06ff0b934ca55afd89453fd487ed19b297e69d15ff2295d7f982c39a711bff1", func := "bogie/bogielaw17.PossibleMatchesReference", spec := "possibleMatchesReference", inPlace := ["internal/bytealg.IndexByteString", "slices.overlaps[bogie/api.Part]", "slices.overlaps[bogie/api.Prop]"], unfollowed := true, recurses := true, plainKeys := false, apart := false }
def PossibleMatchesReferenceSaid : Prop := possibleMatchesReferenceRow.holds Tryz.pinned (OpenSpec.ofChange possibleMatchesReferenceSpec)

/-- ITS FALSE NEIGHBOUR: 'it returns false'. Refute it at one input. -/
def possibleMatchesReferenceWrong : ChangeSpec := { name := "possibleMatchesReference", fn := fun _ => fun
  | [d1, d2] => { results := [.lit (.bool false)], args := [d1, d2] }
  | _ => none }
def PossibleMatchesReferenceWrongFalsely : Prop := possibleMatchesReferenceRow.holds Tryz.pinned (OpenSpec.ofChange possibleMatchesReferenceWrong)

/-- 'bogielaw17.PossibleSure': WHATEVER THE INPUT: true; the input reads as it did. -/
def possibleSureSpec : ChangeSpec := { name := "possibleSure", fn := fun _ => fun
  | [d1, d2] => { results := [.lit (.bool true)], args := [d1, d2] }
  | _ => none }
def possibleSureRow : OpenClaim := { program := "ytoadjlmbdliceaagreat", sum := "d06ff0b934ca55afd89453fd487ed19b297e69d15ff2295d7f982c39a711bff1", func := "bogie/bogielaw17.PossibleSure", spec := "possibleSure", inPlace := ["internal/bytealg.IndexByteString", "slices.overlaps[bogie/api.Part]", "slices.overlaps[bogie/api.Prop]"], unfollowed := true, recurses := true, plainKeys := false, apart := false }
def PossibleSureSaid : Prop := possibleSureRow.holds Tryz.pinned (OpenSpec.ofChange possibleSureSpec)

/-- ITS FALSE NEIGHBOUR: 'it returns false'. Refute it at one input. -/
def possibleSureWrong : ChangeSpec := { name := "possibleSure", fn := fun _ => fun
  | [d1, d2] => { results := [.lit (.bool false)], args := [d1, d2] }
  | _ => none }
def PossibleSureWrongFalsely : Prop := possibleSureRow.holds Tryz.pinned (OpenSpec.ofChange possibleSureWrong)

/-- 'bogielaw17.PossibleEvidence': WHATEVER THE INPUT: true; the input reads as it did. -/
def possibleEvidenceSpec : ChangeSpec := { name := "possibleEvidence", fn := fun _ => fun
  | [d1, d2, d3, d4] => { results := [.lit (.bool true)], args := [d1, d2, d3, d4] }
  | _ => none }
def possibleEvidenceRow : OpenClaim := { program := "ytoadjlmbdliceaagreat", sum := "d06ff0b934ca55afd89453fd487ed19b297e69d15ff2295d7f982c39a711bff1", func := "bogie/bogielaw17.PossibleEvidence", spec := "possibleEvidence", inPlace := ["internal/bytealg.IndexByteString", "slices.overlaps[bogie/api.Part]", "slices.overlaps[bogie/api.Prop]"], unfollowed := true, recurses := true, plainKeys := false, apart := false }
def PossibleEvidenceSaid : Prop := possibleEvidenceRow.holds Tryz.pinned (OpenSpec.ofChange possibleEvidenceSpec)

/-- ITS FALSE NEIGHBOUR: 'it returns false'. Refute it at one input. -/
def possibleEvidenceWrong : ChangeSpec := { name := "possibleEvidence", fn := fun _ => fun
  | [d1, d2, d3, d4] => { results := [.lit (.bool false)], args := [d1, d2, d3, d4] }
  | _ => none }
def PossibleEvidenceWrongFalsely : Prop := possibleEvidenceRow.holds Tryz.pinned (OpenSpec.ofChange possibleEvidenceWrong)

/-- 'bogielaw17.PossibleOthers': WHATEVER THE INPUT: true; the input reads as it did. -/
def possibleOthersSpec : ChangeSpec := { name := "possibleOthers", fn := fun _ => fun
  | [d1, d2] => { results := [.lit (.bool true)], args := [d1, d2] }
  | _ => none }
def possibleOthersRow : OpenClaim := { program := "ytoadjlmbdliceaagreat", sum := "d06ff0b934ca55afd89453fd487ed19b297e69d15ff2295d7f982c39a711bff1", func := "bogie/bogielaw17.PossibleOthers", spec := "possibleOthers", inPlace := ["internal/bytealg.IndexByteString", "slices.overlaps[bogie/api.Part]", "slices.overlaps[bogie/api.Prop]"], unfollowed := true, recurses := true, plainKeys := false, apart := false }
def PossibleOthersSaid : Prop := possibleOthersRow.holds Tryz.pinned (OpenSpec.ofChange possibleOthersSpec)

/-- ITS FALSE NEIGHBOUR: 'it returns false'. Refute it at one input. -/
def possibleOthersWrong : ChangeSpec := { name := "possibleOthers", fn := fun _ => fun
  | [d1, d2] => { results := [.lit (.bool false)], args := [d1, d2] }
  | _ => none }
def PossibleOthersWrongFalsely : Prop := possibleOthersRow.holds Tryz.pinned (OpenSpec.ofChange possibleOthersWrong)

/-- 'bogielaw17.PossibleWitness': WHATEVER THE INPUT: true; the input reads as it did. -/
def possibleWitnessSpec : ChangeSpec := { name := "possibleWitness", fn := fun _ => fun
  | [d1, d2, d3, d4] => { results := [.lit (.bool true)], args := [d1, d2, d3, d4] }
  | _ => none }
def possibleWitnessRow : OpenClaim := { program := "ytoadjlmbdliceaagreat", sum := "d06ff0b934ca55afd89453fd487ed19b297e69d15ff2295d7f982c39a711bff1", func := "bogie/bogielaw17.PossibleWitness", spec := "possibleWitness", inPlace := ["internal/bytealg.IndexByteString", "slices.overlaps[bogie/api.Part]", "slices.overlaps[bogie/api.Prop]"], unfollowed := true, recurses := true, plainKeys := false, apart := false }
def PossibleWitnessSaid : Prop := possibleWitnessRow.holds Tryz.pinned (OpenSpec.ofChange possibleWitnessSpec)

/-- ITS FALSE NEIGHBOUR: 'it returns false'. Refute it at one input. -/
def possibleWitnessWrong : ChangeSpec := { name := "possibleWitness", fn := fun _ => fun
  | [d1, d2, d3, d4] => { results := [.lit (.bool false)], args := [d1, d2, d3, d4] }
  | _ => none }
def PossibleWitnessWrongFalsely : Prop := possibleWitnessRow.holds Tryz.pinned (OpenSpec.ofChange possibleWitnessWrong)

/-- 'bogielaw17.PossibleHistories': WHATEVER THE INPUT: true; the input reads as it did. -/
def possibleHistoriesSpec : ChangeSpec := { name := "possibleHistories", fn := fun _ => fun
  | [d1, d2, d3] => { results := [.lit (.bool true)], args := [d1, d2, d3] }
  | _ => none }
def possibleHistoriesRow : OpenClaim := { program := "ytoadjlmbdliceaagreat", sum := "d06ff0b934ca55afd89453fd487ed19b297e69d15ff2295d7f982c39a711bff1", func := "bogie/bogielaw17.PossibleHistories", spec := "possibleHistories", inPlace := ["internal/bytealg.IndexByteString", "slices.overlaps[bogie/api.Part]", "slices.overlaps[bogie/api.Prop]"], unfollowed := true, recurses := true, plainKeys := false, apart := false }
def PossibleHistoriesSaid : Prop := possibleHistoriesRow.holds Tryz.pinned (OpenSpec.ofChange possibleHistoriesSpec)

/-- ITS FALSE NEIGHBOUR: 'it returns false'. Refute it at one input. -/
def possibleHistoriesWrong : ChangeSpec := { name := "possibleHistories", fn := fun _ => fun
  | [d1, d2, d3] => { results := [.lit (.bool false)], args := [d1, d2, d3] }
  | _ => none }
def PossibleHistoriesWrongFalsely : Prop := possibleHistoriesRow.holds Tryz.pinned (OpenSpec.ofChange possibleHistoriesWrong)

/- THE SECOND FORM. 'bulk': how many values and letters a reading holds, each counted each time it is reached (what is shared counts as often as it is met; a slice's spare places count too). A statement '..UptoSaid' is the law's where the arguments, and the package variables that the reading takes, are together of bulk at most 1048576: NARROWER than '..Said'. Prove '..Said' where nothing that the law and all that it calls make is longer than what came in: it says more and counts as full. Else prove '..UptoSaid'. A law counts once. -/
mutual
def uptoBulk {H : Type} : DataW H → Nat
  | .lit (.string bytes) => bytes.length + 1
  | .lit _ => 1
  | .nil => 1
  | .ptr d => uptoBulk d + 1
  | .slice elems spare => uptoBulkAll elems + uptoBulkAll spare + 1
  | .agg parts => uptoBulkAll parts + 1
  | .iface _ d => uptoBulk d + 1
  | .map entries => uptoBulkEntries entries + 1
  | .held _ => 1
def uptoBulkAll {H : Type} : List (DataW H) → Nat
  | [] => 0
  | d :: r => uptoBulk d + uptoBulkAll r
def uptoBulkEntries {H : Type} : List (Lit × DataW H) → Nat
  | [] => 0
  | x :: r => uptoBulkEntry x + uptoBulkEntries r
def uptoBulkEntry {H : Type} : Lit × DataW H → Nat
  | (.string bytes, d) => bytes.length + uptoBulk d + 1
  | (_, d) => uptoBulk d + 1
 end
def uptoSmall : (H : Type) → List (DataW H) → Bool := fun _ ds => decide (uptoBulkAll ds ≤ 1048576)
def OpenSpec.upto (s : _root_.Go.ChangeSpec) : _root_.Go.OpenSpec := { _root_.Go.OpenSpec.ofChange s with cond := some uptoSmall }

/-- 'bogielaw16.SearchMatchesReference', WHERE WHAT IT READS IS OF BULK AT MOST 1048576: true; the input reads as it did. -/
def searchMatchesReferenceUptoRow : OpenClaim := { program := "ytoadjlmbdliceaagreat", sum := "d06ff0b934ca55afd89453fd487ed19b297e69d15ff2295d7f982c39a711bff1", func := "bogie/bogielaw16.SearchMatchesReference", spec := "searchMatchesReference", inPlace := ["internal/bytealg.IndexByteString", "slices.overlaps[bogie/api.Part]", "slices.overlaps[bogie/api.Prop]"], unfollowed := true, recurses := true, plainKeys := false, apart := false, narrowed := true }
def SearchMatchesReferenceUptoSaid : Prop := searchMatchesReferenceUptoRow.holds Tryz.pinned (OpenSpec.upto searchMatchesReferenceSpec)

/-- 'bogielaw16.SearchHistories', WHERE WHAT IT READS IS OF BULK AT MOST 1048576: true; the input reads as it did. -/
def searchHistoriesUptoRow : OpenClaim := { program := "ytoadjlmbdliceaagreat", sum := "d06ff0b934ca55afd89453fd487ed19b297e69d15ff2295d7f982c39a711bff1", func := "bogie/bogielaw16.SearchHistories", spec := "searchHistories", inPlace := ["internal/bytealg.IndexByteString", "slices.overlaps[bogie/api.Part]", "slices.overlaps[bogie/api.Prop]"], unfollowed := true, recurses := true, plainKeys := false, apart := false, narrowed := true }
def SearchHistoriesUptoSaid : Prop := searchHistoriesUptoRow.holds Tryz.pinned (OpenSpec.upto searchHistoriesSpec)

/-- 'bogielaw16.SearchBegins', WHERE WHAT IT READS IS OF BULK AT MOST 1048576: true; the input reads as it did. -/
def searchBeginsUptoRow : OpenClaim := { program := "ytoadjlmbdliceaagreat", sum := "d06ff0b934ca55afd89453fd487ed19b297e69d15ff2295d7f982c39a711bff1", func := "bogie/bogielaw16.SearchBegins", spec := "searchBegins", inPlace := ["internal/bytealg.IndexByteString", "slices.overlaps[bogie/api.Part]", "slices.overlaps[bogie/api.Prop]"], unfollowed := true, recurses := true, plainKeys := false, apart := false, narrowed := true }
def SearchBeginsUptoSaid : Prop := searchBeginsUptoRow.holds Tryz.pinned (OpenSpec.upto searchBeginsSpec)

/-- 'bogielaw16.SearchEvidence', WHERE WHAT IT READS IS OF BULK AT MOST 1048576: true; the input reads as it did. -/
def searchEvidenceUptoRow : OpenClaim := { program := "ytoadjlmbdliceaagreat", sum := "d06ff0b934ca55afd89453fd487ed19b297e69d15ff2295d7f982c39a711bff1", func := "bogie/bogielaw16.SearchEvidence", spec := "searchEvidence", inPlace := ["internal/bytealg.IndexByteString", "slices.overlaps[bogie/api.Part]", "slices.overlaps[bogie/api.Prop]"], unfollowed := true, recurses := true, plainKeys := false, apart := false, narrowed := true }
def SearchEvidenceUptoSaid : Prop := searchEvidenceUptoRow.holds Tryz.pinned (OpenSpec.upto searchEvidenceSpec)

/-- 'bogielaw16.SearchSure', WHERE WHAT IT READS IS OF BULK AT MOST 1048576: true; the input reads as it did. -/
def searchSureUptoRow : OpenClaim := { program := "ytoadjlmbdliceaagreat", sum := "d06ff0b934ca55afd89453fd487ed19b297e69d15ff2295d7f982c39a711bff1", func := "bogie/bogielaw16.SearchSure", spec := "searchSure", inPlace := ["internal/bytealg.IndexByteString", "slices.overlaps[bogie/api.Part]", "slices.overlaps[bogie/api.Prop]"], unfollowed := true, recurses := true, plainKeys := false, apart := false, narrowed := true }
def SearchSureUptoSaid : Prop := searchSureUptoRow.holds Tryz.pinned (OpenSpec.upto searchSureSpec)

/-- 'bogielaw16.SearchApart', WHERE WHAT IT READS IS OF BULK AT MOST 1048576: true; the input reads as it did. -/
def searchApartUptoRow : OpenClaim := { program := "ytoadjlmbdliceaagreat", sum := "d06ff0b934ca55afd89453fd487ed19b297e69d15ff2295d7f982c39a711bff1", func := "bogie/bogielaw16.SearchApart", spec := "searchApart", inPlace := ["internal/bytealg.IndexByteString", "slices.overlaps[bogie/api.Part]", "slices.overlaps[bogie/api.Prop]"], unfollowed := true, recurses := true, plainKeys := false, apart := false, narrowed := true }
def SearchApartUptoSaid : Prop := searchApartUptoRow.holds Tryz.pinned (OpenSpec.upto searchApartSpec)

/-- 'bogielaw17.PossibleMatchesReference', WHERE WHAT IT READS IS OF BULK AT MOST 1048576: true; the input reads as it did. -/
def possibleMatchesReferenceUptoRow : OpenClaim := { program := "ytoadjlmbdliceaagreat", sum := "d06ff0b934ca55afd89453fd487ed19b297e69d15ff2295d7f982c39a711bff1", func := "bogie/bogielaw17.PossibleMatchesReference", spec := "possibleMatchesReference", inPlace := ["internal/bytealg.IndexByteString", "slices.overlaps[bogie/api.Part]", "slices.overlaps[bogie/api.Prop]"], unfollowed := true, recurses := true, plainKeys := false, apart := false, narrowed := true }
def PossibleMatchesReferenceUptoSaid : Prop := possibleMatchesReferenceUptoRow.holds Tryz.pinned (OpenSpec.upto possibleMatchesReferenceSpec)

/-- 'bogielaw17.PossibleSure', WHERE WHAT IT READS IS OF BULK AT MOST 1048576: true; the input reads as it did. -/
def possibleSureUptoRow : OpenClaim := { program := "ytoadjlmbdliceaagreat", sum := "d06ff0b934ca55afd89453fd487ed19b297e69d15ff2295d7f982c39a711bff1", func := "bogie/bogielaw17.PossibleSure", spec := "possibleSure", inPlace := ["internal/bytealg.IndexByteString", "slices.overlaps[bogie/api.Part]", "slices.overlaps[bogie/api.Prop]"], unfollowed := true, recurses := true, plainKeys := false, apart := false, narrowed := true }
def PossibleSureUptoSaid : Prop := possibleSureUptoRow.holds Tryz.pinned (OpenSpec.upto possibleSureSpec)

/-- 'bogielaw17.PossibleEvidence', WHERE WHAT IT READS IS OF BULK AT MOST 1048576: true; the input reads as it did. -/
def possibleEvidenceUptoRow : OpenClaim := { program := "ytoadjlmbdliceaagreat", sum := "d06ff0b934ca55afd89453fd487ed19b297e69d15ff2295d7f982c39a711bff1", func := "bogie/bogielaw17.PossibleEvidence", spec := "possibleEvidence", inPlace := ["internal/bytealg.IndexByteString", "slices.overlaps[bogie/api.Part]", "slices.overlaps[bogie/api.Prop]"], unfollowed := true, recurses := true, plainKeys := false, apart := false, narrowed := true }
def PossibleEvidenceUptoSaid : Prop := possibleEvidenceUptoRow.holds Tryz.pinned (OpenSpec.upto possibleEvidenceSpec)

/-- 'bogielaw17.PossibleOthers', WHERE WHAT IT READS IS OF BULK AT MOST 1048576: true; the input reads as it did. -/
def possibleOthersUptoRow : OpenClaim := { program := "ytoadjlmbdliceaagreat", sum := "d06ff0b934ca55afd89453fd487ed19b297e69d15ff2295d7f982c39a711bff1", func := "bogie/bogielaw17.PossibleOthers", spec := "possibleOthers", inPlace := ["internal/bytealg.IndexByteString", "slices.overlaps[bogie/api.Part]", "slices.overlaps[bogie/api.Prop]"], unfollowed := true, recurses := true, plainKeys := false, apart := false, narrowed := true }
def PossibleOthersUptoSaid : Prop := possibleOthersUptoRow.holds Tryz.pinned (OpenSpec.upto possibleOthersSpec)

/-- 'bogielaw17.PossibleWitness', WHERE WHAT IT READS IS OF BULK AT MOST 1048576: true; the input reads as it did. -/
def possibleWitnessUptoRow : OpenClaim := { program := "ytoadjlmbdliceaagreat", sum := "d06ff0b934ca55afd89453fd487ed19b297e69d15ff2295d7f982c39a711bff1", func := "bogie/bogielaw17.PossibleWitness", spec := "possibleWitness", inPlace := ["internal/bytealg.IndexByteString", "slices.overlaps[bogie/api.Part]", "slices.overlaps[bogie/api.Prop]"], unfollowed := true, recurses := true, plainKeys := false, apart := false, narrowed := true }
def PossibleWitnessUptoSaid : Prop := possibleWitnessUptoRow.holds Tryz.pinned (OpenSpec.upto possibleWitnessSpec)

/-- 'bogielaw17.PossibleHistories', WHERE WHAT IT READS IS OF BULK AT MOST 1048576: true; the input reads as it did. -/
def possibleHistoriesUptoRow : OpenClaim := { program := "ytoadjlmbdliceaagreat", sum := "d06ff0b934ca55afd89453fd487ed19b297e69d15ff2295d7f982c39a711bff1", func := "bogie/bogielaw17.PossibleHistories", spec := "possibleHistories", inPlace := ["internal/bytealg.IndexByteString", "slices.overlaps[bogie/api.Part]", "slices.overlaps[bogie/api.Prop]"], unfollowed := true, recurses := true, plainKeys := false, apart := false, narrowed := true }
def PossibleHistoriesUptoSaid : Prop := possibleHistoriesUptoRow.holds Tryz.pinned (OpenSpec.upto possibleHistoriesSpec)

end Rows
end Go.Proofs.YtoadjlmbdliceaaGreat
