/-
  No cell of these rows narrows 'for every input' (looked for: loops, veiled, ifaces, maps, wideKeys, modest, calm, conditions, laid).
  DERIVED. THE GIVEN ROWS OF THIS SEAT. 6 by the template 'for every input the law returns true; each argument reads behind the call as it read before'; 0 by the template 'total and deterministic' (their statements: YtechmdlbpbpkdaaTotals.lean).
  GIVEN WITH THE SEED: the statements are not yours to turn. If you find one false, say at which input.
  Laid BY PROGRAM, IN A SANDBOX (cutbox-rows.mjs): the forced cells as the released guide's own fill.sh prints them over the translation 2393557da9c596b4… (all of the seat's roots in one cut). By AI agents, Wed Nov 11 2026. No macro, syntax, notation, axiom, sorry.
-/
import Derived.Test.YtechmdlbpbpkdaaChecked
import GoSem.Claim
import GoSem.ClaimJoined
import GoSem.ClaimMapViews
import Derived.JoinedTies
import Derived.KernelRfl
namespace Go.Proofs.Ytechmdlbpbpkdaa
/- THE CELL 'sum', in the pinned program and in every row, IS THE sha256 OF THE DUMP (.gsa) THAT YtechmdlbpbpkdaaProg.lean LOADS. Nothing in Lean hashes anything: it is a label: what it is worth is what the hold of that sum in a sandbox is worth. -/
noncomputable def Try.pinned : Pinned := { name := "ytechmdlbpbpkdaa", sum := "2393557da9c596b4b61c8b60d0a05b513b6775f37c1c7461c30931d7cb22e105", checked := Try.checked }
namespace Rows
def none {H : Type} : Left H := { results := [], args := [] }

/-- 'bogielaw11.CourseOrders': WHATEVER THE INPUT: true; the input reads as it did. -/
def courseOrdersSpec : ChangeSpec := { name := "courseOrders", fn := fun _ => fun
  | [d] => { results := [.lit (.bool true)], args := [d] }
  | _ => none }
def courseOrdersRow : OpenClaim := { program := "ytechmdlbpbpkdaa", sum := "2393557da9c596b4b61c8b60d0a05b513b6775f37c1c7461c30931d7cb22e105", func := "bogie/bogielaw11.CourseOrders", spec := "courseOrders", inPlace := ["internal/bytealg.IndexByteString", "slices.overlaps[bogie/api.Part]", "slices.overlaps[bogie/api.Prop]"], unfollowed := true, recurses := true, plainKeys := false, apart := false }
def CourseOrdersSaid : Prop := courseOrdersRow.holds Try.pinned (OpenSpec.ofChange courseOrdersSpec)

/-- ITS FALSE NEIGHBOUR: 'it returns false'. Refute it at one input. -/
def courseOrdersWrong : ChangeSpec := { name := "courseOrders", fn := fun _ => fun
  | [d] => { results := [.lit (.bool false)], args := [d] }
  | _ => none }
def CourseOrdersWrongFalsely : Prop := courseOrdersRow.holds Try.pinned (OpenSpec.ofChange courseOrdersWrong)

/-- 'bogielaw11.CourseGoesOn': WHATEVER THE INPUT: true; the input reads as it did. -/
def courseGoesOnSpec : ChangeSpec := { name := "courseGoesOn", fn := fun _ => fun
  | [d1, d2, d3] => { results := [.lit (.bool true)], args := [d1, d2, d3] }
  | _ => none }
def courseGoesOnRow : OpenClaim := { program := "ytechmdlbpbpkdaa", sum := "2393557da9c596b4b61c8b60d0a05b513b6775f37c1c7461c30931d7cb22e105", func := "bogie/bogielaw11.CourseGoesOn", spec := "courseGoesOn", inPlace := ["internal/bytealg.IndexByteString", "slices.overlaps[bogie/api.Part]", "slices.overlaps[bogie/api.Prop]"], unfollowed := true, recurses := true, plainKeys := false, apart := false }
def CourseGoesOnSaid : Prop := courseGoesOnRow.holds Try.pinned (OpenSpec.ofChange courseGoesOnSpec)

/-- ITS FALSE NEIGHBOUR: 'it returns false'. Refute it at one input. -/
def courseGoesOnWrong : ChangeSpec := { name := "courseGoesOn", fn := fun _ => fun
  | [d1, d2, d3] => { results := [.lit (.bool false)], args := [d1, d2, d3] }
  | _ => none }
def CourseGoesOnWrongFalsely : Prop := courseGoesOnRow.holds Try.pinned (OpenSpec.ofChange courseGoesOnWrong)

/-- 'bogielaw11.CourseDays': WHATEVER THE INPUT: true; the input reads as it did. -/
def courseDaysSpec : ChangeSpec := { name := "courseDays", fn := fun _ => fun
  | [d1, d2, d3, d4] => { results := [.lit (.bool true)], args := [d1, d2, d3, d4] }
  | _ => none }
def courseDaysRow : OpenClaim := { program := "ytechmdlbpbpkdaa", sum := "2393557da9c596b4b61c8b60d0a05b513b6775f37c1c7461c30931d7cb22e105", func := "bogie/bogielaw11.CourseDays", spec := "courseDays", inPlace := ["internal/bytealg.IndexByteString", "slices.overlaps[bogie/api.Part]", "slices.overlaps[bogie/api.Prop]"], unfollowed := true, recurses := true, plainKeys := false, apart := false }
def CourseDaysSaid : Prop := courseDaysRow.holds Try.pinned (OpenSpec.ofChange courseDaysSpec)

/-- ITS FALSE NEIGHBOUR: 'it returns false'. Refute it at one input. -/
def courseDaysWrong : ChangeSpec := { name := "courseDays", fn := fun _ => fun
  | [d1, d2, d3, d4] => { results := [.lit (.bool false)], args := [d1, d2, d3, d4] }
  | _ => none }
def CourseDaysWrongFalsely : Prop := courseDaysRow.holds Try.pinned (OpenSpec.ofChange courseDaysWrong)

/-- 'bogielaw11.CourseReordered': WHATEVER THE INPUT: true; the input reads as it did. -/
def courseReorderedSpec : ChangeSpec := { name := "courseReordered", fn := fun _ => fun
  | [d1, d2, d3] => { results := [.lit (.bool true)], args := [d1, d2, d3] }
  | _ => none }
def courseReorderedRow : OpenClaim := { program := "ytechmdlbpbpkdaa", sum := "2393557da9c596b4b61c8b60d0a05b513b6775f37c1c7461c30931d7cb22e105", func := "bogie/bogielaw11.CourseReordered", spec := "courseReordered", inPlace := ["internal/bytealg.IndexByteString", "slices.overlaps[bogie/api.Part]", "slices.overlaps[bogie/api.Prop]"], unfollowed := true, recurses := true, plainKeys := false, apart := false }
def CourseReorderedSaid : Prop := courseReorderedRow.holds Try.pinned (OpenSpec.ofChange courseReorderedSpec)

/-- ITS FALSE NEIGHBOUR: 'it returns false'. Refute it at one input. -/
def courseReorderedWrong : ChangeSpec := { name := "courseReordered", fn := fun _ => fun
  | [d1, d2, d3] => { results := [.lit (.bool false)], args := [d1, d2, d3] }
  | _ => none }
def CourseReorderedWrongFalsely : Prop := courseReorderedRow.holds Try.pinned (OpenSpec.ofChange courseReorderedWrong)

/-- 'bogielaw11.CourseFails': WHATEVER THE INPUT: true; the input reads as it did. -/
def courseFailsSpec : ChangeSpec := { name := "courseFails", fn := fun _ => fun
  | [d1, d2] => { results := [.lit (.bool true)], args := [d1, d2] }
  | _ => none }
def courseFailsRow : OpenClaim := { program := "ytechmdlbpbpkdaa", sum := "2393557da9c596b4b61c8b60d0a05b513b6775f37c1c7461c30931d7cb22e105", func := "bogie/bogielaw11.CourseFails", spec := "courseFails", inPlace := ["internal/bytealg.IndexByteString", "slices.overlaps[bogie/api.Part]", "slices.overlaps[bogie/api.Prop]"], unfollowed := true, recurses := true, plainKeys := false, apart := false }
def CourseFailsSaid : Prop := courseFailsRow.holds Try.pinned (OpenSpec.ofChange courseFailsSpec)

/-- ITS FALSE NEIGHBOUR: 'it returns false'. Refute it at one input. -/
def courseFailsWrong : ChangeSpec := { name := "courseFails", fn := fun _ => fun
  | [d1, d2] => { results := [.lit (.bool false)], args := [d1, d2] }
  | _ => none }
def CourseFailsWrongFalsely : Prop := courseFailsRow.holds Try.pinned (OpenSpec.ofChange courseFailsWrong)

/-- 'bogielaw11.CourseExchanges': WHATEVER THE INPUT: true; the input reads as it did. -/
def courseExchangesSpec : ChangeSpec := { name := "courseExchanges", fn := fun _ => fun
  | [d1, d2, d3] => { results := [.lit (.bool true)], args := [d1, d2, d3] }
  | _ => none }
def courseExchangesRow : OpenClaim := { program := "ytechmdlbpbpkdaa", sum := "2393557da9c596b4b61c8b60d0a05b513b6775f37c1c7461c30931d7cb22e105", func := "bogie/bogielaw11.CourseExchanges", spec := "courseExchanges", inPlace := ["internal/bytealg.IndexByteString", "slices.overlaps[bogie/api.Part]", "slices.overlaps[bogie/api.Prop]"], unfollowed := true, recurses := true, plainKeys := false, apart := false }
def CourseExchangesSaid : Prop := courseExchangesRow.holds Try.pinned (OpenSpec.ofChange courseExchangesSpec)

/-- ITS FALSE NEIGHBOUR: 'it returns false'. Refute it at one input. -/
def courseExchangesWrong : ChangeSpec := { name := "courseExchanges", fn := fun _ => fun
  | [d1, d2, d3] => { results := [.lit (.bool false)], args := [d1, d2, d3] }
  | _ => none }
def CourseExchangesWrongFalsely : Prop := courseExchangesRow.holds Try.pinned (OpenSpec.ofChange courseExchangesWrong)

/- THE SECOND FORM. 'bulk': how many values and letters a reading holds, each counted each time it is reached (what is shared counts as often as it is met; a slice's spare places count too). A statement '..UptoSaid' is the law's where the arguments, and the package variables that the reading takes, are together of bulk at most 1048576: NARROWER than '..Said'. Prove '..Said' where nothing that the law and all that it calls make is longer than what came in: it says more and counts as full. Else prove '..UptoSaid'. A law counts once. -/
mutual
def uptoBulk {H : Type} : DataW H → Nat
  | .lit (.string bytes) => bytes.length + 1
  | .lit _ => 1
  | .nil => 1
  | .ptr d => uptoBulk d + 1
  | .slice elems spare => uptoBulkAll elems + uptoBulkAll spare + 1
  | .agg parts => uptoBulkAll parts + 1
  | .iface _ d => uptoBulk d + 1
  | .map entries => uptoBulkEntries entries + 1
  | .held _ => 1
def uptoBulkAll {H : Type} : List (DataW H) → Nat
  | [] => 0
  | d :: r => uptoBulk d + uptoBulkAll r
def uptoBulkEntries {H : Type} : List (Lit × DataW H) → Nat
  | [] => 0
  | x :: r => uptoBulkEntry x + uptoBulkEntries r
def uptoBulkEntry {H : Type} : Lit × DataW H → Nat
  | (.string bytes, d) => bytes.length + uptoBulk d + 1
  | (_, d) => uptoBulk d + 1
 end
def uptoSmall : (H : Type) → List (DataW H) → Bool := fun _ ds => decide (uptoBulkAll ds ≤ 1048576)
def OpenSpec.upto (s : _root_.Go.ChangeSpec) : _root_.Go.OpenSpec := { _root_.Go.OpenSpec.ofChange s with cond := some uptoSmall }

/-- 'bogielaw11.CourseOrders', WHERE WHAT IT READS IS OF BULK AT MOST 1048576: true; the input reads as it did. -/
def courseOrdersUptoRow : OpenClaim := { program := "ytechmdlbpbpkdaa", sum := "2393557da9c596b4b61c8b60d0a05b513b6775f37c1c7461c30931d7cb22e105", func := "bogie/bogielaw11.CourseOrders", spec := "courseOrders", inPlace := ["internal/bytealg.IndexByteString", "slices.overlaps[bogie/api.Part]", "slices.overlaps[bogie/api.Prop]"], unfollowed := true, recurses := true, plainKeys := false, apart := false, narrowed := true }
def CourseOrdersUptoSaid : Prop := courseOrdersUptoRow.holds Try.pinned (OpenSpec.upto courseOrdersSpec)

/-- 'bogielaw11.CourseGoesOn', WHERE WHAT IT READS IS OF BULK AT MOST 1048576: true; the input reads as it did. -/
def courseGoesOnUptoRow : OpenClaim := { program := "ytechmdlbpbpkdaa", sum := "2393557da9c596b4b61c8b60d0a05b513b6775f37c1c7461c30931d7cb22e105", func := "bogie/bogielaw11.CourseGoesOn", spec := "courseGoesOn", inPlace := ["internal/bytealg.IndexByteString", "slices.overlaps[bogie/api.Part]", "slices.overlaps[bogie/api.Prop]"], unfollowed := true, recurses := true, plainKeys := false, apart := false, narrowed := true }
def CourseGoesOnUptoSaid : Prop := courseGoesOnUptoRow.holds Try.pinned (OpenSpec.upto courseGoesOnSpec)

/-- 'bogielaw11.CourseDays', WHERE WHAT IT READS IS OF BULK AT MOST 1048576: true; the input reads as it did. -/
def courseDaysUptoRow : OpenClaim := { program := "ytechmdlbpbpkdaa", sum := "2393557da9c596b4b61c8b60d0a05b513b6775f37c1c7461c30931d7cb22e105", func := "bogie/bogielaw11.CourseDays", spec := "courseDays", inPlace := ["internal/bytealg.IndexByteString", "slices.overlaps[bogie/api.Part]", "slices.overlaps[bogie/api.Prop]"], unfollowed := true, recurses := true, plainKeys := false, apart := false, narrowed := true }
def CourseDaysUptoSaid : Prop := courseDaysUptoRow.holds Try.pinned (OpenSpec.upto courseDaysSpec)

/-- 'bogielaw11.CourseReordered', WHERE WHAT IT READS IS OF BULK AT MOST 1048576: true; the input reads as it did. -/
def courseReorderedUptoRow : OpenClaim := { program := "ytechmdlbpbpkdaa", sum := "2393557da9c596b4b61c8b60d0a05b513b6775f37c1c7461c30931d7cb22e105", func := "bogie/bogielaw11.CourseReordered", spec := "courseReordered", inPlace := ["internal/bytealg.IndexByteString", "slices.overlaps[bogie/api.Part]", "slices.overlaps[bogie/api.Prop]"], unfollowed := true, recurses := true, plainKeys := false, apart := false, narrowed := true }
def CourseReorderedUptoSaid : Prop := courseReorderedUptoRow.holds Try.pinned (OpenSpec.upto courseReorderedSpec)

/-- 'bogielaw11.CourseFails', WHERE WHAT IT READS IS OF BULK AT MOST 1048576: true; the input reads as it did. -/
def courseFailsUptoRow : OpenClaim := { program := "ytechmdlbpbpkdaa", sum := "2393557da9c596b4b61c8b60d0a05b513b6775f37c1c7461c30931d7cb22e105", func := "bogie/bogielaw11.CourseFails", spec := "courseFails", inPlace := ["internal/bytealg.IndexByteString", "slices.overlaps[bogie/api.Part]", "slices.overlaps[bogie/api.Prop]"], unfollowed := true, recurses := true, plainKeys := false, apart := false, narrowed := true }
def CourseFailsUptoSaid : Prop := courseFailsUptoRow.holds Try.pinned (OpenSpec.upto courseFailsSpec)

/-- 'bogielaw11.CourseExchanges', WHERE WHAT IT READS IS OF BULK AT MOST 1048576: true; the input reads as it did. -/
def courseExchangesUptoRow : OpenClaim := { program := "ytechmdlbpbpkdaa", sum := "2393557da9c596b4b61c8b60d0a05b513b6775f37c1c7461c30931d7cb22e105", func := "bogie/bogielaw11.CourseExchanges", spec := "courseExchanges", inPlace := ["internal/bytealg.IndexByteString", "slices.overlaps[bogie/api.Part]", "slices.overlaps[bogie/api.Prop]"], unfollowed := true, recurses := true, plainKeys := false, apart := false, narrowed := true }
def CourseExchangesUptoSaid : Prop := courseExchangesUptoRow.holds Try.pinned (OpenSpec.upto courseExchangesSpec)

end Rows
end Go.Proofs.Ytechmdlbpbpkdaa
