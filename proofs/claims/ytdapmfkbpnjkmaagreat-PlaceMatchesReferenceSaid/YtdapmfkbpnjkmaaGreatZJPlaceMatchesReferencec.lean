/- Facts about the program at a law. -/
import Derived.Test.YtdapmfkbpnjkmaaGreatRows
import Derived.ProofKit
import Derived.OpenShut
import Derived.ChangeMaps5
namespace Go.Proofs.YtdapmfkbpnjkmaaGreat
open Go
set_option linter.all false
namespace lawPlaceMatchesReference
theorem jointD : ((Rows.placeMatchesReferenceRow.plainKeys == Tryz.pinned.checked.prog.plainKeys) && (Rows.placeMatchesReferenceRow.lifted == Tryz.pinned.checked.prog.liftsFinal) && (Tryz.pinned.checked.prog.make == some Rows.placeMatchesReferenceRow.make)) = true := by kernel_rfl
end lawPlaceMatchesReference
end Go.Proofs.YtdapmfkbpnjkmaaGreat
