/- Facts about the program at a law. -/
import Derived.Test.YtdapmfkbpnjkmaaGreatRows
import Derived.ProofKit
import Derived.OpenShut
import Derived.ChangeMaps5
namespace Go.Proofs.YtdapmfkbpnjkmaaGreat
open Go
set_option linter.all false
namespace lawPlaceEvidence
theorem jointD : ((Rows.placeEvidenceRow.plainKeys == Tryz.pinned.checked.prog.plainKeys) && (Rows.placeEvidenceRow.lifted == Tryz.pinned.checked.prog.liftsFinal) && (Tryz.pinned.checked.prog.make == some Rows.placeEvidenceRow.make)) = true := by kernel_rfl
end lawPlaceEvidence
end Go.Proofs.YtdapmfkbpnjkmaaGreat
