/- Facts about the program at a law. -/
import Derived.Test.YtdapmfkbpnjkmaaGreatRows
import Derived.ProofKit
import Derived.OpenShut
import Derived.ChangeMaps5
namespace Go.Proofs.YtdapmfkbpnjkmaaGreat
open Go
set_option linter.all false
namespace lawPlaceEvidence
theorem jointE : ((Rows.placeEvidenceRow.inPlace == Tryz.pinned.checked.prog.inPlace 13) && (Rows.placeEvidenceRow.unfollowed == Tryz.pinned.checked.prog.unfollowed 13) && (Rows.placeEvidenceRow.recurses == Tryz.pinned.checked.prog.recurses 13) && (Rows.placeEvidenceRow.named == Tryz.pinned.checked.prog.varsNamed 13)) = true := by kernel_rfl
end lawPlaceEvidence
end Go.Proofs.YtdapmfkbpnjkmaaGreat
