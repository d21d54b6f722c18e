/- Facts about the program at a law. -/
import Derived.Test.YtdapmfkbpnjkmaaGreatRows
import Derived.ProofKit
import Derived.OpenShut
import Derived.ChangeMaps5
namespace Go.Proofs.YtdapmfkbpnjkmaaGreat
open Go
set_option linter.all false
namespace lawPlaceMatchesReference
theorem jointE : ((Rows.placeMatchesReferenceRow.inPlace == Tryz.pinned.checked.prog.inPlace 3) && (Rows.placeMatchesReferenceRow.unfollowed == Tryz.pinned.checked.prog.unfollowed 3) && (Rows.placeMatchesReferenceRow.recurses == Tryz.pinned.checked.prog.recurses 3) && (Rows.placeMatchesReferenceRow.named == Tryz.pinned.checked.prog.varsNamed 3)) = true := by kernel_rfl
end lawPlaceMatchesReference
end Go.Proofs.YtdapmfkbpnjkmaaGreat
