/- Facts about the program at a law. -/
import Derived.Test.YtdapmfkbpnjkmaaGreatRows
import Derived.ProofKit
import Derived.OpenShut
import Derived.ChangeMaps5
namespace Go.Proofs.YtdapmfkbpnjkmaaGreat
open Go
set_option linter.all false
namespace lawPlaceHistories
theorem jointE : ((Rows.placeHistoriesRow.inPlace == Tryz.pinned.checked.prog.inPlace 4) && (Rows.placeHistoriesRow.unfollowed == Tryz.pinned.checked.prog.unfollowed 4) && (Rows.placeHistoriesRow.recurses == Tryz.pinned.checked.prog.recurses 4) && (Rows.placeHistoriesRow.named == Tryz.pinned.checked.prog.varsNamed 4)) = true := by kernel_rfl
end lawPlaceHistories
end Go.Proofs.YtdapmfkbpnjkmaaGreat
