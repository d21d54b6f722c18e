/- Facts about the program at a law. -/
import Derived.Test.YtdapmfkbpnjkmaaGreatRows
import Derived.ProofKit
import Derived.OpenShut
import Derived.ChangeMaps5
namespace Go.Proofs.YtdapmfkbpnjkmaaGreat
open Go
set_option linter.all false
namespace lawPlaceRoots
theorem jointE : ((Rows.placeRootsRow.inPlace == Tryz.pinned.checked.prog.inPlace 6) && (Rows.placeRootsRow.unfollowed == Tryz.pinned.checked.prog.unfollowed 6) && (Rows.placeRootsRow.recurses == Tryz.pinned.checked.prog.recurses 6) && (Rows.placeRootsRow.named == Tryz.pinned.checked.prog.varsNamed 6)) = true := by kernel_rfl
end lawPlaceRoots
end Go.Proofs.YtdapmfkbpnjkmaaGreat
