/- Facts about the program at a law. -/
import Derived.Test.YtdapmfkbpnjkmaaGreatRows
import Derived.ProofKit
import Derived.OpenShut
import Derived.ChangeMaps5
namespace Go.Proofs.YtdapmfkbpnjkmaaGreat
open Go
set_option linter.all false
namespace lawPlaceOthers
theorem jointE : ((Rows.placeOthersRow.inPlace == Tryz.pinned.checked.prog.inPlace 8) && (Rows.placeOthersRow.unfollowed == Tryz.pinned.checked.prog.unfollowed 8) && (Rows.placeOthersRow.recurses == Tryz.pinned.checked.prog.recurses 8) && (Rows.placeOthersRow.named == Tryz.pinned.checked.prog.varsNamed 8)) = true := by kernel_rfl
end lawPlaceOthers
end Go.Proofs.YtdapmfkbpnjkmaaGreat
