/- Facts about the program at a law. -/
import Derived.Test.YtdapmfkbpnjkmaaGreatRows
import Derived.ProofKit
import Derived.OpenShut
import Derived.ChangeMaps5
namespace Go.Proofs.YtdapmfkbpnjkmaaGreat
open Go
set_option linter.all false
namespace lawPlaceSure
theorem jointE : ((Rows.placeSureRow.inPlace == Tryz.pinned.checked.prog.inPlace 7) && (Rows.placeSureRow.unfollowed == Tryz.pinned.checked.prog.unfollowed 7) && (Rows.placeSureRow.recurses == Tryz.pinned.checked.prog.recurses 7) && (Rows.placeSureRow.named == Tryz.pinned.checked.prog.varsNamed 7)) = true := by kernel_rfl
end lawPlaceSure
end Go.Proofs.YtdapmfkbpnjkmaaGreat
