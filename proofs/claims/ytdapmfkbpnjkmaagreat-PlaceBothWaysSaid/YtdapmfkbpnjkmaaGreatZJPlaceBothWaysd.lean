/- Facts about the program at a law. -/
import Derived.Test.YtdapmfkbpnjkmaaGreatRows
import Derived.ProofKit
import Derived.OpenShut
import Derived.ChangeMaps5
namespace Go.Proofs.YtdapmfkbpnjkmaaGreat
open Go
set_option linter.all false
namespace lawPlaceBothWays
theorem jointE : ((Rows.placeBothWaysRow.inPlace == Tryz.pinned.checked.prog.inPlace 5) && (Rows.placeBothWaysRow.unfollowed == Tryz.pinned.checked.prog.unfollowed 5) && (Rows.placeBothWaysRow.recurses == Tryz.pinned.checked.prog.recurses 5) && (Rows.placeBothWaysRow.named == Tryz.pinned.checked.prog.varsNamed 5)) = true := by kernel_rfl
end lawPlaceBothWays
end Go.Proofs.YtdapmfkbpnjkmaaGreat
