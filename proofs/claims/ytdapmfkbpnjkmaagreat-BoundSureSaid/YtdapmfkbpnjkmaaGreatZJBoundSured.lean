/- Facts about the program at a law. -/
import Derived.Test.YtdapmfkbpnjkmaaGreatRows
import Derived.ProofKit
import Derived.OpenShut
import Derived.ChangeMaps5
namespace Go.Proofs.YtdapmfkbpnjkmaaGreat
open Go
set_option linter.all false
namespace lawBoundSure
theorem jointE : ((Rows.boundSureRow.inPlace == Tryz.pinned.checked.prog.inPlace 11) && (Rows.boundSureRow.unfollowed == Tryz.pinned.checked.prog.unfollowed 11) && (Rows.boundSureRow.recurses == Tryz.pinned.checked.prog.recurses 11) && (Rows.boundSureRow.named == Tryz.pinned.checked.prog.varsNamed 11)) = true := by kernel_rfl
end lawBoundSure
end Go.Proofs.YtdapmfkbpnjkmaaGreat
