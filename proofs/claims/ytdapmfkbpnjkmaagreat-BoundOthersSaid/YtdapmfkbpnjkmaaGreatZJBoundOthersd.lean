/- Facts about the program at a law. -/
import Derived.Test.YtdapmfkbpnjkmaaGreatRows
import Derived.ProofKit
import Derived.OpenShut
import Derived.ChangeMaps5
namespace Go.Proofs.YtdapmfkbpnjkmaaGreat
open Go
set_option linter.all false
namespace lawBoundOthers
theorem jointE : ((Rows.boundOthersRow.inPlace == Tryz.pinned.checked.prog.inPlace 12) && (Rows.boundOthersRow.unfollowed == Tryz.pinned.checked.prog.unfollowed 12) && (Rows.boundOthersRow.recurses == Tryz.pinned.checked.prog.recurses 12) && (Rows.boundOthersRow.named == Tryz.pinned.checked.prog.varsNamed 12)) = true := by kernel_rfl
end lawBoundOthers
end Go.Proofs.YtdapmfkbpnjkmaaGreat
