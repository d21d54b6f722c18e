/- Facts about the program at a law. -/
import Derived.Test.YtdapmfkbpnjkmaaGreatRows
import Derived.ProofKit
import Derived.OpenShut
import Derived.ChangeMaps5
namespace Go.Proofs.YtdapmfkbpnjkmaaGreat
open Go
set_option linter.all false
namespace lawBoundHolds
theorem jointE : ((Rows.boundHoldsRow.inPlace == Tryz.pinned.checked.prog.inPlace 10) && (Rows.boundHoldsRow.unfollowed == Tryz.pinned.checked.prog.unfollowed 10) && (Rows.boundHoldsRow.recurses == Tryz.pinned.checked.prog.recurses 10) && (Rows.boundHoldsRow.named == Tryz.pinned.checked.prog.varsNamed 10)) = true := by kernel_rfl
end lawBoundHolds
end Go.Proofs.YtdapmfkbpnjkmaaGreat
