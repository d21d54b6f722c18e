/- Facts about the program at a law. -/
import Derived.Test.YtdapmfkbpnjkmaaGreatRows
import Derived.ProofKit
import Derived.OpenShut
import Derived.ChangeMaps5
namespace Go.Proofs.YtdapmfkbpnjkmaaGreat
open Go
set_option linter.all false
namespace lawBoundDecided
theorem jointE : ((Rows.boundDecidedRow.inPlace == Tryz.pinned.checked.prog.inPlace 14) && (Rows.boundDecidedRow.unfollowed == Tryz.pinned.checked.prog.unfollowed 14) && (Rows.boundDecidedRow.recurses == Tryz.pinned.checked.prog.recurses 14) && (Rows.boundDecidedRow.named == Tryz.pinned.checked.prog.varsNamed 14)) = true := by kernel_rfl
end lawBoundDecided
end Go.Proofs.YtdapmfkbpnjkmaaGreat
