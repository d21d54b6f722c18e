/- Facts about the program at a law. -/
import Derived.Test.YtdapmfkbpnjkmaaGreatRows
import Derived.ProofKit
import Derived.OpenShut
import Derived.ChangeMaps5
namespace Go.Proofs.YtdapmfkbpnjkmaaGreat
open Go
set_option linter.all false
namespace lawBoundHolds
theorem jointD : ((Rows.boundHoldsRow.plainKeys == Tryz.pinned.checked.prog.plainKeys) && (Rows.boundHoldsRow.lifted == Tryz.pinned.checked.prog.liftsFinal) && (Tryz.pinned.checked.prog.make == some Rows.boundHoldsRow.make)) = true := by kernel_rfl
end lawBoundHolds
end Go.Proofs.YtdapmfkbpnjkmaaGreat
