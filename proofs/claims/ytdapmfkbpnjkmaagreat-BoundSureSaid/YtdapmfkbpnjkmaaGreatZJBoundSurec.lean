/- Facts about the program at a law. -/
import Derived.Test.YtdapmfkbpnjkmaaGreatRows
import Derived.ProofKit
import Derived.OpenShut
import Derived.ChangeMaps5
namespace Go.Proofs.YtdapmfkbpnjkmaaGreat
open Go
set_option linter.all false
namespace lawBoundSure
theorem jointD : ((Rows.boundSureRow.plainKeys == Tryz.pinned.checked.prog.plainKeys) && (Rows.boundSureRow.lifted == Tryz.pinned.checked.prog.liftsFinal) && (Tryz.pinned.checked.prog.make == some Rows.boundSureRow.make)) = true := by kernel_rfl
end lawBoundSure
end Go.Proofs.YtdapmfkbpnjkmaaGreat
