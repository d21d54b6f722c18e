/- Facts about the program at a law. -/
import Derived.Test.YtdapmfkbpnjkmaaGreatRows
import Derived.ProofKit
import Derived.OpenShut
import Derived.ChangeMaps5
namespace Go.Proofs.YtdapmfkbpnjkmaaGreat
open Go
set_option linter.all false
namespace lawBoundOthers
theorem jointD : ((Rows.boundOthersRow.plainKeys == Tryz.pinned.checked.prog.plainKeys) && (Rows.boundOthersRow.lifted == Tryz.pinned.checked.prog.liftsFinal) && (Tryz.pinned.checked.prog.make == some Rows.boundOthersRow.make)) = true := by kernel_rfl
end lawBoundOthers
end Go.Proofs.YtdapmfkbpnjkmaaGreat
