/- Facts about the program at a law. -/
import Derived.Test.YtdapmfkbpnjkmaaGreatRows
import Derived.ProofKit
import Derived.OpenShut
import Derived.ChangeMaps5
namespace Go.Proofs.YtdapmfkbpnjkmaaGreat
open Go
set_option linter.all false
namespace lawBoundDecided
theorem jointD : ((Rows.boundDecidedRow.plainKeys == Tryz.pinned.checked.prog.plainKeys) && (Rows.boundDecidedRow.lifted == Tryz.pinned.checked.prog.liftsFinal) && (Tryz.pinned.checked.prog.make == some Rows.boundDecidedRow.make)) = true := by kernel_rfl
end lawBoundDecided
end Go.Proofs.YtdapmfkbpnjkmaaGreat
