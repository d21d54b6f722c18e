/- Facts about the program at a law. -/
import Derived.Test.YtdapmfkbpnjkmaaGreatRows
import Derived.ProofKit
import Derived.OpenShut
import Derived.ChangeMaps5
namespace Go.Proofs.YtdapmfkbpnjkmaaGreat
open Go
set_option linter.all false
namespace lawPlaceBothWays
theorem jointD : ((Rows.placeBothWaysRow.plainKeys == Tryz.pinned.checked.prog.plainKeys) && (Rows.placeBothWaysRow.lifted == Tryz.pinned.checked.prog.liftsFinal) && (Tryz.pinned.checked.prog.make == some Rows.placeBothWaysRow.make)) = true := by kernel_rfl
end lawPlaceBothWays
end Go.Proofs.YtdapmfkbpnjkmaaGreat
