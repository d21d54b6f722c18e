/- Facts about the program at a law. -/
import Derived.Test.YtdapmfkbpnjkmaaGreatRows
import Derived.ProofKit
import Derived.OpenShut
import Derived.ChangeMaps5
namespace Go.Proofs.YtdapmfkbpnjkmaaGreat
open Go
set_option linter.all false
namespace lawPlaceSure
theorem jointD : ((Rows.placeSureRow.plainKeys == Tryz.pinned.checked.prog.plainKeys) && (Rows.placeSureRow.lifted == Tryz.pinned.checked.prog.liftsFinal) && (Tryz.pinned.checked.prog.make == some Rows.placeSureRow.make)) = true := by kernel_rfl
end lawPlaceSure
end Go.Proofs.YtdapmfkbpnjkmaaGreat
