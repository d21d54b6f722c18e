/- Facts about the program at a law. -/
import Derived.Test.YtdapmfkbpnjkmaaGreatRows
import Derived.ProofKit
import Derived.OpenShut
import Derived.ChangeMaps5
namespace Go.Proofs.YtdapmfkbpnjkmaaGreat
open Go
set_option linter.all false
namespace lawPlaceOthers
theorem jointD : ((Rows.placeOthersRow.plainKeys == Tryz.pinned.checked.prog.plainKeys) && (Rows.placeOthersRow.lifted == Tryz.pinned.checked.prog.liftsFinal) && (Tryz.pinned.checked.prog.make == some Rows.placeOthersRow.make)) = true := by kernel_rfl
end lawPlaceOthers
end Go.Proofs.YtdapmfkbpnjkmaaGreat
