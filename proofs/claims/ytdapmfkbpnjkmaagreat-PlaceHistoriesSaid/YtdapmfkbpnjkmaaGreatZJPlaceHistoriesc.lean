/- Facts about the program at a law. -/
import Derived.Test.YtdapmfkbpnjkmaaGreatRows
import Derived.ProofKit
import Derived.OpenShut
import Derived.ChangeMaps5
namespace Go.Proofs.YtdapmfkbpnjkmaaGreat
open Go
set_option linter.all false
namespace lawPlaceHistories
theorem jointD : ((Rows.placeHistoriesRow.plainKeys == Tryz.pinned.checked.prog.plainKeys) && (Rows.placeHistoriesRow.lifted == Tryz.pinned.checked.prog.liftsFinal) && (Tryz.pinned.checked.prog.make == some Rows.placeHistoriesRow.make)) = true := by kernel_rfl
end lawPlaceHistories
end Go.Proofs.YtdapmfkbpnjkmaaGreat
