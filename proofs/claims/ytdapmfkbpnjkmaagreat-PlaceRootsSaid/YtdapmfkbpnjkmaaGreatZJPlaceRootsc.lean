/- Facts about the program at a law. -/
import Derived.Test.YtdapmfkbpnjkmaaGreatRows
import Derived.ProofKit
import Derived.OpenShut
import Derived.ChangeMaps5
namespace Go.Proofs.YtdapmfkbpnjkmaaGreat
open Go
set_option linter.all false
namespace lawPlaceRoots
theorem jointD : ((Rows.placeRootsRow.plainKeys == Tryz.pinned.checked.prog.plainKeys) && (Rows.placeRootsRow.lifted == Tryz.pinned.checked.prog.liftsFinal) && (Tryz.pinned.checked.prog.make == some Rows.placeRootsRow.make)) = true := by kernel_rfl
end lawPlaceRoots
end Go.Proofs.YtdapmfkbpnjkmaaGreat
