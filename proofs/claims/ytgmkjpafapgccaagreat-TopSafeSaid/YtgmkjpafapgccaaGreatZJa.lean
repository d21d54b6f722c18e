/- A fact about the program. -/
import Derived.Test.YtgmkjpafapgccaaGreatRows
import Derived.ProofKit
import Derived.OpenShut
import Derived.ChangeMaps5
namespace Go.Proofs.YtgmkjpafapgccaaGreat
open Go
set_option linter.all false
theorem jointA : (laidOutB Tryz.pinned.checked.prog && mapsRowed Tryz.pinned.checked.prog) = true := by kernel_rfl
end Go.Proofs.YtgmkjpafapgccaaGreat
