/- A fact about the program. -/
import Derived.Test.YtgmkjpafapgccaaGreatRows
import Derived.ProofKit
import Derived.OpenShut
import Derived.ChangeMaps5
namespace Go.Proofs.YtgmkjpafapgccaaGreat
open Go
set_option linter.all false
theorem jointB : ((Tryz.pinned.checked.prog.stops == []) && (Tryz.pinned.checked.prog.stopKnobs == []) && Tryz.pinned.checked.prog.stopsHeard && Tryz.pinned.checked.prog.mayEnter) = true := by kernel_rfl
end Go.Proofs.YtgmkjpafapgccaaGreat
