/- Facts about the program at a law. -/
import Derived.Test.YtgmkjpafapgccaaGreatRows
import Derived.ProofKit
import Derived.OpenShut
import Derived.ChangeMaps5
namespace Go.Proofs.YtgmkjpafapgccaaGreat
open Go
set_option linter.all false
namespace lawTopSafe
theorem jointD : ((Rows.topSafeRow.plainKeys == Tryz.pinned.checked.prog.plainKeys) && (Rows.topSafeRow.lifted == Tryz.pinned.checked.prog.liftsFinal) && (Tryz.pinned.checked.prog.make == some Rows.topSafeRow.make)) = true := by kernel_rfl
end lawTopSafe
end Go.Proofs.YtgmkjpafapgccaaGreat
