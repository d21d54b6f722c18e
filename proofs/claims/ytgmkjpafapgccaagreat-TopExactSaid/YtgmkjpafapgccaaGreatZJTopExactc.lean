/- Facts about the program at a law. -/
import Derived.Test.YtgmkjpafapgccaaGreatRows
import Derived.ProofKit
import Derived.OpenShut
import Derived.ChangeMaps5
namespace Go.Proofs.YtgmkjpafapgccaaGreat
open Go
set_option linter.all false
namespace lawTopExact
theorem jointD : ((Rows.topExactRow.plainKeys == Tryz.pinned.checked.prog.plainKeys) && (Rows.topExactRow.lifted == Tryz.pinned.checked.prog.liftsFinal) && (Tryz.pinned.checked.prog.make == some Rows.topExactRow.make)) = true := by kernel_rfl
end lawTopExact
end Go.Proofs.YtgmkjpafapgccaaGreat
