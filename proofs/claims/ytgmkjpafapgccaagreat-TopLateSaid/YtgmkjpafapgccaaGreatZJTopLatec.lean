/- Facts about the program at a law. -/
import Derived.Test.YtgmkjpafapgccaaGreatRows
import Derived.ProofKit
import Derived.OpenShut
import Derived.ChangeMaps5
namespace Go.Proofs.YtgmkjpafapgccaaGreat
open Go
set_option linter.all false
namespace lawTopLate
theorem jointD : ((Rows.topLateRow.plainKeys == Tryz.pinned.checked.prog.plainKeys) && (Rows.topLateRow.lifted == Tryz.pinned.checked.prog.liftsFinal) && (Tryz.pinned.checked.prog.make == some Rows.topLateRow.make)) = true := by kernel_rfl
end lawTopLate
end Go.Proofs.YtgmkjpafapgccaaGreat
