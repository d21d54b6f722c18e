/- Facts about the program at a law. -/
import Derived.Test.YtgmkjpafapgccaaGreatRows
import Derived.ProofKit
import Derived.OpenShut
import Derived.ChangeMaps5
namespace Go.Proofs.YtgmkjpafapgccaaGreat
open Go
set_option linter.all false
namespace lawTopDecided
theorem jointD : ((Rows.topDecidedRow.plainKeys == Tryz.pinned.checked.prog.plainKeys) && (Rows.topDecidedRow.lifted == Tryz.pinned.checked.prog.liftsFinal) && (Tryz.pinned.checked.prog.make == some Rows.topDecidedRow.make)) = true := by kernel_rfl
end lawTopDecided
end Go.Proofs.YtgmkjpafapgccaaGreat
