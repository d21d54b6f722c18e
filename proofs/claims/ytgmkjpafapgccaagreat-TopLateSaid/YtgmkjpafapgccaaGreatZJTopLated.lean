/- Facts about the program at a law. -/
import Derived.Test.YtgmkjpafapgccaaGreatRows
import Derived.ProofKit
import Derived.OpenShut
import Derived.ChangeMaps5
namespace Go.Proofs.YtgmkjpafapgccaaGreat
open Go
set_option linter.all false
namespace lawTopLate
theorem jointE : ((Rows.topLateRow.inPlace == Tryz.pinned.checked.prog.inPlace 3) && (Rows.topLateRow.unfollowed == Tryz.pinned.checked.prog.unfollowed 3) && (Rows.topLateRow.recurses == Tryz.pinned.checked.prog.recurses 3) && (Rows.topLateRow.named == Tryz.pinned.checked.prog.varsNamed 3)) = true := by kernel_rfl
end lawTopLate
end Go.Proofs.YtgmkjpafapgccaaGreat
