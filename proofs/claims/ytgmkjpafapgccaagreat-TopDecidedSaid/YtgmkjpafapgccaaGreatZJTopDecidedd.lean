/- Facts about the program at a law. -/
import Derived.Test.YtgmkjpafapgccaaGreatRows
import Derived.ProofKit
import Derived.OpenShut
import Derived.ChangeMaps5
namespace Go.Proofs.YtgmkjpafapgccaaGreat
open Go
set_option linter.all false
namespace lawTopDecided
theorem jointE : ((Rows.topDecidedRow.inPlace == Tryz.pinned.checked.prog.inPlace 6) && (Rows.topDecidedRow.unfollowed == Tryz.pinned.checked.prog.unfollowed 6) && (Rows.topDecidedRow.recurses == Tryz.pinned.checked.prog.recurses 6) && (Rows.topDecidedRow.named == Tryz.pinned.checked.prog.varsNamed 6)) = true := by kernel_rfl
end lawTopDecided
end Go.Proofs.YtgmkjpafapgccaaGreat
