/- Facts about the program at a law. -/
import Derived.Test.YtgmkjpafapgccaaGreatRows
import Derived.ProofKit
import Derived.OpenShut
import Derived.ChangeMaps5
namespace Go.Proofs.YtgmkjpafapgccaaGreat
open Go
set_option linter.all false
namespace lawTopSafe
theorem jointE : ((Rows.topSafeRow.inPlace == Tryz.pinned.checked.prog.inPlace 5) && (Rows.topSafeRow.unfollowed == Tryz.pinned.checked.prog.unfollowed 5) && (Rows.topSafeRow.recurses == Tryz.pinned.checked.prog.recurses 5) && (Rows.topSafeRow.named == Tryz.pinned.checked.prog.varsNamed 5)) = true := by kernel_rfl
end lawTopSafe
end Go.Proofs.YtgmkjpafapgccaaGreat
