/- Facts about the program at a law. -/
import Derived.Test.YtgmkjpafapgccaaGreatRows
import Derived.ProofKit
import Derived.OpenShut
import Derived.ChangeMaps5
namespace Go.Proofs.YtgmkjpafapgccaaGreat
open Go
set_option linter.all false
namespace lawTopExact
theorem jointE : ((Rows.topExactRow.inPlace == Tryz.pinned.checked.prog.inPlace 4) && (Rows.topExactRow.unfollowed == Tryz.pinned.checked.prog.unfollowed 4) && (Rows.topExactRow.recurses == Tryz.pinned.checked.prog.recurses 4) && (Rows.topExactRow.named == Tryz.pinned.checked.prog.varsNamed 4)) = true := by kernel_rfl
end lawTopExact
end Go.Proofs.YtgmkjpafapgccaaGreat
