/- Facts about the program at a law. -/
import Derived.Test.YtkndpfncklhhlaaGreatRows
import Derived.ProofKit
import Derived.OpenShut
import Derived.ChangeMaps5
namespace Go.Proofs.YtkndpfncklhhlaaGreat
open Go
set_option linter.all false
namespace lawBoundMatchesReference
theorem jointE : ((Rows.boundMatchesReferenceRow.inPlace == Tryz.pinned.checked.prog.inPlace 3) && (Rows.boundMatchesReferenceRow.unfollowed == Tryz.pinned.checked.prog.unfollowed 3) && (Rows.boundMatchesReferenceRow.recurses == Tryz.pinned.checked.prog.recurses 3) && (Rows.boundMatchesReferenceRow.named == Tryz.pinned.checked.prog.varsNamed 3)) = true := by kernel_rfl
end lawBoundMatchesReference
end Go.Proofs.YtkndpfncklhhlaaGreat
