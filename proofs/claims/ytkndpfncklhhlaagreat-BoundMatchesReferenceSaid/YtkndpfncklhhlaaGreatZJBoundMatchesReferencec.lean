/- Facts about the program at a law. -/
import Derived.Test.YtkndpfncklhhlaaGreatRows
import Derived.ProofKit
import Derived.OpenShut
import Derived.ChangeMaps5
namespace Go.Proofs.YtkndpfncklhhlaaGreat
open Go
set_option linter.all false
namespace lawBoundMatchesReference
theorem jointD : ((Rows.boundMatchesReferenceRow.plainKeys == Tryz.pinned.checked.prog.plainKeys) && (Rows.boundMatchesReferenceRow.lifted == Tryz.pinned.checked.prog.liftsFinal) && (Tryz.pinned.checked.prog.make == some Rows.boundMatchesReferenceRow.make)) = true := by kernel_rfl
end lawBoundMatchesReference
end Go.Proofs.YtkndpfncklhhlaaGreat
