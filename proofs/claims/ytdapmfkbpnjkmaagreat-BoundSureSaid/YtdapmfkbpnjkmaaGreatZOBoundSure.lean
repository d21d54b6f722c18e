/- The law BoundSure holds of the given program, for every input. No condition. -/
import Derived.Test.YtdapmfkbpnjkmaaGreatZBoundSure
import Derived.Test.YtdapmfkbpnjkmaaGreatZJ
import Derived.Test.YtdapmfkbpnjkmaaGreatZJa
import Derived.Test.YtdapmfkbpnjkmaaGreatZJb
import Derived.Test.YtdapmfkbpnjkmaaGreatZJBoundSurec
import Derived.Test.YtdapmfkbpnjkmaaGreatZJBoundSured
import Derived.ProofKit
import Derived.OpenShut
import Derived.ChangeMaps5
namespace Go.Proofs.YtdapmfkbpnjkmaaGreat
open Go Go.Sx
set_option linter.all false
namespace lawBoundSure
open Go.ChangeShapes Go.WideShapes Go.ChangeAt Go.RowKit Go.ChangeMaps Go.MapKept
set_option maxRecDepth 100000
theorem over : Rows.boundSureRow.holds Tryz.pinned (OpenSpec.ofChange Rows.boundSureSpec) :=
  OpenClaim.holds_of_wide 11 Tryz.f11 rfl rfl rfl rfl rfl rfl rfl ⟨rfl, rfl, rfl, rfl, rfl⟩ rfl rfl rfl rfl rfl (by kernel_rfl) Tryz.func11 (joined_parts (fn := Tryz.f11) (s := Rows.boundSureSpec) (c := Rows.boundSureRow) jointA jointB jointD jointE (by kernel_rfl))
    (of_decide_eq_true (by kernel_rfl)) (by unfold Func.isWrapper; first | (rw [if_pos (by decide +kernel)]; kernel_rfl) | (rw [if_neg (by decide +kernel)]; exact ⟨rfl, rfl⟩))
    (fun os started H enc _ => lifted os started H enc)
/-- the statement -/
theorem proved : Rows.BoundSureSaid := over
end lawBoundSure
end Go.Proofs.YtdapmfkbpnjkmaaGreat
