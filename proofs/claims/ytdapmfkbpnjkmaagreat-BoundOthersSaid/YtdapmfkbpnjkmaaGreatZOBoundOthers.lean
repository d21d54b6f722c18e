/- The law BoundOthers holds of the given program, for every input. No condition. -/
import Derived.Test.YtdapmfkbpnjkmaaGreatZBoundOthers
import Derived.Test.YtdapmfkbpnjkmaaGreatZJ
import Derived.Test.YtdapmfkbpnjkmaaGreatZJa
import Derived.Test.YtdapmfkbpnjkmaaGreatZJb
import Derived.Test.YtdapmfkbpnjkmaaGreatZJBoundOthersc
import Derived.Test.YtdapmfkbpnjkmaaGreatZJBoundOthersd
import Derived.ProofKit
import Derived.OpenShut
import Derived.ChangeMaps5
namespace Go.Proofs.YtdapmfkbpnjkmaaGreat
open Go Go.Sx
set_option linter.all false
namespace lawBoundOthers
open Go.ChangeShapes Go.WideShapes Go.ChangeAt Go.RowKit Go.ChangeMaps Go.MapKept
set_option maxRecDepth 100000
theorem over : Rows.boundOthersRow.holds Tryz.pinned (OpenSpec.ofChange Rows.boundOthersSpec) :=
  OpenClaim.holds_of_wide 12 Tryz.f12 rfl rfl rfl rfl rfl rfl rfl ⟨rfl, rfl, rfl, rfl, rfl⟩ rfl rfl rfl rfl rfl (by kernel_rfl) Tryz.func12 (joined_parts (fn := Tryz.f12) (s := Rows.boundOthersSpec) (c := Rows.boundOthersRow) jointA jointB jointD jointE (by kernel_rfl))
    (of_decide_eq_true (by kernel_rfl)) (by unfold Func.isWrapper; first | (rw [if_pos (by decide +kernel)]; kernel_rfl) | (rw [if_neg (by decide +kernel)]; exact ⟨rfl, rfl⟩))
    (fun os started H enc _ => lifted os started H enc)
/-- the statement -/
theorem proved : Rows.BoundOthersSaid := over
end lawBoundOthers
end Go.Proofs.YtdapmfkbpnjkmaaGreat
