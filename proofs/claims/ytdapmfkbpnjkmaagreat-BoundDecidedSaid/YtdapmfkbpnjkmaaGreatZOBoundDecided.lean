/- The law BoundDecided holds of the given program, for every input. No condition. -/
import Derived.Test.YtdapmfkbpnjkmaaGreatZBoundDecided
import Derived.Test.YtdapmfkbpnjkmaaGreatZJ
import Derived.Test.YtdapmfkbpnjkmaaGreatZJa
import Derived.Test.YtdapmfkbpnjkmaaGreatZJb
import Derived.Test.YtdapmfkbpnjkmaaGreatZJBoundDecidedc
import Derived.Test.YtdapmfkbpnjkmaaGreatZJBoundDecidedd
import Derived.ProofKit
import Derived.OpenShut
import Derived.ChangeMaps5
namespace Go.Proofs.YtdapmfkbpnjkmaaGreat
open Go Go.Sx
set_option linter.all false
namespace lawBoundDecided
open Go.ChangeShapes Go.WideShapes Go.ChangeAt Go.RowKit Go.ChangeMaps Go.MapKept
set_option maxRecDepth 100000
theorem over : Rows.boundDecidedRow.holds Tryz.pinned (OpenSpec.ofChange Rows.boundDecidedSpec) :=
  OpenClaim.holds_of_wide 14 Tryz.f14 rfl rfl rfl rfl rfl rfl rfl ⟨rfl, rfl, rfl, rfl, rfl⟩ rfl rfl rfl rfl rfl (by kernel_rfl) Tryz.func14 (joined_parts (fn := Tryz.f14) (s := Rows.boundDecidedSpec) (c := Rows.boundDecidedRow) jointA jointB jointD jointE (by kernel_rfl))
    (of_decide_eq_true (by kernel_rfl)) (by unfold Func.isWrapper; first | (rw [if_pos (by decide +kernel)]; kernel_rfl) | (rw [if_neg (by decide +kernel)]; exact ⟨rfl, rfl⟩))
    (fun os started H enc _ => lifted os started H enc)
/-- the statement -/
theorem proved : Rows.BoundDecidedSaid := over
end lawBoundDecided
end Go.Proofs.YtdapmfkbpnjkmaaGreat
