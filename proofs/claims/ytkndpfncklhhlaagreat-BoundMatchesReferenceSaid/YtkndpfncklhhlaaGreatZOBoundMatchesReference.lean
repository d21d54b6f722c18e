/- The law BoundMatchesReference holds of the given program, for every input. No condition. -/
import Derived.Test.YtkndpfncklhhlaaGreatZBoundMatchesReference
import Derived.Test.YtkndpfncklhhlaaGreatZJ
import Derived.Test.YtkndpfncklhhlaaGreatZJa
import Derived.Test.YtkndpfncklhhlaaGreatZJb
import Derived.Test.YtkndpfncklhhlaaGreatZJBoundMatchesReferencec
import Derived.Test.YtkndpfncklhhlaaGreatZJBoundMatchesReferenced
import Derived.ProofKit
import Derived.OpenShut
import Derived.ChangeMaps5
namespace Go.Proofs.YtkndpfncklhhlaaGreat
open Go Go.Sx
set_option linter.all false
namespace lawBoundMatchesReference
open Go.ChangeShapes Go.WideShapes Go.ChangeAt Go.RowKit Go.ChangeMaps Go.MapKept
set_option maxRecDepth 100000
theorem over : Rows.boundMatchesReferenceRow.holds Tryz.pinned (OpenSpec.ofChange Rows.boundMatchesReferenceSpec) :=
  OpenClaim.holds_of_wide 3 Tryz.f3 rfl rfl rfl rfl rfl rfl rfl ⟨rfl, rfl, rfl, rfl, rfl⟩ rfl rfl rfl rfl rfl (by kernel_rfl) Tryz.func3 (joined_parts (fn := Tryz.f3) (s := Rows.boundMatchesReferenceSpec) (c := Rows.boundMatchesReferenceRow) jointA jointB jointD jointE (by kernel_rfl))
    (of_decide_eq_true (by kernel_rfl)) (by unfold Func.isWrapper; first | (rw [if_pos (by decide +kernel)]; kernel_rfl) | (rw [if_neg (by decide +kernel)]; exact ⟨rfl, rfl⟩))
    (fun os started H enc _ => lifted os started H enc)
/-- the statement -/
theorem proved : Rows.BoundMatchesReferenceSaid := over
end lawBoundMatchesReference
end Go.Proofs.YtkndpfncklhhlaaGreat
