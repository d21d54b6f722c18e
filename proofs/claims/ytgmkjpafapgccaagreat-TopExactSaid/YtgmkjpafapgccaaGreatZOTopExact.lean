/- The law TopExact holds of the given program, for every input. No condition. -/
import Derived.Test.YtgmkjpafapgccaaGreatZTopExact
import Derived.Test.YtgmkjpafapgccaaGreatZJ
import Derived.Test.YtgmkjpafapgccaaGreatZJa
import Derived.Test.YtgmkjpafapgccaaGreatZJb
import Derived.Test.YtgmkjpafapgccaaGreatZJTopExactc
import Derived.Test.YtgmkjpafapgccaaGreatZJTopExactd
import Derived.ProofKit
import Derived.OpenShut
import Derived.ChangeMaps5
namespace Go.Proofs.YtgmkjpafapgccaaGreat
open Go Go.Sx
set_option linter.all false
namespace lawTopExact
open Go.ChangeShapes Go.WideShapes Go.ChangeAt Go.RowKit Go.ChangeMaps Go.MapKept
set_option maxRecDepth 100000
theorem over : Rows.topExactRow.holds Tryz.pinned (OpenSpec.ofChange Rows.topExactSpec) :=
  OpenClaim.holds_of_wide 4 Tryz.f4 rfl rfl rfl rfl rfl rfl rfl ⟨rfl, rfl, rfl, rfl, rfl⟩ rfl rfl rfl rfl rfl (by kernel_rfl) Tryz.func4 (joined_parts (fn := Tryz.f4) (s := Rows.topExactSpec) (c := Rows.topExactRow) jointA jointB jointD jointE (by kernel_rfl))
    (of_decide_eq_true (by kernel_rfl)) (by unfold Func.isWrapper; first | (rw [if_pos (by decide +kernel)]; kernel_rfl) | (rw [if_neg (by decide +kernel)]; exact ⟨rfl, rfl⟩))
    (fun os started H enc _ => lifted os started H enc)
/-- the statement -/
theorem proved : Rows.TopExactSaid := over
end lawTopExact
end Go.Proofs.YtgmkjpafapgccaaGreat
