/- The law TopSafe holds of the given program, for every input. No condition. -/
import Derived.Test.YtgmkjpafapgccaaGreatZTopSafe
import Derived.Test.YtgmkjpafapgccaaGreatZJ
import Derived.Test.YtgmkjpafapgccaaGreatZJa
import Derived.Test.YtgmkjpafapgccaaGreatZJb
import Derived.Test.YtgmkjpafapgccaaGreatZJTopSafec
import Derived.Test.YtgmkjpafapgccaaGreatZJTopSafed
import Derived.ProofKit
import Derived.OpenShut
import Derived.ChangeMaps5
namespace Go.Proofs.YtgmkjpafapgccaaGreat
open Go Go.Sx
set_option linter.all false
namespace lawTopSafe
open Go.ChangeShapes Go.WideShapes Go.ChangeAt Go.RowKit Go.ChangeMaps Go.MapKept
set_option maxRecDepth 100000
theorem over : Rows.topSafeRow.holds Tryz.pinned (OpenSpec.ofChange Rows.topSafeSpec) :=
  OpenClaim.holds_of_wide 5 Tryz.f5 rfl rfl rfl rfl rfl rfl rfl ⟨rfl, rfl, rfl, rfl, rfl⟩ rfl rfl rfl rfl rfl (by kernel_rfl) Tryz.func5 (joined_parts (fn := Tryz.f5) (s := Rows.topSafeSpec) (c := Rows.topSafeRow) jointA jointB jointD jointE (by kernel_rfl))
    (of_decide_eq_true (by kernel_rfl)) (by unfold Func.isWrapper; first | (rw [if_pos (by decide +kernel)]; kernel_rfl) | (rw [if_neg (by decide +kernel)]; exact ⟨rfl, rfl⟩))
    (fun os started H enc _ => lifted os started H enc)
/-- the statement -/
theorem proved : Rows.TopSafeSaid := over
end lawTopSafe
end Go.Proofs.YtgmkjpafapgccaaGreat
