/- The law PlaceHistories holds of the given program, for every input. No condition. -/
import Derived.Test.YtdapmfkbpnjkmaaGreatZPlaceHistories
import Derived.Test.YtdapmfkbpnjkmaaGreatZJ
import Derived.Test.YtdapmfkbpnjkmaaGreatZJa
import Derived.Test.YtdapmfkbpnjkmaaGreatZJb
import Derived.Test.YtdapmfkbpnjkmaaGreatZJPlaceHistoriesc
import Derived.Test.YtdapmfkbpnjkmaaGreatZJPlaceHistoriesd
import Derived.ProofKit
import Derived.OpenShut
import Derived.ChangeMaps5
namespace Go.Proofs.YtdapmfkbpnjkmaaGreat
open Go Go.Sx
set_option linter.all false
namespace lawPlaceHistories
open Go.ChangeShapes Go.WideShapes Go.ChangeAt Go.RowKit Go.ChangeMaps Go.MapKept
set_option maxRecDepth 100000
theorem over : Rows.placeHistoriesRow.holds Tryz.pinned (OpenSpec.ofChange Rows.placeHistoriesSpec) :=
  OpenClaim.holds_of_wide 4 Tryz.f4 rfl rfl rfl rfl rfl rfl rfl ⟨rfl, rfl, rfl, rfl, rfl⟩ rfl rfl rfl rfl rfl (by kernel_rfl) Tryz.func4 (joined_parts (fn := Tryz.f4) (s := Rows.placeHistoriesSpec) (c := Rows.placeHistoriesRow) jointA jointB jointD jointE (by kernel_rfl))
    (of_decide_eq_true (by kernel_rfl)) (by unfold Func.isWrapper; first | (rw [if_pos (by decide +kernel)]; kernel_rfl) | (rw [if_neg (by decide +kernel)]; exact ⟨rfl, rfl⟩))
    (fun os started H enc _ => lifted os started H enc)
/-- the statement -/
theorem proved : Rows.PlaceHistoriesSaid := over
end lawPlaceHistories
end Go.Proofs.YtdapmfkbpnjkmaaGreat
