/- The law CourseExchanges of the course holds of the given program, for every input. No condition. -/
import Derived.Test.YtechmdlbpbpkdaaRows
import Derived.Test.YtechmdlbpbpkdaaSxOpen
import Derived.Test.YtechmdlbpbpkdaaLCourseExchanges
import Derived.ProofKit
import Derived.OpenShut
namespace Go.Proofs.Ytechmdlbpbpkdaa
open Go Go.Sx
set_option linter.all false
theorem T.cel_28 : Try.prog.cellsOf 28 = 2 := by kernel_rfl
theorem T.cel_30 : Try.prog.cellsOf 30 = 6 := by kernel_rfl
theorem T.cel_32 : Try.prog.cellsOf 32 = 14 := by kernel_rfl
theorem T.cel_36 : Try.prog.cellsOf 36 = 1 := by kernel_rfl
theorem T.cel_82 : Try.prog.cellsOf 82 = 3 := by kernel_rfl
theorem T.cel_9 : Try.prog.cellsOf 9 = 1 := by kernel_rfl
theorem T.cel_97 : Try.prog.cellsOf 97 = 3 := by kernel_rfl
theorem T.fds_28 : fieldsK Try.prog 28 = some [(3, 0, 1), (3, 1, 1)] := by kernel_rfl
theorem T.fds_30 : fieldsK Try.prog 30 = some [(28, 0, 2), (28, 2, 2), (28, 4, 2)] := by kernel_rfl
theorem T.fds_32 : fieldsK Try.prog 32 = some [(3, 0, 1), (3, 1, 1), (9, 2, 1), (9, 3, 1), (9, 4, 1), (9, 5, 1), (9, 6, 1), (9, 7, 1), (30, 8, 6)] := by kernel_rfl
theorem T.fds_36 : fieldsK Try.prog 36 = some [(34, 0, 1)] := by kernel_rfl
theorem T.fds_82 : fieldsK Try.prog 82 = some [(9, 0, 1), (4, 1, 1), (80, 2, 1)] := by kernel_rfl
theorem T.fds_97 : fieldsK Try.prog 97 = some [(9, 0, 1), (51, 1, 1), (3, 2, 1)] := by kernel_rfl
namespace lawCourseExchanges
open Go.ChangeShapes Go.WideShapes Go.ChangeAt Go.RowKit
theorem own : ownKnob Try.prog.godebug = none := by kernel_rfl
set_option maxRecDepth 100000 in
theorem lifted (os : Os) (started : os.Started) (H : Type) (enc : TypeId × Value → H) :
    ReturnsInHanded {} Try.checked os 8 .any (Rows.courseExchangesSpec.pre6 enc Try.prog Try.f8 Rows.courseExchangesRow.domain false) (Rows.courseExchangesSpec.post enc Try.prog Try.f8 false true false false) := by
  refine returnsInHanded_of_change (C := Try.checked) own started (by kernel_rfl) Try.func8
    (ChangeSpec.witness6 (enc := enc) (C := Try.checked) false ⟨#[], #[.agg #[.slice none 0 0], .slice none 0 0, .int .u8 0], []⟩ 8 (by kernel_rfl) (by kernel_rfl) (by kernel_rfl) (by kernel_rfl)) ?_
  intro W base args ds gs before hval0 hW hcnd _
  have hval : ∀ (j : Nat) t v, Try.f8.params[j]? = some t → args[j]? = some v → Value.okWide Try.prog W .any base t v := hval0
  have hW' := hW
  obtain ⟨p, q, hA0, hV, rfl, hfz, hnd⟩ := hW
  have hA : DataW.TrodAll enc Try.prog W 0 (fun _ => true) true Try.f8.params.toList args.toList ds p := hA0
  rw [Try.params8] at hA hval
  obtain ⟨v0, vs0, d0, ds0, p0, q0, hargs, rfl, rfl, h0, r0⟩ := trodAll_cons hA
  obtain ⟨v1, vs1, d1, ds1, p1, q1, rfl, rfl, rfl, h1, r1⟩ := trodAll_cons r0
  obtain ⟨v2, vs2, d2, ds2, p2, q2, rfl, rfl, rfl, h2, r2⟩ := trodAll_cons r1
  obtain ⟨rfl, rfl, rfl⟩ := trodAll_nil r2
  obtain rfl : args = #[v0, v1, v2] := by cases args; simp_all
  obtain ⟨rfl, rfl⟩ := trodVars_none hV
  clear hA0 hval0
  obtain ⟨cs0, rfl, hz0⟩ := okWide_agg T.fds_36 (hval 0 36 v0 rfl rfl)
  obtain ⟨fu0, hf0⟩ := h0
  obtain ⟨l0, ⟨u0, e0, R0⟩, G0⟩ := (opens_wrap T.fds_36 T.cel_36 (opens_slice T.und_34 T.cel_82 rfl (opens_kind T.fds_82 T.cel_82 (opens_string T.und_9) (opens_bool T.und_4) (opens_slice T.und_80 T.cel_97 rfl (opens_slot T.fds_97 T.cel_97 (opens_string T.und_9) (opens_slice T.und_51 T.cel_9 rfl (opens_string T.und_9)) (opens_int T.und_3)))))) enc W 0 _ true fu0 _ _ hf0
  obtain rfl : cs0 = #[u0] := Array.toList_inj.1 e0
  obtain ⟨s1, n1, c1, rfl⟩ := okWide_slice T.und_22 (hval 1 22 v1 rfl rfl)
  obtain ⟨fu1, hf1⟩ := h1
  obtain ⟨l1, ⟨u1, e1, R1⟩, G1⟩ := (opens_slice T.und_22 T.cel_32 rfl (opens_evt T.fds_32 T.cel_32 (opens_int T.und_3) (opens_string T.und_9) (opens_use T.fds_30 T.cel_30 (opens_ivl T.fds_28 T.cel_28 (opens_int T.und_3))))) enc W 0 _ true fu1 _ _ hf1
  cases e1
  obtain ⟨a2, rfl, rfl, rfl, w2⟩ := open_int T.und_5 (hval 2 5 v2 rfl rfl) h2
  exact law_calls (s := Rows.courseExchangesSpec) Try.call8 (lawExchanges (Iw W) _ l0 R0 G0 _ l1 R1 G1 a2 w2) hW' (by kernel_rfl) (by kernel_rfl) rfl T.und_4 rfl rfl
theorem over : Rows.courseExchangesRow.holds Try.pinned (OpenSpec.ofChange Rows.courseExchangesSpec) :=
  OpenClaim.holds_of_wide 8 Try.f8 rfl rfl rfl rfl rfl rfl rfl ⟨rfl, rfl, rfl, rfl, rfl⟩ rfl rfl rfl rfl rfl (by kernel_rfl) Try.func8 (by kernel_rfl)
    (of_decide_eq_true (by kernel_rfl)) (by unfold Func.isWrapper; first | (rw [if_pos (by decide +kernel)]; kernel_rfl) | (rw [if_neg (by decide +kernel)]; exact ⟨rfl, rfl⟩))
    (fun os started H enc _ => lifted os started H enc)
/-- the statement -/
theorem proved : Rows.CourseExchangesSaid := over
end lawCourseExchanges
end Go.Proofs.Ytechmdlbpbpkdaa
