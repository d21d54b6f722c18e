/- The law CourseMatchesReference of the course holds of the given program, for every input. No condition. -/
import Derived.Test.YtechmdlbpbpkdaaGreatRows
import Derived.Test.YtechmdlbpbpkdaaGreatSxOpen
import Derived.Test.YtechmdlbpbpkdaaGreatLCourseMatchesReference
import Derived.ProofKit
import Derived.OpenShut
namespace Go.Proofs.YtechmdlbpbpkdaaGreat
open Go Go.Sx
set_option linter.all false
theorem T.cel_24 : Tryz.prog.cellsOf 24 = 1 := by kernel_rfl
theorem T.cel_43 : Tryz.prog.cellsOf 43 = 2 := by kernel_rfl
theorem T.cel_56 : Tryz.prog.cellsOf 56 = 6 := by kernel_rfl
theorem T.cel_58 : Tryz.prog.cellsOf 58 = 14 := by kernel_rfl
theorem T.cel_68 : Tryz.prog.cellsOf 68 = 3 := by kernel_rfl
theorem T.cel_71 : Tryz.prog.cellsOf 71 = 3 := by kernel_rfl
theorem T.cel_9 : Tryz.prog.cellsOf 9 = 1 := by kernel_rfl
theorem T.fds_24 : fieldsK Tryz.prog 24 = some [(22, 0, 1)] := by kernel_rfl
theorem T.fds_43 : fieldsK Tryz.prog 43 = some [(3, 0, 1), (3, 1, 1)] := by kernel_rfl
theorem T.fds_56 : fieldsK Tryz.prog 56 = some [(43, 0, 2), (43, 2, 2), (43, 4, 2)] := by kernel_rfl
theorem T.fds_58 : fieldsK Tryz.prog 58 = some [(3, 0, 1), (3, 1, 1), (9, 2, 1), (9, 3, 1), (9, 4, 1), (9, 5, 1), (9, 6, 1), (9, 7, 1), (56, 8, 6)] := by kernel_rfl
theorem T.fds_68 : fieldsK Tryz.prog 68 = some [(9, 0, 1), (4, 1, 1), (66, 2, 1)] := by kernel_rfl
theorem T.fds_71 : fieldsK Tryz.prog 71 = some [(9, 0, 1), (69, 1, 1), (3, 2, 1)] := by kernel_rfl
namespace lawCourseMatchesReference
open Go.ChangeShapes Go.WideShapes Go.ChangeAt Go.RowKit
theorem own : ownKnob Tryz.prog.godebug = none := by kernel_rfl
set_option maxRecDepth 100000 in
theorem lifted (os : Os) (started : os.Started) (H : Type) (enc : TypeId × Value → H) :
    ReturnsInHanded {} Tryz.checked os 3 .any (Rows.courseMatchesReferenceSpec.pre6 enc Tryz.prog Tryz.f3 Rows.courseMatchesReferenceRow.domain false) (Rows.courseMatchesReferenceSpec.post enc Tryz.prog Tryz.f3 false true false false) := by
  refine returnsInHanded_of_change (C := Tryz.checked) own started (by kernel_rfl) Tryz.func3
    (ChangeSpec.witness6 (enc := enc) (C := Tryz.checked) false ⟨#[], #[.agg #[.slice none 0 0], .slice none 0 0, .int .i64 0], []⟩ 8 (by kernel_rfl) (by kernel_rfl) (by kernel_rfl) (by kernel_rfl)) ?_
  intro W base args ds gs before hval0 hW hcnd _
  have hval : ∀ (j : Nat) t v, Tryz.f3.params[j]? = some t → args[j]? = some v → Value.okWide Tryz.prog W .any base t v := hval0
  have hW' := hW
  obtain ⟨p, q, hA0, hV, rfl, hfz, hnd⟩ := hW
  have hA : DataW.TrodAll enc Tryz.prog W 0 (fun _ => true) true Tryz.f3.params.toList args.toList ds p := hA0
  rw [Tryz.params3] at hA hval
  obtain ⟨v0, vs0, d0, ds0, p0, q0, hargs, rfl, rfl, h0, r0⟩ := trodAll_cons hA
  obtain ⟨v1, vs1, d1, ds1, p1, q1, rfl, rfl, rfl, h1, r1⟩ := trodAll_cons r0
  obtain ⟨v2, vs2, d2, ds2, p2, q2, rfl, rfl, rfl, h2, r2⟩ := trodAll_cons r1
  obtain ⟨rfl, rfl, rfl⟩ := trodAll_nil r2
  obtain rfl : args = #[v0, v1, v2] := by cases args; simp_all
  obtain ⟨rfl, rfl⟩ := trodVars_none hV
  clear hA0 hval0
  obtain ⟨cs0, rfl, hz0⟩ := okWide_agg T.fds_24 (hval 0 24 v0 rfl rfl)
  obtain ⟨fu0, hf0⟩ := h0
  obtain ⟨l0, ⟨u0, e0, R0⟩, G0⟩ := (opens_wrap T.fds_24 T.cel_24 (opens_slice T.und_22 T.cel_68 rfl (opens_kind T.fds_68 T.cel_68 (opens_string T.und_9) (opens_bool T.und_4) (opens_slice T.und_66 T.cel_71 rfl (opens_slot T.fds_71 T.cel_71 (opens_string T.und_9) (opens_slice T.und_69 T.cel_9 rfl (opens_string T.und_9)) (opens_int T.und_3)))))) enc W 0 _ true fu0 _ _ hf0
  obtain rfl : cs0 = #[u0] := Array.toList_inj.1 e0
  obtain ⟨s1, n1, c1, rfl⟩ := okWide_slice T.und_25 (hval 1 25 v1 rfl rfl)
  obtain ⟨fu1, hf1⟩ := h1
  obtain ⟨l1, ⟨u1, e1, R1⟩, G1⟩ := (opens_slice T.und_25 T.cel_58 rfl (opens_evt T.fds_58 T.cel_58 (opens_int T.und_3) (opens_string T.und_9) (opens_use T.fds_56 T.cel_56 (opens_ivl T.fds_43 T.cel_43 (opens_int T.und_3))))) enc W 0 _ true fu1 _ _ hf1
  cases e1
  obtain ⟨a2, rfl, rfl, rfl, w2⟩ := open_int T.und_3 (hval 2 3 v2 rfl rfl) h2
  exact law_calls (s := Rows.courseMatchesReferenceSpec) Tryz.call3 (lawMatches (Iw W) _ l0 R0 G0 _ l1 R1 G1 a2 w2) hW' (by kernel_rfl) (by kernel_rfl) rfl T.und_4 rfl rfl
theorem over : Rows.courseMatchesReferenceRow.holds Tryz.pinned (OpenSpec.ofChange Rows.courseMatchesReferenceSpec) :=
  OpenClaim.holds_of_wide 3 Tryz.f3 rfl rfl rfl rfl rfl rfl rfl ⟨rfl, rfl, rfl, rfl, rfl⟩ rfl rfl rfl rfl rfl (by kernel_rfl) Tryz.func3 (by kernel_rfl)
    (of_decide_eq_true (by kernel_rfl)) (by unfold Func.isWrapper; first | (rw [if_pos (by decide +kernel)]; kernel_rfl) | (rw [if_neg (by decide +kernel)]; exact ⟨rfl, rfl⟩))
    (fun os started H enc _ => lifted os started H enc)
/-- the statement -/
theorem proved : Rows.CourseMatchesReferenceSaid := over
end lawCourseMatchesReference
end Go.Proofs.YtechmdlbpbpkdaaGreat
