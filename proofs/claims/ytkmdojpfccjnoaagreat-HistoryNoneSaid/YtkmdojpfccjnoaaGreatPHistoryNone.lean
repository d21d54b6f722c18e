/- The law HistoryNone holds of the given program, for every input. No condition. -/
import Derived.Test.YtkmdojpfccjnoaaGreatRows
import Derived.Test.YtkmdojpfccjnoaaGreatSxOpen
import Derived.Test.YtkmdojpfccjnoaaGreatRepO
import Derived.Test.YtkmdojpfccjnoaaGreatLHistoryNone
import Derived.ProofKit
import Derived.OpenShut
namespace Go.Proofs.YtkmdojpfccjnoaaGreat
open Go Go.Sx
set_option linter.all false
theorem T.cel_103 : Tryz.prog.cellsOf 103 = 3 := by kernel_rfl
theorem T.cel_24 : Tryz.prog.cellsOf 24 = 1 := by kernel_rfl
theorem T.cel_37 : Tryz.prog.cellsOf 37 = 2 := by kernel_rfl
theorem T.cel_49 : Tryz.prog.cellsOf 49 = 2 := by kernel_rfl
theorem T.cel_5 : Tryz.prog.cellsOf 5 = 1 := by kernel_rfl
theorem T.cel_51 : Tryz.prog.cellsOf 51 = 6 := by kernel_rfl
theorem T.cel_53 : Tryz.prog.cellsOf 53 = 14 := by kernel_rfl
theorem T.cel_87 : Tryz.prog.cellsOf 87 = 3 := by kernel_rfl
theorem T.cel_9 : Tryz.prog.cellsOf 9 = 1 := by kernel_rfl
instance T.fds_103 : Has (fieldsK Tryz.prog 103) [(9, 0, 1), (57, 1, 1), (3, 2, 1)] := ⟨by kernel_rfl⟩
instance T.fds_24 : Has (fieldsK Tryz.prog 24) [(22, 0, 1)] := ⟨by kernel_rfl⟩
instance T.fds_37 : Has (fieldsK Tryz.prog 37) [(35, 0, 1), (4, 1, 1)] := ⟨by kernel_rfl⟩
instance T.fds_49 : Has (fieldsK Tryz.prog 49) [(3, 0, 1), (3, 1, 1)] := ⟨by kernel_rfl⟩
instance T.fds_51 : Has (fieldsK Tryz.prog 51) [(49, 0, 2), (49, 2, 2), (49, 4, 2)] := ⟨by kernel_rfl⟩
instance T.fds_53 : Has (fieldsK Tryz.prog 53) [(3, 0, 1), (3, 1, 1), (9, 2, 1), (9, 3, 1), (9, 4, 1), (9, 5, 1), (9, 6, 1), (9, 7, 1), (51, 8, 6)] := ⟨by kernel_rfl⟩
instance T.fds_87 : Has (fieldsK Tryz.prog 87) [(9, 0, 1), (4, 1, 1), (85, 2, 1)] := ⟨by kernel_rfl⟩
instance T.und_40 : Has (Tryz.prog.underlying 40) (.int .u16) := ⟨by kernel_rfl⟩
namespace lawHistoryNone
open Go.ChangeShapes Go.WideShapes Go.ChangeAt Go.RowKit
theorem own : ownKnob Tryz.prog.godebug = none := by kernel_rfl
set_option maxRecDepth 100000 in
theorem lifted (os : Os) (started : os.Started) (H : Type) (enc : TypeId × Value → H) :
    ReturnsInHanded {} Tryz.checked os 6 .any (Rows.historyNoneSpec.pre6 enc Tryz.prog Tryz.f6 Rows.historyNoneRow.domain false) (Rows.historyNoneSpec.post enc Tryz.prog Tryz.f6 false true false false) := by
  refine returnsInHanded_of_change (C := Tryz.checked) own started (by kernel_rfl) Tryz.func6
    (ChangeSpec.witness6 (enc := enc) (C := Tryz.checked) false ⟨#[], #[.agg #[.slice none 0 0], .slice none 0 0, .slice none 0 0, .int .u8 0, .int .u16 0], []⟩ 8 (by kernel_rfl) (by kernel_rfl) (by kernel_rfl) (by kernel_rfl)) ?_
  intro W base args ds gs before hval0 hW hcnd _
  have hval : ∀ (j : Nat) t v, Tryz.f6.params[j]? = some t → args[j]? = some v → Value.okWide Tryz.prog W .any base t v := hval0
  have hW' := hW
  obtain ⟨p, q, hA0, hV, rfl, hfz, hnd⟩ := hW
  have hA : DataW.TrodAll enc Tryz.prog W 0 (fun _ => true) true Tryz.f6.params.toList args.toList ds p := hA0
  rw [Tryz.params6] at hA hval
  obtain ⟨v0, vs0, d0, ds0, p0, q0, hargs, rfl, rfl, h0, r0⟩ := trodAll_cons hA
  obtain ⟨v1, vs1, d1, ds1, p1, q1, rfl, rfl, rfl, h1, r1⟩ := trodAll_cons r0
  obtain ⟨v2, vs2, d2, ds2, p2, q2, rfl, rfl, rfl, h2, r2⟩ := trodAll_cons r1
  obtain ⟨v3, vs3, d3, ds3, p3, q3, rfl, rfl, rfl, h3, r3⟩ := trodAll_cons r2
  obtain ⟨v4, vs4, d4, ds4, p4, q4, rfl, rfl, rfl, h4, r4⟩ := trodAll_cons r3
  obtain ⟨rfl, rfl, rfl⟩ := trodAll_nil r4
  obtain rfl : args = #[v0, v1, v2, v3, v4] := by cases args; simp_all
  obtain ⟨rfl, rfl⟩ := trodVars_none hV
  clear hA0 hval0
  obtain ⟨cs0, rfl, hz0⟩ := okWide_agg T.fds_24.eq (hval 0 24 v0 rfl rfl)
  obtain ⟨fu0, hf0⟩ := h0
  obtain ⟨l0, ⟨u0, e0, R0⟩, G0⟩ := (opens_wrap T.fds_24.eq T.cel_24 (opens_slice T.und_22.eq T.cel_87 rfl (opens_kind T.fds_87.eq T.cel_87 (opens_string T.und_9.eq) (opens_bool T.und_4.eq) (opens_slice T.und_85.eq T.cel_103 rfl (opens_slot T.fds_103.eq T.cel_103 (opens_string T.und_9.eq) (opens_slice T.und_57.eq T.cel_9 rfl (opens_string T.und_9.eq)) (opens_int T.und_3.eq)))))) enc W 0 _ true fu0 _ _ hf0
  obtain rfl : cs0 = #[u0] := Array.toList_inj.1 e0
  obtain ⟨s1, n1, c1, rfl⟩ := okWide_slice T.und_25.eq (hval 1 25 v1 rfl rfl)
  obtain ⟨fu1, hf1⟩ := h1
  obtain ⟨l1, ⟨u1, e1, R1⟩, G1⟩ := (opens_slice T.und_25.eq T.cel_37 rfl (opens_rep T.fds_37.eq T.cel_37 (opens_slice T.und_35.eq T.cel_53 rfl (opens_evt T.fds_53.eq T.cel_53 (opens_int T.und_3.eq) (opens_string T.und_9.eq) (opens_use T.fds_51.eq T.cel_51 (opens_ivl T.fds_49.eq T.cel_49 (opens_int T.und_3.eq))))) (opens_bool T.und_4.eq))) enc W 0 _ true fu1 _ _ hf1
  cases e1
  obtain ⟨s2, n2, c2, rfl⟩ := okWide_slice T.und_33.eq (hval 2 33 v2 rfl rfl)
  obtain ⟨fu2, hf2⟩ := h2
  obtain ⟨l2, ⟨u2, e2, R2⟩, G2⟩ := (opens_slice T.und_33.eq T.cel_5 rfl (opens_u8 T.und_5.eq)) enc W 0 _ true fu2 _ _ hf2
  cases e2
  obtain ⟨a3, rfl, rfl, rfl, w3⟩ := open_int T.und_5.eq (hval 3 5 v3 rfl rfl) h3
  obtain ⟨a4, rfl, rfl, rfl, w4⟩ := open_int T.und_40.eq (hval 4 40 v4 rfl rfl) h4
  exact law_calls (s := Rows.historyNoneSpec) Tryz.call6 (lawNone (Iw W) _ l0 R0 G0 _ l1 R1 G1 _ l2 R2 G2 a3 w3 a4 w4) hW' (by kernel_rfl) (by kernel_rfl) rfl T.und_4.eq rfl rfl
theorem over : Rows.historyNoneRow.holds Tryz.pinned (OpenSpec.ofChange Rows.historyNoneSpec) :=
  OpenClaim.holds_of_wide 6 Tryz.f6 rfl rfl rfl rfl rfl rfl rfl ⟨rfl, rfl, rfl, rfl, rfl⟩ rfl rfl rfl rfl rfl (by kernel_rfl) Tryz.func6 (by kernel_rfl)
    (of_decide_eq_true (by kernel_rfl)) (by unfold Func.isWrapper; first | (rw [if_pos (by decide +kernel)]; kernel_rfl) | (rw [if_neg (by decide +kernel)]; exact ⟨rfl, rfl⟩))
    (fun os started H enc _ => lifted os started H enc)
/-- the statement -/
theorem proved : Rows.HistoryNoneSaid := over
end lawHistoryNone
end Go.Proofs.YtkmdojpfccjnoaaGreat
