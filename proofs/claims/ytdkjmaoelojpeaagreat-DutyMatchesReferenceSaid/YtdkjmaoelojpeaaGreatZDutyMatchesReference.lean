/- The law DutyMatchesReference holds of the given program, for every input. No condition. -/
import Derived.Test.YtdkjmaoelojpeaaGreatZDue
import Derived.ChangeMaps5
import Derived.OpenShut
import Derived.ProofKit
import Derived.Test.YtdkjmaoelojpeaaGreatRows
/- Walks, printed by a program out of the code of the functions: each theorem is a contract of one function. -/
namespace Go.Proofs.YtdkjmaoelojpeaaGreat
open Go Go.Sx
set_option linter.all false
set_option maxRecDepth 20000
set_option maxHeartbeats 4000000
instance T.fld_37_0 : Has (fldK Tryz.prog 37 0) (0, false, 1) := ⟨by kernel_rfl⟩
instance T.und_53 : Has (Tryz.prog.underlying 53) (.int .u16) := ⟨by kernel_rfl⟩
theorem lawDMatches (I : IMap) (vd : Value) (ds : List Dut) (hds : RdS I vd ds) (hod : ∀ d ∈ ds, SmD d) (vc : Value) (c : List Kind) (hvc : RdS I vc c) (hoc : ∀ x ∈ c, OkKd x) (v : Value) (l : List Evt) (hv : RdS I v l) (hok : ∀ x ∈ l, OkE x) (p : ByteArray) (wp : p.size ≤ maxLen) (day : Int) (wday : (Lit.int .i64 day).wf = true)  :
    FnV Tryz.prog 3 #[vd, .agg #[vc], v, .string p, .int .i64 (day)] I (.bool true) := by
 refine enter Tryz.func3 Tryz.call3 rfl Tryz.ntmps3 rfl (fun w0 => ?_)
 refine go 3 ?_
 refine o_box _ rfl rfl rfl (fun g6 => ?_)
 refine go 6 ?_
 refine o_callV (head26 _) rfl rfl ?_
 refine go 11 ?_
 refine o_callV (law26few _ vd ds hds vc c hvc v l hv p) rfl rfl ?_
 refine go 3 ?_
 refine cb rfl (fun h18 p18 => ?_) (fun h18 p18 => ?_)
 ·refine go 8 ?_
  refine fin1 rfl rfl ?_
  exact q_vI rfl
 ·have hfw : few26 ds c l p = true := by simpa using h18
  simp only [few26, Bool.and_eq_true] at hfw
  have hdl0 := fewD_len hfw.1.1.1
  have hdl : ds.length ≤ 1000000 := by omega
  have hsc := fewC_sm hfw.1.1.2
  obtain ⟨hse, hel⟩ := fewE_sm hfw.1.2
  have hl : l.length ≤ 1000000 := by omega
  refine go 3 ?_
  refine sx_knowI (fun hE4 hf4 => ?_)
  refine d_startH T.mixed ?_
  refine d_tv 0 rfl rfl (by kernel_rfl) rfl (.refl _) rfl (v_move rfl) ?_
  refine d_tv 1 rfl rfl (by kernel_rfl) rfl (.refl _) rfl (v_move rfl) ?_
  refine d_t 2 rfl rfl (by kernel_rfl) rfl (fun _ m => m.keeps (.refl _)) (y_yes rfl rfl rfl (v_move rfl)) ?_
  refine d_t 3 rfl rfl (by kernel_rfl) rfl (fun _ m => m.keeps (.refl _)) (y_yes rfl rfl rfl (v_ldw m0 he rfl rfl)) ?_
  refine d_t 4 rfl rfl (by kernel_rfl) rfl (fun _ m => m.keeps (.refl _)) (y_yes rfl rfl rfl (v_move rfl)) ?_
  refine d_t 5 rfl rfl (by kernel_rfl) rfl (fun _ m => m.keeps (.refl _)) (y_yes rfl rfl rfl (v_move rfl)) ?_
  refine d_t 6 rfl rfl (by kernel_rfl) rfl (fun _ m => m.keeps (.refl _)) (y_yes rfl rfl rfl (v_move rfl)) ?_
  refine d_t 8 rfl rfl (by kernel_rfl) rfl (fun _ m => m.keeps (.refl _)) (y_yes rfl rfl rfl (v_move rfl)) ?_
  refine d_t 9 rfl rfl (by kernel_rfl) rfl (fun _ m => m.keeps (.refl _)) (y_yes rfl rfl rfl (v_ldw m0 he rfl rfl)) ?_
  refine d_t 10 rfl rfl (by kernel_rfl) rfl (fun _ m => m.keeps (.refl _)) (y_yes rfl rfl rfl (v_move rfl)) ?_
  refine d_t 11 rfl rfl (by kernel_rfl) rfl (fun _ m => m.keeps (.refl _)) (y_yes rfl rfl rfl (v_move rfl)) ?_
  refine d_t 12 rfl rfl (by kernel_rfl) rfl (fun _ m => m.keeps (.refl _)) (y_yes rfl rfl rfl (v_move rfl)) ?_
  refine d_one 7 (by kernel_rfl) rfl ?_
  refine o_yes rfl rfl rfl (o_call (duOverdue _ vd ds hds hdl hod vc c hvc hsc v l hv hl hse p day) rfl rfl (fun v27 I27 j27 q27 => ?_))
  try have hds := hds.le j27
  try have hvc := hvc.le j27
  try have hv := hv.le j27
  try have q27 := q27.le j27
  try have q33 := q33.le j27
  try have q42 := q42.le j27
  try have q48 := q48.le j27
  refine d_on (fun _ m => m.keepsI (.refl _) (j27) hE4 hf4) ?_
  refine d_one 13 (by kernel_rfl) rfl ?_
  refine o_yes rfl rfl rfl (o_call (r26Overdue _ vd ds hds hdl hod vc c hvc hsc v l hv hl hse p day) rfl rfl (fun v33 I33 j33 q33 => ?_))
  try have hds := hds.le j33
  try have hvc := hvc.le j33
  try have hv := hv.le j33
  try have q27 := q27.le j33
  try have q33 := q33.le j33
  try have q42 := q42.le j33
  try have q48 := q48.le j33
  refine d_on (fun _ m => m.keepsI (.refl _) ((j27).trans j33) hE4 hf4) ?_
  refine d_one 14 (by kernel_rfl) rfl ?_
  refine o_yes rfl rfl rfl (o_callV (ref09Strings_t _ _ _ q27 _ _ q33 rfl) rfl rfl ?_)
  refine d_on (fun _ m => m.keepsI (.refl _) ((j27).trans j33) hE4 hf4) ?_
  refine d_t 15 rfl rfl (by kernel_rfl) rfl (fun _ m => m.keepsI (.refl _) ((j27).trans j33) hE4 hf4) (y_v rfl (v_and_t rfl rfl rfl)) ?_
  refine d_t 16 rfl rfl (by kernel_rfl) rfl (fun _ m => m.keepsI (.refl _) ((j27).trans j33) hE4 hf4) (y_v rfl (v_move rfl)) ?_
  refine d_t 17 rfl rfl (by kernel_rfl) rfl (fun _ m => m.keepsI (.refl _) ((j27).trans j33) hE4 hf4) (y_yes rfl rfl rfl (v_move rfl)) ?_
  refine d_t 18 rfl rfl (by kernel_rfl) rfl (fun _ m => m.keepsI (.refl _) ((j27).trans j33) hE4 hf4) (y_yes rfl rfl rfl (v_ldw m0 he rfl rfl)) ?_
  refine d_t 19 rfl rfl (by kernel_rfl) rfl (fun _ m => m.keepsI (.refl _) ((j27).trans j33) hE4 hf4) (y_yes rfl rfl rfl (v_move rfl)) ?_
  refine d_t 20 rfl rfl (by kernel_rfl) rfl (fun _ m => m.keepsI (.refl _) ((j27).trans j33) hE4 hf4) (y_yes rfl rfl rfl (v_move rfl)) ?_
  refine d_t 21 rfl rfl (by kernel_rfl) rfl (fun _ m => m.keepsI (.refl _) ((j27).trans j33) hE4 hf4) (y_yes rfl rfl rfl (v_move rfl)) ?_
  refine d_t 23 rfl rfl (by kernel_rfl) rfl (fun _ m => m.keepsI (.refl _) ((j27).trans j33) hE4 hf4) (y_yes rfl rfl rfl (v_move rfl)) ?_
  refine d_t 24 rfl rfl (by kernel_rfl) rfl (fun _ m => m.keepsI (.refl _) ((j27).trans j33) hE4 hf4) (y_yes rfl rfl rfl (v_ldw m0 he rfl rfl)) ?_
  refine d_t 25 rfl rfl (by kernel_rfl) rfl (fun _ m => m.keepsI (.refl _) ((j27).trans j33) hE4 hf4) (y_yes rfl rfl rfl (v_move rfl)) ?_
  refine d_t 26 rfl rfl (by kernel_rfl) rfl (fun _ m => m.keepsI (.refl _) ((j27).trans j33) hE4 hf4) (y_yes rfl rfl rfl (v_move rfl)) ?_
  refine d_t 27 rfl rfl (by kernel_rfl) rfl (fun _ m => m.keepsI (.refl _) ((j27).trans j33) hE4 hf4) (y_yes rfl rfl rfl (v_move rfl)) ?_
  refine d_one 22 (by kernel_rfl) rfl ?_
  refine o_yes rfl rfl rfl (o_call (duOpen _ vd ds hds hdl hod vc c hvc hsc v l hv hl hse p day) rfl rfl (fun v42 I42 j42 q42 => ?_))
  try have hds := hds.le j42
  try have hvc := hvc.le j42
  try have hv := hv.le j42
  try have q27 := q27.le j42
  try have q33 := q33.le j42
  try have q42 := q42.le j42
  try have q48 := q48.le j42
  refine d_on (fun _ m => m.keepsI (.refl _) (((j27).trans j33).trans j42) hE4 hf4) ?_
  refine d_one 28 (by kernel_rfl) rfl ?_
  refine o_yes rfl rfl rfl (o_call (r26Open _ vd ds hds hdl hod vc c hvc hsc v l hv hl hse p day) rfl rfl (fun v48 I48 j48 q48 => ?_))
  try have hds := hds.le j48
  try have hvc := hvc.le j48
  try have hv := hv.le j48
  try have q27 := q27.le j48
  try have q33 := q33.le j48
  try have q42 := q42.le j48
  try have q48 := q48.le j48
  refine d_on (fun _ m => m.keepsI (.refl _) ((((j27).trans j33).trans j42).trans j48) hE4 hf4) ?_
  refine d_one 29 (by kernel_rfl) rfl ?_
  refine o_yes rfl rfl rfl (o_callV (r26Dues_t _ _ _ q42 _ _ q48 rfl) rfl rfl ?_)
  refine d_on (fun _ m => m.keepsI (.refl _) ((((j27).trans j33).trans j42).trans j48) hE4 hf4) ?_
  refine d_t 30 rfl rfl (by kernel_rfl) rfl (fun _ m => m.keepsI (.refl _) ((((j27).trans j33).trans j42).trans j48) hE4 hf4) (y_v rfl (v_and_t rfl rfl rfl)) ?_
  refine d_t 31 rfl rfl (by kernel_rfl) rfl (fun _ m => m.keepsI (.refl _) ((((j27).trans j33).trans j42).trans j48) hE4 hf4) (y_v rfl (v_assign rfl)) ?_
  refine d_done (by kernel_rfl) ?_
  refine go 2 ?_
  refine fin1 rfl rfl ?_
  exact q_vI rfl

end Go.Proofs.YtdkjmaoelojpeaaGreat

/- The law DutyMatchesReference holds of the given program, for every input. No condition. -/
namespace Go.Proofs.YtdkjmaoelojpeaaGreat
open Go Go.Sx
set_option linter.all false
theorem T.cel_25 : Tryz.prog.cellsOf 25 = 1 := by kernel_rfl
theorem T.cel_43 : Tryz.prog.cellsOf 43 = 5 := by kernel_rfl
theorem T.cel_45 : Tryz.prog.cellsOf 45 = 2 := by kernel_rfl
theorem T.cel_47 : Tryz.prog.cellsOf 47 = 6 := by kernel_rfl
theorem T.cel_49 : Tryz.prog.cellsOf 49 = 14 := by kernel_rfl
theorem T.cel_9 : Tryz.prog.cellsOf 9 = 1 := by kernel_rfl
theorem T.cel_95 : Tryz.prog.cellsOf 95 = 3 := by kernel_rfl
theorem T.cel_97 : Tryz.prog.cellsOf 97 = 3 := by kernel_rfl
instance T.fds_25 : Has (fieldsK Tryz.prog 25) [(23, 0, 1)] := ⟨by kernel_rfl⟩
instance T.fds_43 : Has (fieldsK Tryz.prog 43) [(9, 0, 1), (9, 1, 1), (9, 2, 1), (3, 3, 1), (3, 4, 1)] := ⟨by kernel_rfl⟩
instance T.fds_45 : Has (fieldsK Tryz.prog 45) [(3, 0, 1), (3, 1, 1)] := ⟨by kernel_rfl⟩
instance T.fds_47 : Has (fieldsK Tryz.prog 47) [(45, 0, 2), (45, 2, 2), (45, 4, 2)] := ⟨by kernel_rfl⟩
instance T.fds_49 : Has (fieldsK Tryz.prog 49) [(3, 0, 1), (3, 1, 1), (9, 2, 1), (9, 3, 1), (9, 4, 1), (9, 5, 1), (9, 6, 1), (9, 7, 1), (47, 8, 6)] := ⟨by kernel_rfl⟩
instance T.fds_95 : Has (fieldsK Tryz.prog 95) [(9, 0, 1), (4, 1, 1), (93, 2, 1)] := ⟨by kernel_rfl⟩
instance T.fds_97 : Has (fieldsK Tryz.prog 97) [(9, 0, 1), (30, 1, 1), (3, 2, 1)] := ⟨by kernel_rfl⟩
namespace lawDutyMatchesReference
open Go.ChangeShapes Go.WideShapes Go.ChangeAt Go.RowKit Go.ChangeMaps Go.MapKept
theorem own : ownKnob Tryz.prog.godebug = none := by kernel_rfl
set_option maxRecDepth 100000 in
theorem lifted (os : Os) (started : os.Started) (H : Type) (enc : TypeId × Value → H) :
    ReturnsInHanded {} Tryz.checked os 3 .any (Rows.dutyMatchesReferenceSpec.pre6 enc Tryz.prog Tryz.f3 Rows.dutyMatchesReferenceRow.domain false) (Rows.dutyMatchesReferenceSpec.post enc Tryz.prog Tryz.f3 false true false false) := by
  refine returnsInHanded_of_change (C := Tryz.checked) own started (by kernel_rfl) Tryz.func3
    (ChangeSpec.witness6 (enc := enc) (C := Tryz.checked) false ⟨#[], #[.slice none 0 0, .agg #[.slice none 0 0], .slice none 0 0, .string ⟨#[]⟩, .int .i64 0], []⟩ 8 (by kernel_rfl) (by kernel_rfl) (by kernel_rfl) (by kernel_rfl)) ?_
  intro W base args ds gs before hval0 hW hcnd _
  have hval : ∀ (j : Nat) t v, Tryz.f3.params[j]? = some t → args[j]? = some v → Value.okWide Tryz.prog W .any base t v := hval0
  have hW' := hW
  obtain ⟨p, q, hA0, hV, rfl, hfz, hnd⟩ := hW
  have hA : DataW.TrodAll enc Tryz.prog W 0 (fun _ => true) true Tryz.f3.params.toList args.toList ds p := hA0
  rw [Tryz.params3] at hA hval
  obtain ⟨v0, vs0, d0, ds0, p0, q0, hargs, rfl, rfl, h0, r0⟩ := trodAll_cons hA
  obtain ⟨v1, vs1, d1, ds1, p1, q1, rfl, rfl, rfl, h1, r1⟩ := trodAll_cons r0
  obtain ⟨v2, vs2, d2, ds2, p2, q2, rfl, rfl, rfl, h2, r2⟩ := trodAll_cons r1
  obtain ⟨v3, vs3, d3, ds3, p3, q3, rfl, rfl, rfl, h3, r3⟩ := trodAll_cons r2
  obtain ⟨v4, vs4, d4, ds4, p4, q4, rfl, rfl, rfl, h4, r4⟩ := trodAll_cons r3
  obtain ⟨rfl, rfl, rfl⟩ := trodAll_nil r4
  obtain rfl : args = #[v0, v1, v2, v3, v4] := by cases args; simp_all
  obtain ⟨rfl, rfl⟩ := trodVars_none hV
  clear hA0 hval0
  obtain ⟨s0, n0, c0, rfl⟩ := okWide_slice T.und_22.eq (hval 0 22 v0 rfl rfl)
  obtain ⟨fu0, hf0⟩ := h0
  obtain ⟨l0, ⟨u0, e0, R0⟩, G0⟩ := (opens_slice T.und_22.eq T.cel_43 rfl (opens_dut T.fds_43.eq T.cel_43 (opens_string T.und_9.eq) (opens_int T.und_3.eq))) enc W 0 _ true fu0 _ _ hf0
  cases e0
  obtain ⟨cs1, rfl, hz1⟩ := okWide_agg T.fds_25.eq (hval 1 25 v1 rfl rfl)
  obtain ⟨fu1, hf1⟩ := h1
  obtain ⟨l1, ⟨u1, e1, R1⟩, G1⟩ := (opens_wrap T.fds_25.eq T.cel_25 (opens_slice T.und_23.eq T.cel_95 rfl (opens_kind T.fds_95.eq T.cel_95 (opens_string T.und_9.eq) (opens_bool T.und_4.eq) (opens_slice T.und_93.eq T.cel_97 rfl (opens_slot T.fds_97.eq T.cel_97 (opens_string T.und_9.eq) (opens_slice T.und_30.eq T.cel_9 rfl (opens_string T.und_9.eq)) (opens_int T.und_3.eq)))))) enc W 0 _ true fu1 _ _ hf1
  obtain rfl : cs1 = #[u1] := Array.toList_inj.1 e1
  obtain ⟨s2, n2, c2, rfl⟩ := okWide_slice T.und_26.eq (hval 2 26 v2 rfl rfl)
  obtain ⟨fu2, hf2⟩ := h2
  obtain ⟨l2, ⟨u2, e2, R2⟩, G2⟩ := (opens_slice T.und_26.eq T.cel_49 rfl (opens_evt T.fds_49.eq T.cel_49 (opens_int T.und_3.eq) (opens_string T.und_9.eq) (opens_use T.fds_47.eq T.cel_47 (opens_ivl T.fds_45.eq T.cel_45 (opens_int T.und_3.eq))))) enc W 0 _ true fu2 _ _ hf2
  cases e2
  obtain ⟨a3, rfl, rfl, rfl, w3⟩ := open_string T.und_9.eq (hval 3 9 v3 rfl rfl) h3
  obtain ⟨a4, rfl, rfl, rfl, w4⟩ := open_int T.und_3.eq (hval 4 3 v4 rfl rfl) h4
  exact law_calls (s := Rows.dutyMatchesReferenceSpec) Tryz.call3 (lawDMatches (Iw W) _ l0 R0 G0 _ l1 R1 G1 _ l2 R2 G2 a3 w3 a4 w4) hW' (by kernel_rfl) (by kernel_rfl) rfl T.und_4.eq rfl rfl
theorem over : Rows.dutyMatchesReferenceRow.holds Tryz.pinned (OpenSpec.ofChange Rows.dutyMatchesReferenceSpec) :=
  OpenClaim.holds_of_wide 3 Tryz.f3 rfl rfl rfl rfl rfl rfl rfl ⟨rfl, rfl, rfl, rfl, rfl⟩ rfl rfl rfl rfl rfl (by kernel_rfl) Tryz.func3 (by kernel_rfl)
    (of_decide_eq_true (by kernel_rfl)) (by unfold Func.isWrapper; first | (rw [if_pos (by decide +kernel)]; kernel_rfl) | (rw [if_neg (by decide +kernel)]; exact ⟨rfl, rfl⟩))
    (fun os started H enc _ => lifted os started H enc)
/-- the statement -/
theorem proved : Rows.DutyMatchesReferenceSaid := over
end lawDutyMatchesReference
end Go.Proofs.YtdkjmaoelojpeaaGreat

