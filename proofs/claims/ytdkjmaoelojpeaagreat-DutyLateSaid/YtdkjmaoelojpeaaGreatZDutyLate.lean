/- The law DutyLate holds of the given program, for every input. No condition. -/
import Derived.Test.YtdkjmaoelojpeaaGreatZDue
import Derived.ChangeMaps5
import Derived.OpenShut
import Derived.ProofKit
import Derived.Test.YtdkjmaoelojpeaaGreatRows
/- Walks, printed by a program out of the code of the functions: each theorem is a contract of one function. -/
namespace Go.Proofs.YtdkjmaoelojpeaaGreat
open Go Go.Sx
set_option linter.all false
set_option maxRecDepth 20000
set_option maxHeartbeats 4000000
instance T.fld_37_0 : Has (fldK Tryz.prog 37 0) (0, false, 1) := ⟨by kernel_rfl⟩
instance T.und_53 : Has (Tryz.prog.underlying 53) (.int .u16) := ⟨by kernel_rfl⟩
theorem lawDLate (I : IMap) (d : Dut) (hod : SmD d) (vc : Value) (c : List Kind) (hvc : RdS I vc c) (hoc : ∀ x ∈ c, OkKd x) (v : Value) (l : List Evt) (hv : RdS I v l) (hok : ∀ x ∈ l, OkE x) (p : ByteArray) (wp : p.size ≤ maxLen) (a : Int) (wa : (Lit.int .i64 a).wf = true) (b : Int) (wb : (Lit.int .i64 b).wf = true)  :
    FnV Tryz.prog 6 #[.agg d.cells.toArray, .agg #[vc], v, .string p, .int .i64 (a), .int .i64 (b)] I (.bool true) := by
 refine enter Tryz.func6 Tryz.call6 rfl Tryz.ntmps6 rfl (fun w0 => ?_)
 refine go 3 ?_
 refine o_box _ rfl rfl rfl (fun g6 => ?_)
 refine go 1 ?_
 refine o_box _ rfl rfl rfl (fun g7 => ?_)
 refine go 6 ?_
 refine o_callV (head26 _) rfl rfl ?_
 refine go 7 ?_
 refine o_buildSlice he he rfl rfl rfl rfl rfl rfl rfl (fun v17 => ?_)
 refine sx_pubrow (l := [d]) rfl rfl ((.one rfl)) (fun I17 j17 R17 => ?_)
 have hvc := hvc.le j17
 have hv := hv.le j17
 refine go 5 ?_
 refine c_cutx (α := IMap) (Ix := (fun J => J)) (Lx := (fun J => [(2, v), (3, .string p), (5, .int .i64 (b)), (7, .pointer (some ⟨g7, 0, none⟩)), (13, .bool true), (14, v17), (46, .bool (((!few26 [d] c l p || decide (a > b)) || decide ((((lateN [d] c l p a).length : Nat) : Int) = 0)) || !liveB c l p b))])) (Hx := (fun J => [.blk g7 25 [vc]])) (p := (fun J => ILe I17 J)) ?_ ?_
 ·refine go 6 ?_
  refine o_callV (law26few _ _ [d] R17 vc c hvc v l hv p) rfl rfl ?_
  refine go 2 ?_
  refine sxb 24 rfl (fun h24 p24 => ?_) (fun h24 p24 => ?_)
  ·refine go 24 ?_
   refine bring1 ?_
   refine sx_drop ?_
   exact q_cutx I17 (ILe.refl _) ⟨rfl, rfl, rfl, rfl, rfl, rfl, (congrArg (fun b => some (Value.bool b)) (by simp only [h24, bS])), trivial⟩ rfl rfl
  ·have hfw : few26 [d] c l p = true := by simpa using h24
   simp only [few26, Bool.and_eq_true] at hfw
   have hsc := fewC_sm hfw.1.1.2
   obtain ⟨hse, hel⟩ := fewE_sm hfw.1.2
   have hl : l.length ≤ 1000000 := by omega
   have hsd : ∀ x ∈ [d], SmD x := fun x hx => by rw [List.mem_singleton.1 hx]; exact hod
   refine go 5 ?_
   refine sxb 29 rfl (fun h29 p29 => ?_) (fun h29 p29 => ?_)
   ·refine go 19 ?_
    refine bring1 ?_
    refine sx_drop ?_
    exact q_cutx I17 (ILe.refl _) ⟨rfl, rfl, rfl, rfl, rfl, rfl, (congrArg (fun b => some (Value.bool b)) (by simp only [h24, h29, bS])), trivial⟩ rfl rfl
   ·refine go 6 ?_
    refine o_yes rfl rfl h29 (o_call (duOverdue _ _ [d] R17 (by simp) hsd vc c hvc hsc v l hv hl hse p a) rfl rfl (fun v35 I35 j35 q35 => ?_))
    try have hvc := hvc.le j35
    try have hv := hv.le j35
    try have R17 := R17.le j35
    have q35s := q35
    obtain ⟨A35, c35, rfl, _, _, _⟩ := q35s
    refine go 4 ?_
    refine sxb 39 rfl (fun h39 p39 => ?_) (fun h39 p39 => ?_)
    ·refine go 9 ?_
     refine bring1 ?_
     refine sx_drop ?_
     exact q_cutx I35 j35 ⟨rfl, rfl, rfl, rfl, rfl, rfl, (congrArg (fun b => some (Value.bool b)) (by simp only [h24, h29, h39, bS])), trivial⟩ rfl rfl
    ·refine go 5 ?_
     refine o_yes rfl rfl h39 (o_callV (law26lives _ vc c hvc hsc v l hv hl hse p b) rfl rfl ?_)
     refine go 4 ?_
     refine bring1 ?_
     refine sx_drop ?_
     exact q_cutx I35 j35 ⟨rfl, rfl, rfl, rfl, rfl, rfl, (congrArg (fun b => some (Value.bool b)) (by simp only [h24, h29, h39, bS])), trivial⟩ rfl rfl
 ·intro J hJ
  refine cb rfl (fun h46 p46 => ?_) (fun h46 p46 => ?_)
  ·refine go 8 ?_
   refine fin1 rfl rfl ?_
   exact q_vI rfl
  ·simp only [Bool.or_eq_false_iff, Bool.not_eq_false', decide_eq_false_iff_not] at h46
   obtain ⟨⟨⟨hfe, hab⟩, hne⟩, hlb⟩ := h46
   have hvc := hvc.le hJ
   have hv := hv.le hJ
   have R17 := R17.le hJ
   have hfw : few26 [d] c l p = true := by simpa using hfe
   simp only [few26, Bool.and_eq_true] at hfw
   have hsc := fewC_sm hfw.1.1.2
   obtain ⟨hse, hel⟩ := fewE_sm hfw.1.2
   have hl : l.length ≤ 1000000 := by omega
   have hsd : ∀ x ∈ [d], SmD x := fun x hx => by rw [List.mem_singleton.1 hx]; exact hod
   obtain ⟨hr1, hr2⟩ := duty_late (d := d) (by omega : a ≤ b) (fun e => hne (by rw [e]; rfl)) (by rw [liveB_is, if_pos hlb]; rfl)
   refine go 12 ?_
   refine o_yes rfl rfl rfl (o_call (duOverdue _ _ [d] R17 (by simp) hsd vc c hvc hsc v l hv hl hse p b) rfl rfl (fun v55 I55 j55 q55 => ?_))
   try have hvc := hvc.le j55
   try have hv := hv.le j55
   try have R17 := R17.le j55
   rw [hr1] at q55
   obtain ⟨A55, c55, rfl, _, _, _⟩ := q55
   refine go 1 ?_
   refine o_cons (o_yes rfl rfl rfl (o_val rfl (OV.cast (u := .bool true) (v_eql rfl rfl) (congrArg Value.bool (decide_eq_true (rfl)))) ?_))
   refine go 8 ?_
   refine o_yes rfl rfl rfl (o_call (duOpen _ _ [d] R17 (by simp) hsd vc c hvc hsc v l hv hl hse p b) rfl rfl (fun v65 I65 j65 q65 => ?_))
   try have hvc := hvc.le j65
   try have hv := hv.le j65
   try have R17 := R17.le j65
   rw [hr2] at q65
   obtain ⟨A65, c65, rfl, _, _, _⟩ := q65
   refine go 1 ?_
   refine o_cons (o_yes rfl rfl rfl (o_val rfl (OV.cast (u := .bool true) (v_eql rfl rfl) (congrArg Value.bool (decide_eq_true (rfl)))) ?_))
   refine go 5 ?_
   refine fin1 rfl rfl ?_
   exact q_vI rfl

end Go.Proofs.YtdkjmaoelojpeaaGreat

/- The law DutyLate holds of the given program, for every input. No condition. -/
namespace Go.Proofs.YtdkjmaoelojpeaaGreat
open Go Go.Sx
set_option linter.all false
theorem T.cel_25 : Tryz.prog.cellsOf 25 = 1 := by kernel_rfl
theorem T.cel_43 : Tryz.prog.cellsOf 43 = 5 := by kernel_rfl
theorem T.cel_45 : Tryz.prog.cellsOf 45 = 2 := by kernel_rfl
theorem T.cel_47 : Tryz.prog.cellsOf 47 = 6 := by kernel_rfl
theorem T.cel_49 : Tryz.prog.cellsOf 49 = 14 := by kernel_rfl
theorem T.cel_9 : Tryz.prog.cellsOf 9 = 1 := by kernel_rfl
theorem T.cel_95 : Tryz.prog.cellsOf 95 = 3 := by kernel_rfl
theorem T.cel_97 : Tryz.prog.cellsOf 97 = 3 := by kernel_rfl
instance T.fds_25 : Has (fieldsK Tryz.prog 25) [(23, 0, 1)] := ⟨by kernel_rfl⟩
instance T.fds_43 : Has (fieldsK Tryz.prog 43) [(9, 0, 1), (9, 1, 1), (9, 2, 1), (3, 3, 1), (3, 4, 1)] := ⟨by kernel_rfl⟩
instance T.fds_45 : Has (fieldsK Tryz.prog 45) [(3, 0, 1), (3, 1, 1)] := ⟨by kernel_rfl⟩
instance T.fds_47 : Has (fieldsK Tryz.prog 47) [(45, 0, 2), (45, 2, 2), (45, 4, 2)] := ⟨by kernel_rfl⟩
instance T.fds_49 : Has (fieldsK Tryz.prog 49) [(3, 0, 1), (3, 1, 1), (9, 2, 1), (9, 3, 1), (9, 4, 1), (9, 5, 1), (9, 6, 1), (9, 7, 1), (47, 8, 6)] := ⟨by kernel_rfl⟩
instance T.fds_95 : Has (fieldsK Tryz.prog 95) [(9, 0, 1), (4, 1, 1), (93, 2, 1)] := ⟨by kernel_rfl⟩
instance T.fds_97 : Has (fieldsK Tryz.prog 97) [(9, 0, 1), (30, 1, 1), (3, 2, 1)] := ⟨by kernel_rfl⟩
namespace lawDutyLate
open Go.ChangeShapes Go.WideShapes Go.ChangeAt Go.RowKit Go.ChangeMaps Go.MapKept
theorem own : ownKnob Tryz.prog.godebug = none := by kernel_rfl
set_option maxRecDepth 100000 in
theorem lifted (os : Os) (started : os.Started) (H : Type) (enc : TypeId × Value → H) :
    ReturnsInHanded {} Tryz.checked os 6 .any (Rows.dutyLateSpec.pre6 enc Tryz.prog Tryz.f6 Rows.dutyLateRow.domain false) (Rows.dutyLateSpec.post enc Tryz.prog Tryz.f6 false true false false) := by
  refine returnsInHanded_of_change (C := Tryz.checked) own started (by kernel_rfl) Tryz.func6
    (ChangeSpec.witness6 (enc := enc) (C := Tryz.checked) false ⟨#[], #[.agg #[.string ⟨#[]⟩, .string ⟨#[]⟩, .string ⟨#[]⟩, .int .i64 0, .int .i64 0], .agg #[.slice none 0 0], .slice none 0 0, .string ⟨#[]⟩, .int .i64 0, .int .i64 0], []⟩ 8 (by kernel_rfl) (by kernel_rfl) (by kernel_rfl) (by kernel_rfl)) ?_
  intro W base args ds gs before hval0 hW hcnd _
  have hval : ∀ (j : Nat) t v, Tryz.f6.params[j]? = some t → args[j]? = some v → Value.okWide Tryz.prog W .any base t v := hval0
  have hW' := hW
  obtain ⟨p, q, hA0, hV, rfl, hfz, hnd⟩ := hW
  have hA : DataW.TrodAll enc Tryz.prog W 0 (fun _ => true) true Tryz.f6.params.toList args.toList ds p := hA0
  rw [Tryz.params6] at hA hval
  obtain ⟨v0, vs0, d0, ds0, p0, q0, hargs, rfl, rfl, h0, r0⟩ := trodAll_cons hA
  obtain ⟨v1, vs1, d1, ds1, p1, q1, rfl, rfl, rfl, h1, r1⟩ := trodAll_cons r0
  obtain ⟨v2, vs2, d2, ds2, p2, q2, rfl, rfl, rfl, h2, r2⟩ := trodAll_cons r1
  obtain ⟨v3, vs3, d3, ds3, p3, q3, rfl, rfl, rfl, h3, r3⟩ := trodAll_cons r2
  obtain ⟨v4, vs4, d4, ds4, p4, q4, rfl, rfl, rfl, h4, r4⟩ := trodAll_cons r3
  obtain ⟨v5, vs5, d5, ds5, p5, q5, rfl, rfl, rfl, h5, r5⟩ := trodAll_cons r4
  obtain ⟨rfl, rfl, rfl⟩ := trodAll_nil r5
  obtain rfl : args = #[v0, v1, v2, v3, v4, v5] := by cases args; simp_all
  obtain ⟨rfl, rfl⟩ := trodVars_none hV
  clear hA0 hval0
  obtain ⟨cs0, rfl, hz0⟩ := okWide_agg T.fds_43.eq (hval 0 43 v0 rfl rfl)
  obtain ⟨fu0, hf0⟩ := h0
  obtain ⟨x0, e0, G0⟩ := (opens_dut T.fds_43.eq T.cel_43 (opens_string T.und_9.eq) (opens_int T.und_3.eq)) enc W 0 _ true fu0 _ _ hf0
  obtain rfl : cs0 = x0.cells.toArray := Array.toList_inj.1 e0
  obtain ⟨cs1, rfl, hz1⟩ := okWide_agg T.fds_25.eq (hval 1 25 v1 rfl rfl)
  obtain ⟨fu1, hf1⟩ := h1
  obtain ⟨l1, ⟨u1, e1, R1⟩, G1⟩ := (opens_wrap T.fds_25.eq T.cel_25 (opens_slice T.und_23.eq T.cel_95 rfl (opens_kind T.fds_95.eq T.cel_95 (opens_string T.und_9.eq) (opens_bool T.und_4.eq) (opens_slice T.und_93.eq T.cel_97 rfl (opens_slot T.fds_97.eq T.cel_97 (opens_string T.und_9.eq) (opens_slice T.und_30.eq T.cel_9 rfl (opens_string T.und_9.eq)) (opens_int T.und_3.eq)))))) enc W 0 _ true fu1 _ _ hf1
  obtain rfl : cs1 = #[u1] := Array.toList_inj.1 e1
  obtain ⟨s2, n2, c2, rfl⟩ := okWide_slice T.und_26.eq (hval 2 26 v2 rfl rfl)
  obtain ⟨fu2, hf2⟩ := h2
  obtain ⟨l2, ⟨u2, e2, R2⟩, G2⟩ := (opens_slice T.und_26.eq T.cel_49 rfl (opens_evt T.fds_49.eq T.cel_49 (opens_int T.und_3.eq) (opens_string T.und_9.eq) (opens_use T.fds_47.eq T.cel_47 (opens_ivl T.fds_45.eq T.cel_45 (opens_int T.und_3.eq))))) enc W 0 _ true fu2 _ _ hf2
  cases e2
  obtain ⟨a3, rfl, rfl, rfl, w3⟩ := open_string T.und_9.eq (hval 3 9 v3 rfl rfl) h3
  obtain ⟨a4, rfl, rfl, rfl, w4⟩ := open_int T.und_3.eq (hval 4 3 v4 rfl rfl) h4
  obtain ⟨a5, rfl, rfl, rfl, w5⟩ := open_int T.und_3.eq (hval 5 3 v5 rfl rfl) h5
  exact law_calls (s := Rows.dutyLateSpec) Tryz.call6 (lawDLate (Iw W) x0 G0 _ l1 R1 G1 _ l2 R2 G2 a3 w3 a4 w4 a5 w5) hW' (by kernel_rfl) (by kernel_rfl) rfl T.und_4.eq rfl rfl
theorem over : Rows.dutyLateRow.holds Tryz.pinned (OpenSpec.ofChange Rows.dutyLateSpec) :=
  OpenClaim.holds_of_wide 6 Tryz.f6 rfl rfl rfl rfl rfl rfl rfl ⟨rfl, rfl, rfl, rfl, rfl⟩ rfl rfl rfl rfl rfl (by kernel_rfl) Tryz.func6 (by kernel_rfl)
    (of_decide_eq_true (by kernel_rfl)) (by unfold Func.isWrapper; first | (rw [if_pos (by decide +kernel)]; kernel_rfl) | (rw [if_neg (by decide +kernel)]; exact ⟨rfl, rfl⟩))
    (fun os started H enc _ => lifted os started H enc)
/-- the statement -/
theorem proved : Rows.DutyLateSaid := over
end lawDutyLate
end Go.Proofs.YtdkjmaoelojpeaaGreat

