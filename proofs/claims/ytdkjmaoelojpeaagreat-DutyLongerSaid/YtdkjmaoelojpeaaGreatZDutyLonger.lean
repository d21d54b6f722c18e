/- The law DutyLonger holds of the given program, for every input. No condition. -/
import Derived.Test.YtdkjmaoelojpeaaGreatZDue
import Derived.ChangeMaps5
import Derived.OpenShut
import Derived.ProofKit
import Derived.Test.YtdkjmaoelojpeaaGreatRows
/- Walks, printed by a program out of the code of the functions: each theorem is a contract of one function. -/
namespace Go.Proofs.YtdkjmaoelojpeaaGreat
open Go Go.Sx
set_option linter.all false
set_option maxRecDepth 20000
set_option maxHeartbeats 4000000
instance T.fld_37_0 : Has (fldK Tryz.prog 37 0) (0, false, 1) := ⟨by kernel_rfl⟩
instance T.und_53 : Has (Tryz.prog.underlying 53) (.int .u16) := ⟨by kernel_rfl⟩
theorem lawDLonger (I : IMap) (d : Dut) (hod : SmD d) (a0 : Int) (w0 : (Lit.int .u16 a0).wf = true) (vc : Value) (c : List Kind) (hvc : RdS I vc c) (hoc : ∀ x ∈ c, OkKd x) (v : Value) (l : List Evt) (hv : RdS I v l) (hok : ∀ x ∈ l, OkE x) (p : ByteArray) (wp : p.size ≤ maxLen) (day : Int) (wday : (Lit.int .i64 day).wf = true)  :
    FnV Tryz.prog 9 #[.agg d.cells.toArray, .int .u16 a0, .agg #[vc], v, .string p, .int .i64 (day)] I (.bool true) := by
 obtain ⟨a, rfl, ha⟩ := u16_nat w0
 refine enter Tryz.func9 Tryz.call9 rfl Tryz.ntmps9 rfl (fun w0 => ?_)
 refine go 3 ?_
 refine o_box _ rfl rfl rfl (fun g6 => ?_)
 refine go 1 ?_
 refine o_box _ rfl rfl rfl (fun g8 => ?_)
 refine go 6 ?_
 refine o_callV (head26 _) rfl rfl ?_
 refine go 7 ?_
 refine o_buildSlice he he rfl rfl rfl rfl rfl rfl rfl (fun v18 => ?_)
 refine sx_pubrow (l := [d]) rfl rfl ((.one rfl)) (fun I18 j18 R18 => ?_)
 have hvc := hvc.le j18
 have hv := hv.le j18
 refine go 5 ?_
 refine c_cutx (α := IMap) (Ix := (fun J => J)) (Lx := (fun J => [(1, .int .u16 ((a : Nat) : Int)), (3, v), (4, .string p), (5, .int .i64 (day)), (6, .pointer (some ⟨g6, 0, none⟩)), (8, .pointer (some ⟨g8, 0, none⟩)), (13, .bool true), (39, .bool ((!few26 [d] c l p || !validDu d) || decide ((((lateN [d] c l p day).length : Nat) : Int) > 0)))])) (Hx := (fun J => [.blk g6 43 d.cells, .blk g8 25 [vc]])) (p := (fun J => ILe I18 J)) ?_ ?_
 ·refine go 6 ?_
  refine o_callV (law26few _ _ [d] R18 vc c hvc v l hv p) rfl rfl ?_
  refine go 2 ?_
  refine sxb 25 rfl (fun h25 p25 => ?_) (fun h25 p25 => ?_)
  ·refine go 16 ?_
   refine bring1 ?_
   exact q_cutx I18 (ILe.refl _) ⟨rfl, rfl, rfl, rfl, rfl, rfl, rfl, (congrArg (fun b => some (Value.bool b)) (by simp only [h25, bS])), trivial⟩ rfl rfl
  ·have hfw : few26 [d] c l p = true := by simpa using h25
   simp only [few26, Bool.and_eq_true] at hfw
   have hsc := fewC_sm hfw.1.1.2
   obtain ⟨hse, hel⟩ := fewE_sm hfw.1.2
   have hl : l.length ≤ 1000000 := by omega
   have hsd : ∀ x ∈ [d], SmD x := fun x hx => by rw [List.mem_singleton.1 hx]; exact hod
   refine go 2 ?_
   refine o_yes rfl rfl h25 (o_callV (r26Valid _ d hod) rfl rfl ?_)
   refine go 3 ?_
   refine sxb 30 rfl (fun h30 p30 => ?_) (fun h30 p30 => ?_)
   ·refine go 11 ?_
    refine bring1 ?_
    exact q_cutx I18 (ILe.refl _) ⟨rfl, rfl, rfl, rfl, rfl, rfl, rfl, (congrArg (fun b => some (Value.bool b)) (by simp only [h25, h30, bS])), trivial⟩ rfl rfl
   ·refine go 6 ?_
    refine o_yes rfl rfl h30 (o_call (duOverdue _ _ [d] R18 (by simp) hsd vc c hvc hsc v l hv hl hse p day) rfl rfl (fun v36 I36 j36 q36 => ?_))
    try have hvc := hvc.le j36
    try have hv := hv.le j36
    try have R18 := R18.le j36
    have q36s := q36
    obtain ⟨A36, c36, rfl, _, _, _⟩ := q36s
    refine go 5 ?_
    refine bring1 ?_
    exact q_cutx I36 j36 ⟨rfl, rfl, rfl, rfl, rfl, rfl, rfl, (congrArg (fun b => some (Value.bool b)) (by simp only [h25, h30, bS])), trivial⟩ rfl rfl
 ·intro J hJ
  refine cb rfl (fun h39 p39 => ?_) (fun h39 p39 => ?_)
  ·refine go 8 ?_
   refine fin1 rfl rfl ?_
   exact q_vI rfl
  ·simp only [Bool.or_eq_false_iff, Bool.not_eq_false', decide_eq_false_iff_not] at h39
   obtain ⟨⟨hfe, hvd⟩, hne⟩ := h39
   have hvc := hvc.le hJ
   have hv := hv.le hJ
   have hfw : few26 [d] c l p = true := by simpa using hfe
   simp only [few26, Bool.and_eq_true] at hfw
   have hsc := fewC_sm hfw.1.1.2
   obtain ⟨hse, hel⟩ := fewE_sm hfw.1.2
   have hl : l.length ≤ 1000000 := by omega
   have hsd : ∀ x ∈ [d], SmD x := fun x hx => by rw [List.mem_singleton.1 hx]; exact hod
   have hwi := valid_within hvd
   have hln : lateN [d] c l p day = [] := List.eq_nil_of_length_eq_zero (by omega)
   have hlo := duty_longer (w := d.within + ((a : Nat) : Int)) (by omega) hvd hln
   have hsd2 : ∀ x ∈ [({ d with within := d.within + ((a : Nat) : Int) } : Dut)], SmD x := fun x hx => by rw [List.mem_singleton.1 hx]; exact hod
   refine go 6 ?_
   refine o_alloc he rfl (fun g15 => ?_)
   refine go 1 ?_
   refine o_stw _ he rfl rfl rfl rfl rfl rfl ?_
   refine go 7 ?_
   refine o_v rfl (v_conv he he rfl (m := ((a : Nat) : Int)) (by rw [IntKind.wrap_i64]; omega)) ?_
   refine go 3 ?_
   refine o_st1 he rfl rfl rfl rfl ?_
   refine go 8 ?_
   refine o_yes rfl rfl rfl (o_buildSlice he he rfl rfl rfl rfl rfl rfl rfl (fun v51 => ?_))
   refine sx_pubrow (l := [({ d with within := d.within + ((a : Nat) : Int) } : Dut)]) rfl rfl ((.one rfl)) (fun I51 j51 R51 => ?_)
   have hvc := hvc.le j51
   have hv := hv.le j51
   refine go 5 ?_
   refine o_yes rfl rfl rfl (o_call (duOverdue _ _ [({ d with within := d.within + ((a : Nat) : Int) } : Dut)] R51 (by simp) hsd2 vc c hvc hsc v l hv hl hse p day) rfl rfl (fun v56 I56 j56 q56 => ?_))
   rw [hlo] at q56
   obtain ⟨A56, c56, rfl, _, _, _⟩ := q56
   refine go 1 ?_
   refine o_cons (o_yes rfl rfl rfl (o_val rfl (OV.cast (u := .bool true) (v_eql rfl rfl) (congrArg Value.bool (decide_eq_true (rfl)))) ?_))
   refine go 5 ?_
   refine fin1 rfl rfl ?_
   exact q_vI rfl

end Go.Proofs.YtdkjmaoelojpeaaGreat

/- The law DutyLonger holds of the given program, for every input. No condition. -/
namespace Go.Proofs.YtdkjmaoelojpeaaGreat
open Go Go.Sx
set_option linter.all false
theorem T.cel_25 : Tryz.prog.cellsOf 25 = 1 := by kernel_rfl
theorem T.cel_43 : Tryz.prog.cellsOf 43 = 5 := by kernel_rfl
theorem T.cel_45 : Tryz.prog.cellsOf 45 = 2 := by kernel_rfl
theorem T.cel_47 : Tryz.prog.cellsOf 47 = 6 := by kernel_rfl
theorem T.cel_49 : Tryz.prog.cellsOf 49 = 14 := by kernel_rfl
theorem T.cel_9 : Tryz.prog.cellsOf 9 = 1 := by kernel_rfl
theorem T.cel_95 : Tryz.prog.cellsOf 95 = 3 := by kernel_rfl
theorem T.cel_97 : Tryz.prog.cellsOf 97 = 3 := by kernel_rfl
instance T.fds_25 : Has (fieldsK Tryz.prog 25) [(23, 0, 1)] := ⟨by kernel_rfl⟩
instance T.fds_43 : Has (fieldsK Tryz.prog 43) [(9, 0, 1), (9, 1, 1), (9, 2, 1), (3, 3, 1), (3, 4, 1)] := ⟨by kernel_rfl⟩
instance T.fds_45 : Has (fieldsK Tryz.prog 45) [(3, 0, 1), (3, 1, 1)] := ⟨by kernel_rfl⟩
instance T.fds_47 : Has (fieldsK Tryz.prog 47) [(45, 0, 2), (45, 2, 2), (45, 4, 2)] := ⟨by kernel_rfl⟩
instance T.fds_49 : Has (fieldsK Tryz.prog 49) [(3, 0, 1), (3, 1, 1), (9, 2, 1), (9, 3, 1), (9, 4, 1), (9, 5, 1), (9, 6, 1), (9, 7, 1), (47, 8, 6)] := ⟨by kernel_rfl⟩
instance T.fds_95 : Has (fieldsK Tryz.prog 95) [(9, 0, 1), (4, 1, 1), (93, 2, 1)] := ⟨by kernel_rfl⟩
instance T.fds_97 : Has (fieldsK Tryz.prog 97) [(9, 0, 1), (30, 1, 1), (3, 2, 1)] := ⟨by kernel_rfl⟩
namespace lawDutyLonger
open Go.ChangeShapes Go.WideShapes Go.ChangeAt Go.RowKit Go.ChangeMaps Go.MapKept
theorem own : ownKnob Tryz.prog.godebug = none := by kernel_rfl
set_option maxRecDepth 100000 in
theorem lifted (os : Os) (started : os.Started) (H : Type) (enc : TypeId × Value → H) :
    ReturnsInHanded {} Tryz.checked os 9 .any (Rows.dutyLongerSpec.pre6 enc Tryz.prog Tryz.f9 Rows.dutyLongerRow.domain false) (Rows.dutyLongerSpec.post enc Tryz.prog Tryz.f9 false true false false) := by
  refine returnsInHanded_of_change (C := Tryz.checked) own started (by kernel_rfl) Tryz.func9
    (ChangeSpec.witness6 (enc := enc) (C := Tryz.checked) false ⟨#[], #[.agg #[.string ⟨#[]⟩, .string ⟨#[]⟩, .string ⟨#[]⟩, .int .i64 0, .int .i64 0], .int .u16 0, .agg #[.slice none 0 0], .slice none 0 0, .string ⟨#[]⟩, .int .i64 0], []⟩ 8 (by kernel_rfl) (by kernel_rfl) (by kernel_rfl) (by kernel_rfl)) ?_
  intro W base args ds gs before hval0 hW hcnd _
  have hval : ∀ (j : Nat) t v, Tryz.f9.params[j]? = some t → args[j]? = some v → Value.okWide Tryz.prog W .any base t v := hval0
  have hW' := hW
  obtain ⟨p, q, hA0, hV, rfl, hfz, hnd⟩ := hW
  have hA : DataW.TrodAll enc Tryz.prog W 0 (fun _ => true) true Tryz.f9.params.toList args.toList ds p := hA0
  rw [Tryz.params9] at hA hval
  obtain ⟨v0, vs0, d0, ds0, p0, q0, hargs, rfl, rfl, h0, r0⟩ := trodAll_cons hA
  obtain ⟨v1, vs1, d1, ds1, p1, q1, rfl, rfl, rfl, h1, r1⟩ := trodAll_cons r0
  obtain ⟨v2, vs2, d2, ds2, p2, q2, rfl, rfl, rfl, h2, r2⟩ := trodAll_cons r1
  obtain ⟨v3, vs3, d3, ds3, p3, q3, rfl, rfl, rfl, h3, r3⟩ := trodAll_cons r2
  obtain ⟨v4, vs4, d4, ds4, p4, q4, rfl, rfl, rfl, h4, r4⟩ := trodAll_cons r3
  obtain ⟨v5, vs5, d5, ds5, p5, q5, rfl, rfl, rfl, h5, r5⟩ := trodAll_cons r4
  obtain ⟨rfl, rfl, rfl⟩ := trodAll_nil r5
  obtain rfl : args = #[v0, v1, v2, v3, v4, v5] := by cases args; simp_all
  obtain ⟨rfl, rfl⟩ := trodVars_none hV
  clear hA0 hval0
  obtain ⟨cs0, rfl, hz0⟩ := okWide_agg T.fds_43.eq (hval 0 43 v0 rfl rfl)
  obtain ⟨fu0, hf0⟩ := h0
  obtain ⟨x0, e0, G0⟩ := (opens_dut T.fds_43.eq T.cel_43 (opens_string T.und_9.eq) (opens_int T.und_3.eq)) enc W 0 _ true fu0 _ _ hf0
  obtain rfl : cs0 = x0.cells.toArray := Array.toList_inj.1 e0
  obtain ⟨a1, rfl, rfl, rfl, w1⟩ := open_int T.und_53.eq (hval 1 53 v1 rfl rfl) h1
  obtain ⟨cs2, rfl, hz2⟩ := okWide_agg T.fds_25.eq (hval 2 25 v2 rfl rfl)
  obtain ⟨fu2, hf2⟩ := h2
  obtain ⟨l2, ⟨u2, e2, R2⟩, G2⟩ := (opens_wrap T.fds_25.eq T.cel_25 (opens_slice T.und_23.eq T.cel_95 rfl (opens_kind T.fds_95.eq T.cel_95 (opens_string T.und_9.eq) (opens_bool T.und_4.eq) (opens_slice T.und_93.eq T.cel_97 rfl (opens_slot T.fds_97.eq T.cel_97 (opens_string T.und_9.eq) (opens_slice T.und_30.eq T.cel_9 rfl (opens_string T.und_9.eq)) (opens_int T.und_3.eq)))))) enc W 0 _ true fu2 _ _ hf2
  obtain rfl : cs2 = #[u2] := Array.toList_inj.1 e2
  obtain ⟨s3, n3, c3, rfl⟩ := okWide_slice T.und_26.eq (hval 3 26 v3 rfl rfl)
  obtain ⟨fu3, hf3⟩ := h3
  obtain ⟨l3, ⟨u3, e3, R3⟩, G3⟩ := (opens_slice T.und_26.eq T.cel_49 rfl (opens_evt T.fds_49.eq T.cel_49 (opens_int T.und_3.eq) (opens_string T.und_9.eq) (opens_use T.fds_47.eq T.cel_47 (opens_ivl T.fds_45.eq T.cel_45 (opens_int T.und_3.eq))))) enc W 0 _ true fu3 _ _ hf3
  cases e3
  obtain ⟨a4, rfl, rfl, rfl, w4⟩ := open_string T.und_9.eq (hval 4 9 v4 rfl rfl) h4
  obtain ⟨a5, rfl, rfl, rfl, w5⟩ := open_int T.und_3.eq (hval 5 3 v5 rfl rfl) h5
  exact law_calls (s := Rows.dutyLongerSpec) Tryz.call9 (lawDLonger (Iw W) x0 G0 a1 w1 _ l2 R2 G2 _ l3 R3 G3 a4 w4 a5 w5) hW' (by kernel_rfl) (by kernel_rfl) rfl T.und_4.eq rfl rfl
theorem over : Rows.dutyLongerRow.holds Tryz.pinned (OpenSpec.ofChange Rows.dutyLongerSpec) :=
  OpenClaim.holds_of_wide 9 Tryz.f9 rfl rfl rfl rfl rfl rfl rfl ⟨rfl, rfl, rfl, rfl, rfl⟩ rfl rfl rfl rfl rfl (by kernel_rfl) Tryz.func9 (by kernel_rfl)
    (of_decide_eq_true (by kernel_rfl)) (by unfold Func.isWrapper; first | (rw [if_pos (by decide +kernel)]; kernel_rfl) | (rw [if_neg (by decide +kernel)]; exact ⟨rfl, rfl⟩))
    (fun os started H enc _ => lifted os started H enc)
/-- the statement -/
theorem proved : Rows.DutyLongerSaid := over
end lawDutyLonger
end Go.Proofs.YtdkjmaoelojpeaaGreat

