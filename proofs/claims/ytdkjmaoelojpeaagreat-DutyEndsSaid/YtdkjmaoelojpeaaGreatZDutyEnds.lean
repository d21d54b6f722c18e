/- The law DutyEnds holds of the given program, for every input. No condition. -/
import Derived.Test.YtdkjmaoelojpeaaGreatZDue
import Derived.ChangeMaps5
import Derived.OpenShut
import Derived.ProofKit
import Derived.Test.YtdkjmaoelojpeaaGreatRows
/- Walks, printed by a program out of the code of the functions: each theorem is a contract of one function. -/
namespace Go.Proofs.YtdkjmaoelojpeaaGreat
open Go Go.Sx
set_option linter.all false
set_option maxRecDepth 20000
set_option maxHeartbeats 4000000
instance T.fld_37_0 : Has (fldK Tryz.prog 37 0) (0, false, 1) := ⟨by kernel_rfl⟩
instance T.und_53 : Has (Tryz.prog.underlying 53) (.int .u16) := ⟨by kernel_rfl⟩
theorem lawDEnds (I : IMap) (d : Dut) (hod : SmD d) (vc : Value) (c : List Kind) (hvc : RdS I vc c) (hoc : ∀ x ∈ c, OkKd x) (v : Value) (l : List Evt) (hv : RdS I v l) (hok : ∀ x ∈ l, OkE x) (p : ByteArray) (wp : p.size ≤ maxLen) (day : Int) (wday : (Lit.int .i64 day).wf = true) (a0 : Int) (w0 : (Lit.int .u16 a0).wf = true) :
    FnV Tryz.prog 7 #[.agg d.cells.toArray, .agg #[vc], v, .string p, .int .i64 (day), .int .u16 a0] I (.bool true) := by
 obtain ⟨a, rfl, ha⟩ := u16_nat w0
 refine enter Tryz.func7 Tryz.call7 rfl Tryz.ntmps7 rfl (fun w0 => ?_)
 refine go 3 ?_
 refine o_box _ rfl rfl rfl (fun g6 => ?_)
 refine go 1 ?_
 refine o_box _ rfl rfl rfl (fun g7 => ?_)
 refine go 6 ?_
 refine o_callV (head26 _) rfl rfl ?_
 refine go 7 ?_
 refine o_buildSlice he he rfl rfl rfl rfl rfl rfl rfl (fun v22 => ?_)
 refine sx_pubrow (l := [d]) rfl rfl ((.one rfl)) (fun I22 j22 R22 => ?_)
 have hvc := hvc.le j22
 have hv := hv.le j22
 refine go 11 ?_
 refine o_callV (law26few _ _ [d] R22 vc c hvc v l hv p) rfl rfl ?_
 refine go 3 ?_
 refine cb rfl (fun h28 p28 => ?_) (fun h28 p28 => ?_)
 ·refine go 8 ?_
  refine fin1 rfl rfl ?_
  exact q_vI rfl
 ·have hfw : few26 [d] c l p = true := by simpa using h28
  simp only [few26, Bool.and_eq_true] at hfw
  have hsc := fewC_sm hfw.1.1.2
  obtain ⟨hse, hel⟩ := fewE_sm hfw.1.2
  have hl : l.length ≤ 1000000 := by omega
  have hsd : ∀ x ∈ [d], SmD x := fun x hx => by rw [List.mem_singleton.1 hx]; exact hod
  refine go 10 ?_
  refine o_call (duOpen _ _ [d] R22 (by simp) hsd vc c hvc hsc v l hv hl hse p day) rfl rfl (fun v35 I35 j35 q35 => ?_)
  try have hvc := hvc.le j35
  try have hv := hv.le j35
  try have R22 := R22.le j35
  have q35s := q35
  obtain ⟨A35, c35, rfl, hA35, _, _⟩ := q35s
  refine go 11 ?_
  refine cb rfl (fun h38 p38 => ?_) (fun h38 p38 => ?_)
  ·refine go 6 ?_
   refine o_cons (o_yes rfl rfl rfl (o_val rfl (OV.cast (u := .bool true) (v_eql rfl rfl) (congrArg Value.bool (decide_eq_true (by have := alone_len (d := d) (c := c) (l := l) (p := p) (day := day); omega)))) ?_))
   refine go 6 ?_
   refine fin1 rfl rfl ?_
   exact q_vI rfl
  ·have ho : (openD [d] c l p day).length = 1 := by revert h38; simp; omega
   obtain ⟨n, hon, hdn, hn8, hall, hlate⟩ := duty_ends ho
   have hd0 := duty_day ho
   have hx0 : ∀ h, (openD [d] c l p day)[0]'h = (⟨p, d.name, n⟩ : Due) := by rw [hon]; intro h; rfl
   have hv0 := hv
   obtain ⟨A, c0, rfl, hA, hc, hm⟩ := hv
   refine go 5 ?_
   obtain ⟨b46, o46, w46, e46, c46, r46⟩ := RdA.at_ hA35 (i := 0) (by omega)
   rw [hx0] at r46
   obtain rfl := r46
   refine o_v rfl (v_idx he rfl rfl e46 (0) (by omega) (by omega)) ?_
   refine o_v rfl (v_ldIa he rfl c46 rfl) ?_
   refine go 1 ?_
   refine o_alloc he rfl (fun g16 => ?_)
   refine go 1 ?_
   refine o_stw _ he rfl rfl rfl rfl rfl rfl ?_
   refine go 8 ?_
   refine o_v rfl (OV.cast (u := .bool false) (v_lss rfl rfl) (congrArg Value.bool (decide_eq_false (Int.not_lt.2 hdn)))) ?_
   refine go 4 ?_
   refine o_cons (o_yes rfl rfl rfl (o_val rfl (OV.cast (u := .bool false) (v_sneq rfl rfl) (congrArg Value.bool (by simp))) ?_))
   refine go 6 ?_
   refine o_cons (o_yes rfl rfl rfl (o_val rfl (OV.cast (u := .bool false) (v_sneq rfl rfl) (congrArg Value.bool (by simp))) ?_))
   refine go 3 ?_
   refine c_false rfl ?_
   refine go 4 ?_
   refine sx_nilrow 49 14 ?_
   refine go 10 ?_
   refine bring2 ?_
   refine bring3 ?_
   refine bring3 ?_
   refine bring3 ?_
   refine c_loop4 ((0 : Nat)) (_) ([]) ([]) (fun i v17 xs out => I35)
    (fun i v17 xs out => [(2, .slice A l.length c0), (3, .string p), (4, .int .i64 (day)), (5, .int .u16 ((a : Nat) : Int)), (6, .pointer (some ⟨g6, 0, none⟩)), (7, .pointer (some ⟨g7, 0, none⟩)), (13, .bool true), (14, v22), (15, .slice A35 (openD [d] c l p day).length c35), (16, .pointer (some ⟨g16, 0, none⟩)), (17, v17), (18, .int .i64 ((i : Nat) : Int))])
    (fun i v17 xs out => [.row v17 49 14 out.length xs, .blk g16 37 [.string p, .string d.name, .int .i64 (n)], .blk g6 43 d.cells, .blk g7 25 [vc]])
    (fun i v17 xs out => i ≤ l.length ∧ (l.take i).filter (fun e : Evt => !decide (e.day > day)) = out ∧ Flat I35 xs out)
    (fun i v17 xs out => l.length - i) ⟨Nat.zero_le _, rfl, .nil⟩ rfl sb rfl ?_
   intro i v17 xs out ⟨hi, hw, hF⟩
   have hol : out.length ≤ i := by rw [← hw]; exact Nat.le_trans (List.length_filter_le _ _) (by rw [List.length_take]; omega)
   refine go 9 ?_
   refine cb rfl (fun h68 p68 => ?_) (fun h68 p68 => ?_)
   ·have hlt : i < l.length := by omega
    refine go 8 ?_
    obtain ⟨b73, o73, w73, e73, c73, r73⟩ := RdA.at_ hA (i := i) hlt
    obtain rfl := r73
    refine o_v rfl (v_idx he rfl rfl e73 (i) (by omega) hlt) ?_
    refine go 1 ?_
    refine o_v rfl (v_ldI he rfl (c73 1 _ rfl)) ?_
    refine go 4 ?_
    refine cb rfl (fun h77 p77 => ?_) (fun h77 p77 => ?_)
    ·refine go 4 ?_
     obtain ⟨b81, o81, w81, e81, c81, r81⟩ := RdA.at_ hA (i := i) hlt
     obtain rfl := r81
     refine o_v rfl (v_idx he rfl rfl e81 (i) (by omega) hlt) ?_
     refine o_v rfl (v_ldIa he rfl c81 rfl) ?_
     refine go 1 ?_
     refine o_buildSlice he he rfl rfl rfl rfl rfl rfl rfl (fun v83 => ?_)
     refine go 1 ?_
     refine bring1 ?_
     refine o_appendO he he rfl rfl rfl rfl rfl (by omega) (by omega) rfl (fun v84 => ?_)
     refine go 10 ?_
     refine bring1 ?_
     refine sx_drop ?_
     exact q_next4 (i + 1) (_) (_) (out ++ [l[i]]) ⟨by omega, by rw [filter_yes (f := (fun e : Evt => !decide (e.day > day))) hlt (by simpa using p77), hw], hF.append (.one rfl)⟩ (by omega) rfl sb (by first | rfl | (simp only [List.length_append, List.length_singleton]; rfl) | simp only [List.length_append, List.length_singleton])
    ·refine go 9 ?_
     exact q_next4 (i + 1) (_) (_) (out) ⟨by omega, by rw [filter_no (f := (fun e : Evt => !decide (e.day > day))) hlt (by simpa using p77), hw], hF⟩ (by omega) rfl sb (by first | rfl | (simp only [List.length_append, List.length_singleton]; rfl) | simp only [List.length_append, List.length_singleton])
   ·have e : i = l.length := (by omega)
    subst e
    rw [List.take_length] at hw
    refine sx_pubrow (l := (upD l day)) rfl (by rw [← hw]; rfl) (by have h := hw; rw [show l.filter (fun e : Evt => !decide (e.day > day)) = (upD l day) from rfl] at h; rw [h]; exact hF) (fun I9 j9 Ru => ?_)
    have hvc := hvc.le j9
    have R22 := R22.le j9
    have q35 := q35.le j9
    have hul : (upD l day).length ≤ 1000000 := Nat.le_trans (List.length_filter_le _ _) (by omega)
    have hue : ∀ e ∈ (upD l day), SmE e := fun e h => hse e (List.mem_filter.1 h).1
    have hb1 : 0 ≤ ((a : Nat) : Int).tmod (n - day + 1) := Int.tmod_nonneg _ (by omega)
    have hb2 : ((a : Nat) : Int).tmod (n - day + 1) < n - day + 1 := Int.tmod_lt_of_pos _ (by omega)
    obtain ⟨ha1, ha2⟩ := hall (day + ((a : Nat) : Int).tmod (n - day + 1)) (by omega) (by omega)
    refine go 9 ?_
    refine o_v rfl (v_conv he he rfl (m := ((a : Nat) : Int)) (by rw [IntKind.wrap_i64]; omega)) ?_
    refine go 5 ?_
    refine o_v rfl (v_remI rfl rfl (by omega)) ?_
    refine go 5 ?_
    refine sx_knowI (fun hE18 hf18 => ?_)
    refine d_startH T.mixed ?_
    refine d_tv 0 rfl rfl (by kernel_rfl) rfl (.refl _) rfl (v_move rfl) ?_
    refine d_tv 1 rfl rfl (by kernel_rfl) rfl (.refl _) rfl (v_move rfl) ?_
    refine d_t 2 rfl rfl (by kernel_rfl) rfl (fun _ m => m.keeps (.refl _)) (y_yes rfl rfl rfl (v_move rfl)) ?_
    refine d_t 3 rfl rfl (by kernel_rfl) rfl (fun _ m => m.keeps (.refl _)) (y_yes rfl rfl rfl (v_ldw m2 he rfl rfl)) ?_
    refine d_t 4 rfl rfl (by kernel_rfl) rfl (fun _ m => m.keeps (.refl _)) (y_yes rfl rfl rfl (v_move rfl)) ?_
    refine d_t 5 rfl rfl (by kernel_rfl) rfl (fun _ m => m.keeps (.refl _)) (y_yes rfl rfl rfl (v_move rfl)) ?_
    refine d_t 6 rfl rfl (by kernel_rfl) rfl (fun _ m => m.keeps (.refl _)) (y_yes rfl rfl rfl (v_move rfl)) ?_
    refine d_t 8 rfl rfl (by kernel_rfl) rfl (fun _ m => m.keeps (.refl _)) (y_yes rfl rfl rfl (v_move rfl)) ?_
    refine d_one 7 (by kernel_rfl) rfl ?_
    refine o_yes rfl rfl rfl (o_call (duOpen _ _ [d] R22 (by simp) hsd vc c hvc hsc _ (upD l day) Ru hul hue p (day + ((a : Nat) : Int).tmod (n - day + 1))) rfl rfl (fun v102 I102 j102 q102 => ?_))
    try have hvc := hvc.le j102
    try have Ru := Ru.le j102
    try have R22 := R22.le j102
    try have q35 := q35.le j102
    try have q102 := q102.le j102
    rw [ha1] at q102
    refine d_on (fun _ m => m.keepsI (.refl _) (j102) hE18 hf18) ?_
    refine d_one 9 (by kernel_rfl) rfl ?_
    refine o_yes rfl rfl rfl (o_callV (r26Dues_t _ _ _ q102 _ _ q35 hon.symm) rfl rfl ?_)
    refine d_on (fun _ m => m.keepsI (.refl _) (j102) hE18 hf18) ?_
    refine d_t 10 rfl rfl (by kernel_rfl) rfl (fun _ m => m.keepsI (.refl _) (j102) hE18 hf18) (y_v rfl (v_and_t rfl rfl rfl)) ?_
    refine d_t 11 rfl rfl (by kernel_rfl) rfl (fun _ m => m.keepsI (.refl _) (j102) hE18 hf18) (y_v rfl (v_move rfl)) ?_
    refine d_t 12 rfl rfl (by kernel_rfl) rfl (fun _ m => m.keepsI (.refl _) (j102) hE18 hf18) (y_yes rfl rfl rfl (v_move rfl)) ?_
    refine d_t 13 rfl rfl (by kernel_rfl) rfl (fun _ m => m.keepsI (.refl _) (j102) hE18 hf18) (y_yes rfl rfl rfl (v_ldw m2 he rfl rfl)) ?_
    refine d_t 14 rfl rfl (by kernel_rfl) rfl (fun _ m => m.keepsI (.refl _) (j102) hE18 hf18) (y_yes rfl rfl rfl (v_move rfl)) ?_
    refine d_t 15 rfl rfl (by kernel_rfl) rfl (fun _ m => m.keepsI (.refl _) (j102) hE18 hf18) (y_yes rfl rfl rfl (v_move rfl)) ?_
    refine d_t 16 rfl rfl (by kernel_rfl) rfl (fun _ m => m.keepsI (.refl _) (j102) hE18 hf18) (y_yes rfl rfl rfl (v_move rfl)) ?_
    refine d_one 17 (by kernel_rfl) rfl ?_
    refine o_yes rfl rfl rfl (o_call (duOverdue _ _ [d] R22 (by simp) hsd vc c hvc hsc _ (upD l day) Ru hul hue p (day + ((a : Nat) : Int).tmod (n - day + 1))) rfl rfl (fun v112 I112 j112 q112 => ?_))
    try have hvc := hvc.le j112
    try have Ru := Ru.le j112
    try have R22 := R22.le j112
    try have q35 := q35.le j112
    try have q102 := q102.le j112
    rw [ha2] at q112
    obtain ⟨A112, c112, rfl, _, _, _⟩ := q112
    refine d_on (fun _ m => m.keepsI (.refl _) ((j102).trans j112) hE18 hf18) ?_
    refine d_t 18 rfl rfl (by kernel_rfl) rfl (fun _ m => m.keepsI (.refl _) ((j102).trans j112) hE18 hf18) (y_yes rfl rfl rfl (v_len_slice he rfl)) ?_
    refine d_t 19 rfl rfl (by kernel_rfl) rfl (fun _ m => m.keepsI (.refl _) ((j102).trans j112) hE18 hf18) (y_yes rfl rfl rfl (OV.cast (u := .bool true) (v_eql rfl rfl) (congrArg Value.bool (decide_eq_true (rfl))))) ?_
    refine d_t 20 rfl rfl (by kernel_rfl) rfl (fun _ m => m.keepsI (.refl _) ((j102).trans j112) hE18 hf18) (y_v rfl (v_and_t rfl rfl rfl)) ?_
    refine d_t 21 rfl rfl (by kernel_rfl) rfl (fun _ m => m.keepsI (.refl _) ((j102).trans j112) hE18 hf18) (y_v rfl (v_move rfl)) ?_
    refine d_t 22 rfl rfl (by kernel_rfl) rfl (fun _ m => m.keepsI (.refl _) ((j102).trans j112) hE18 hf18) (y_yes rfl rfl rfl (v_move rfl)) ?_
    refine d_t 23 rfl rfl (by kernel_rfl) rfl (fun _ m => m.keepsI (.refl _) ((j102).trans j112) hE18 hf18) (y_yes rfl rfl rfl (v_ldw m2 he rfl rfl)) ?_
    refine d_t 24 rfl rfl (by kernel_rfl) rfl (fun _ m => m.keepsI (.refl _) ((j102).trans j112) hE18 hf18) (y_yes rfl rfl rfl (v_move rfl)) ?_
    refine d_t 25 rfl rfl (by kernel_rfl) rfl (fun _ m => m.keepsI (.refl _) ((j102).trans j112) hE18 hf18) (y_yes rfl rfl rfl (v_move rfl)) ?_
    refine d_t 26 rfl rfl (by kernel_rfl) rfl (fun _ m => m.keepsI (.refl _) ((j102).trans j112) hE18 hf18) (y_yes rfl rfl rfl (v_fieldAddr he rfl)) ?_
    refine d_t 27 rfl rfl (by kernel_rfl) rfl (fun _ m => m.keepsI (.refl _) ((j102).trans j112) hE18 hf18) (y_yes rfl rfl rfl (v_ld m0 he rfl rfl)) ?_
    refine d_t 28 rfl rfl (by kernel_rfl) rfl (fun _ m => m.keepsI (.refl _) ((j102).trans j112) hE18 hf18) (y_yes rfl rfl rfl (v_add rfl rfl ⟨by omega, by omega⟩)) ?_
    refine d_t 30 rfl rfl (by kernel_rfl) rfl (fun _ m => m.keepsI (.refl _) ((j102).trans j112) hE18 hf18) (y_yes rfl rfl rfl (v_fieldAddr he rfl)) ?_
    refine d_t 31 rfl rfl (by kernel_rfl) rfl (fun _ m => m.keepsI (.refl _) ((j102).trans j112) hE18 hf18) (y_yes rfl rfl rfl (v_ld m1 he rfl rfl)) ?_
    refine d_two 29 32 (by kernel_rfl) rfl rfl ?_ ?_
    ·refine o_yes rfl rfl rfl (o_call (duOverdue _ _ [d] R22 (by simp) hsd vc c hvc hsc _ (upD l day) Ru hul hue p (n + 1)) rfl rfl (fun v124 I124 j124 q124 => ?_))
     try have hvc := hvc.le j124
     try have Ru := Ru.le j124
     try have R22 := R22.le j124
     try have q35 := q35.le j124
     try have q102 := q102.le j124
     try have R127 := R127.le j124
     rw [hlate] at q124
     refine d_on (fun _ m => m.keepsI (.refl _) (((j102).trans j112).trans j124) hE18 hf18) ?_
     refine d_one 32 (by kernel_rfl) rfl ?_
     refine o_yes rfl rfl rfl (o_buildSlice he he rfl rfl rfl rfl rfl rfl rfl (fun v127 => ?_))
     refine sx_pubrow (l := [d.name]) rfl rfl ((.one rfl)) (fun I127 j127 R127 => ?_)
     try have hvc := hvc.le j127
     try have Ru := Ru.le j127
     try have R22 := R22.le j127
     try have q35 := q35.le j127
     try have q102 := q102.le j127
     try have q124 := q124.le j127
     refine d_on (fun _ m => m.keepsI (.refl _) ((((j102).trans j112).trans j124).trans j127) hE18 hf18) ?_
     refine d_one 33 (by kernel_rfl) rfl ?_
     refine o_yes rfl rfl rfl (o_callV (ref09Strings_t _ _ _ q124 _ _ R127 rfl) rfl rfl ?_)
     refine d_on (fun _ m => m.keepsI (.refl _) ((((j102).trans j112).trans j124).trans j127) hE18 hf18) ?_
     refine d_t 34 rfl rfl (by kernel_rfl) rfl (fun _ m => m.keepsI (.refl _) ((((j102).trans j112).trans j124).trans j127) hE18 hf18) (y_v rfl (v_and_t rfl rfl rfl)) ?_
     refine d_t 35 rfl rfl (by kernel_rfl) rfl (fun _ m => m.keepsI (.refl _) ((((j102).trans j112).trans j124).trans j127) hE18 hf18) (y_v rfl (v_assign rfl)) ?_
     refine d_done (by kernel_rfl) ?_
     refine go 2 ?_
     refine fin1 rfl rfl ?_
     exact q_vI rfl
    ·refine o_yes rfl rfl rfl (o_buildSlice he he rfl rfl rfl rfl rfl rfl rfl (fun v127 => ?_))
     refine sx_pubrow (l := [d.name]) rfl rfl ((.one rfl)) (fun I127 j127 R127 => ?_)
     try have hvc := hvc.le j127
     try have Ru := Ru.le j127
     try have R22 := R22.le j127
     try have q35 := q35.le j127
     try have q102 := q102.le j127
     try have q124 := q124.le j127
     refine d_on (fun _ m => m.keepsI (.refl _) (((j102).trans j112).trans j127) hE18 hf18) ?_
     refine d_one 29 (by kernel_rfl) rfl ?_
     refine o_yes rfl rfl rfl (o_call (duOverdue _ _ [d] R22 (by simp) hsd vc c hvc hsc _ (upD l day) Ru hul hue p (n + 1)) rfl rfl (fun v124 I124 j124 q124 => ?_))
     try have hvc := hvc.le j124
     try have Ru := Ru.le j124
     try have R22 := R22.le j124
     try have q35 := q35.le j124
     try have q102 := q102.le j124
     try have R127 := R127.le j124
     rw [hlate] at q124
     refine d_on (fun _ m => m.keepsI (.refl _) ((((j102).trans j112).trans j127).trans j124) hE18 hf18) ?_
     refine d_one 33 (by kernel_rfl) rfl ?_
     refine o_yes rfl rfl rfl (o_callV (ref09Strings_t _ _ _ q124 _ _ R127 rfl) rfl rfl ?_)
     refine d_on (fun _ m => m.keepsI (.refl _) ((((j102).trans j112).trans j127).trans j124) hE18 hf18) ?_
     refine d_t 34 rfl rfl (by kernel_rfl) rfl (fun _ m => m.keepsI (.refl _) ((((j102).trans j112).trans j127).trans j124) hE18 hf18) (y_v rfl (v_and_t rfl rfl rfl)) ?_
     refine d_t 35 rfl rfl (by kernel_rfl) rfl (fun _ m => m.keepsI (.refl _) ((((j102).trans j112).trans j127).trans j124) hE18 hf18) (y_v rfl (v_assign rfl)) ?_
     refine d_done (by kernel_rfl) ?_
     refine go 2 ?_
     refine fin1 rfl rfl ?_
     exact q_vI rfl

end Go.Proofs.YtdkjmaoelojpeaaGreat

/- The law DutyEnds holds of the given program, for every input. No condition. -/
namespace Go.Proofs.YtdkjmaoelojpeaaGreat
open Go Go.Sx
set_option linter.all false
theorem T.cel_25 : Tryz.prog.cellsOf 25 = 1 := by kernel_rfl
theorem T.cel_43 : Tryz.prog.cellsOf 43 = 5 := by kernel_rfl
theorem T.cel_45 : Tryz.prog.cellsOf 45 = 2 := by kernel_rfl
theorem T.cel_47 : Tryz.prog.cellsOf 47 = 6 := by kernel_rfl
theorem T.cel_49 : Tryz.prog.cellsOf 49 = 14 := by kernel_rfl
theorem T.cel_9 : Tryz.prog.cellsOf 9 = 1 := by kernel_rfl
theorem T.cel_95 : Tryz.prog.cellsOf 95 = 3 := by kernel_rfl
theorem T.cel_97 : Tryz.prog.cellsOf 97 = 3 := by kernel_rfl
instance T.fds_25 : Has (fieldsK Tryz.prog 25) [(23, 0, 1)] := ⟨by kernel_rfl⟩
instance T.fds_43 : Has (fieldsK Tryz.prog 43) [(9, 0, 1), (9, 1, 1), (9, 2, 1), (3, 3, 1), (3, 4, 1)] := ⟨by kernel_rfl⟩
instance T.fds_45 : Has (fieldsK Tryz.prog 45) [(3, 0, 1), (3, 1, 1)] := ⟨by kernel_rfl⟩
instance T.fds_47 : Has (fieldsK Tryz.prog 47) [(45, 0, 2), (45, 2, 2), (45, 4, 2)] := ⟨by kernel_rfl⟩
instance T.fds_49 : Has (fieldsK Tryz.prog 49) [(3, 0, 1), (3, 1, 1), (9, 2, 1), (9, 3, 1), (9, 4, 1), (9, 5, 1), (9, 6, 1), (9, 7, 1), (47, 8, 6)] := ⟨by kernel_rfl⟩
instance T.fds_95 : Has (fieldsK Tryz.prog 95) [(9, 0, 1), (4, 1, 1), (93, 2, 1)] := ⟨by kernel_rfl⟩
instance T.fds_97 : Has (fieldsK Tryz.prog 97) [(9, 0, 1), (30, 1, 1), (3, 2, 1)] := ⟨by kernel_rfl⟩
namespace lawDutyEnds
open Go.ChangeShapes Go.WideShapes Go.ChangeAt Go.RowKit Go.ChangeMaps Go.MapKept
theorem own : ownKnob Tryz.prog.godebug = none := by kernel_rfl
set_option maxRecDepth 100000 in
theorem lifted (os : Os) (started : os.Started) (H : Type) (enc : TypeId × Value → H) :
    ReturnsInHanded {} Tryz.checked os 7 .any (Rows.dutyEndsSpec.pre6 enc Tryz.prog Tryz.f7 Rows.dutyEndsRow.domain false) (Rows.dutyEndsSpec.post enc Tryz.prog Tryz.f7 false true false false) := by
  refine returnsInHanded_of_change (C := Tryz.checked) own started (by kernel_rfl) Tryz.func7
    (ChangeSpec.witness6 (enc := enc) (C := Tryz.checked) false ⟨#[], #[.agg #[.string ⟨#[]⟩, .string ⟨#[]⟩, .string ⟨#[]⟩, .int .i64 0, .int .i64 0], .agg #[.slice none 0 0], .slice none 0 0, .string ⟨#[]⟩, .int .i64 0, .int .u16 0], []⟩ 8 (by kernel_rfl) (by kernel_rfl) (by kernel_rfl) (by kernel_rfl)) ?_
  intro W base args ds gs before hval0 hW hcnd _
  have hval : ∀ (j : Nat) t v, Tryz.f7.params[j]? = some t → args[j]? = some v → Value.okWide Tryz.prog W .any base t v := hval0
  have hW' := hW
  obtain ⟨p, q, hA0, hV, rfl, hfz, hnd⟩ := hW
  have hA : DataW.TrodAll enc Tryz.prog W 0 (fun _ => true) true Tryz.f7.params.toList args.toList ds p := hA0
  rw [Tryz.params7] at hA hval
  obtain ⟨v0, vs0, d0, ds0, p0, q0, hargs, rfl, rfl, h0, r0⟩ := trodAll_cons hA
  obtain ⟨v1, vs1, d1, ds1, p1, q1, rfl, rfl, rfl, h1, r1⟩ := trodAll_cons r0
  obtain ⟨v2, vs2, d2, ds2, p2, q2, rfl, rfl, rfl, h2, r2⟩ := trodAll_cons r1
  obtain ⟨v3, vs3, d3, ds3, p3, q3, rfl, rfl, rfl, h3, r3⟩ := trodAll_cons r2
  obtain ⟨v4, vs4, d4, ds4, p4, q4, rfl, rfl, rfl, h4, r4⟩ := trodAll_cons r3
  obtain ⟨v5, vs5, d5, ds5, p5, q5, rfl, rfl, rfl, h5, r5⟩ := trodAll_cons r4
  obtain ⟨rfl, rfl, rfl⟩ := trodAll_nil r5
  obtain rfl : args = #[v0, v1, v2, v3, v4, v5] := by cases args; simp_all
  obtain ⟨rfl, rfl⟩ := trodVars_none hV
  clear hA0 hval0
  obtain ⟨cs0, rfl, hz0⟩ := okWide_agg T.fds_43.eq (hval 0 43 v0 rfl rfl)
  obtain ⟨fu0, hf0⟩ := h0
  obtain ⟨x0, e0, G0⟩ := (opens_dut T.fds_43.eq T.cel_43 (opens_string T.und_9.eq) (opens_int T.und_3.eq)) enc W 0 _ true fu0 _ _ hf0
  obtain rfl : cs0 = x0.cells.toArray := Array.toList_inj.1 e0
  obtain ⟨cs1, rfl, hz1⟩ := okWide_agg T.fds_25.eq (hval 1 25 v1 rfl rfl)
  obtain ⟨fu1, hf1⟩ := h1
  obtain ⟨l1, ⟨u1, e1, R1⟩, G1⟩ := (opens_wrap T.fds_25.eq T.cel_25 (opens_slice T.und_23.eq T.cel_95 rfl (opens_kind T.fds_95.eq T.cel_95 (opens_string T.und_9.eq) (opens_bool T.und_4.eq) (opens_slice T.und_93.eq T.cel_97 rfl (opens_slot T.fds_97.eq T.cel_97 (opens_string T.und_9.eq) (opens_slice T.und_30.eq T.cel_9 rfl (opens_string T.und_9.eq)) (opens_int T.und_3.eq)))))) enc W 0 _ true fu1 _ _ hf1
  obtain rfl : cs1 = #[u1] := Array.toList_inj.1 e1
  obtain ⟨s2, n2, c2, rfl⟩ := okWide_slice T.und_26.eq (hval 2 26 v2 rfl rfl)
  obtain ⟨fu2, hf2⟩ := h2
  obtain ⟨l2, ⟨u2, e2, R2⟩, G2⟩ := (opens_slice T.und_26.eq T.cel_49 rfl (opens_evt T.fds_49.eq T.cel_49 (opens_int T.und_3.eq) (opens_string T.und_9.eq) (opens_use T.fds_47.eq T.cel_47 (opens_ivl T.fds_45.eq T.cel_45 (opens_int T.und_3.eq))))) enc W 0 _ true fu2 _ _ hf2
  cases e2
  obtain ⟨a3, rfl, rfl, rfl, w3⟩ := open_string T.und_9.eq (hval 3 9 v3 rfl rfl) h3
  obtain ⟨a4, rfl, rfl, rfl, w4⟩ := open_int T.und_3.eq (hval 4 3 v4 rfl rfl) h4
  obtain ⟨a5, rfl, rfl, rfl, w5⟩ := open_int T.und_53.eq (hval 5 53 v5 rfl rfl) h5
  exact law_calls (s := Rows.dutyEndsSpec) Tryz.call7 (lawDEnds (Iw W) x0 G0 _ l1 R1 G1 _ l2 R2 G2 a3 w3 a4 w4 a5 w5) hW' (by kernel_rfl) (by kernel_rfl) rfl T.und_4.eq rfl rfl
theorem over : Rows.dutyEndsRow.holds Tryz.pinned (OpenSpec.ofChange Rows.dutyEndsSpec) :=
  OpenClaim.holds_of_wide 7 Tryz.f7 rfl rfl rfl rfl rfl rfl rfl ⟨rfl, rfl, rfl, rfl, rfl⟩ rfl rfl rfl rfl rfl (by kernel_rfl) Tryz.func7 (by kernel_rfl)
    (of_decide_eq_true (by kernel_rfl)) (by unfold Func.isWrapper; first | (rw [if_pos (by decide +kernel)]; kernel_rfl) | (rw [if_neg (by decide +kernel)]; exact ⟨rfl, rfl⟩))
    (fun os started H enc _ => lifted os started H enc)
/-- the statement -/
theorem proved : Rows.DutyEndsSaid := over
end lawDutyEnds
end Go.Proofs.YtdkjmaoelojpeaaGreat

