/- The law DutyOthers holds of the given program, for every input. No condition. -/
import Derived.Test.YtdkjmaoelojpeaaGreatZDue
import Derived.ChangeMaps5
import Derived.OpenShut
import Derived.ProofKit
import Derived.Test.YtdkjmaoelojpeaaGreatRows
/- Walks, printed by a program out of the code of the functions: each theorem is a contract of one function. -/
namespace Go.Proofs.YtdkjmaoelojpeaaGreat
open Go Go.Sx
set_option linter.all false
set_option maxRecDepth 20000
set_option maxHeartbeats 4000000
instance T.fld_37_0 : Has (fldK Tryz.prog 37 0) (0, false, 1) := ⟨by kernel_rfl⟩
instance T.und_53 : Has (Tryz.prog.underlying 53) (.int .u16) := ⟨by kernel_rfl⟩
theorem lawDOthers (I : IMap) (vd : Value) (ds : List Dut) (hds : RdS I vd ds) (hod : ∀ d ∈ ds, SmD d) (vc : Value) (c : List Kind) (hvc : RdS I vc c) (hoc : ∀ x ∈ c, OkKd x) (v : Value) (l : List Evt) (hv : RdS I v l) (hok : ∀ x ∈ l, OkE x) (hbig : l.length * 160 ≤ 140737488351232) (p : ByteArray) (wp : p.size ≤ maxLen) (day : Int) (wday : (Lit.int .i64 day).wf = true) (x : Evt) (hox : OkE x) (a0 : Int) (w0 : (Lit.int .u8 a0).wf = true) :
    FnV Tryz.prog 8 #[vd, .agg #[vc], v, .string p, .int .i64 (day), .agg x.cells.toArray, .int .u8 a0] I (.bool true) := by
 obtain ⟨a, rfl, ha⟩ := u8_nat w0
 have hv0 := hv
 obtain ⟨A, c0, rfl, hA, hc, hm⟩ := hv
 have hk : a % (l.length + 1) < l.length + 1 := Nat.mod_lt _ (by omega)
 refine enter Tryz.func8 Tryz.call8 rfl Tryz.ntmps8 rfl (fun w0 => ?_)
 refine go 3 ?_
 refine o_box _ rfl rfl rfl (fun g8 => ?_)
 refine go 1 ?_
 refine o_box _ rfl rfl rfl (fun g12 => ?_)
 refine go 6 ?_
 refine o_callV (head26 _) rfl rfl ?_
 refine go 6 ?_
 refine o_v rfl (v_conv he he rfl (m := ((a : Nat) : Int)) (by rw [IntKind.wrap_i64]; omega)) ?_
 refine go 2 ?_
 refine o_v rfl (OV.cast (u := .int .i64 ((l.length + 1 : Nat) : Int)) (v_add rfl rfl ⟨by omega, by omega⟩) (congrArg (Value.int .i64) (by omega))) ?_
 refine o_v rfl (v_rem rfl rfl (by omega) (by omega)) ?_
 refine go 4 ?_
 refine c_cutx2 (Ix := (fun v17 xs => I)) (Lx := (fun v17 xs => [(0, vd), (2, .slice A l.length c0), (3, .string p), (4, .int .i64 (day)), (8, .pointer (some ⟨g8, 0, none⟩)), (12, .pointer (some ⟨g12, 0, none⟩)), (15, .bool true), (16, .int .i64 (((a % (l.length + 1)) : Nat) : Int)), (17, v17)])) (Hx := (fun v17 xs => [.row v17 49 14 (l.take (a % (l.length + 1)) ++ [x]).length xs, .blk g8 25 [vc], .blk g12 49 x.cells])) (p := (fun v17 xs => Flat I xs (l.take (a % (l.length + 1)) ++ [x]))) ?_ ?_
 ·refine d_startH T.mixed ?_
  refine d_tv 1 rfl rfl (by kernel_rfl) rfl (.refl _) rfl (v_move rfl) ?_
  refine d_tv 2 rfl rfl (by kernel_rfl) rfl (.refl _) rfl (v_move rfl) ?_
  refine d_tv 3 rfl rfl (by kernel_rfl) rfl (.refl _) rfl (v_slice_hi he rfl rfl (a % (l.length + 1)) (by omega) (by omega)) ?_
  refine d_tv 5 rfl rfl (by kernel_rfl) rfl (.refl _) rfl (v_ldw m0 he rfl rfl) ?_
  refine d_two 0 6 (by kernel_rfl) rfl rfl ?_ ?_
  ·refine o_buildSlice he he rfl rfl rfl rfl rfl rfl rfl (fun v25 => ?_)
   refine d_on (fun _ m => m.keeps (.cons _ (.refl _))) ?_
   refine d_two 4 6 (by kernel_rfl) rfl rfl ?_ ?_
   ·refine o_appendR ((hv0.takeM (a % (l.length + 1)) (by omega))) rfl he he rfl rfl rfl rfl (by simp only [List.length_take, List.length_drop]; omega) (by simp only [List.length_take, List.length_drop]; omega) rfl (fun v29 x29 f29 => ?_)
    refine d_on (fun _ m => m.keeps (.cons _ (.refl _))) ?_
    refine d_one 6 (by kernel_rfl) rfl ?_
    refine o_buildSlice he he rfl rfl rfl rfl rfl rfl rfl (fun v31 => ?_)
    refine d_on (fun _ m => m.keeps (.cons _ (.cons _ (.refl _)))) ?_
    refine d_one 7 (by kernel_rfl) rfl ?_
    refine bring1 ?_
    refine o_appendO he he rfl rfl rfl rfl rfl (by simp only [List.length_take, List.length_drop]; omega) (by simp only [List.length_take, List.length_drop]; omega) rfl (fun v32 => ?_)
    refine d_on (fun _ m => m.keeps (.cons _ (.cons _ (.refl _)))) ?_
    refine d_tv 8 rfl rfl (by kernel_rfl) rfl (.cons _ (.cons _ (.refl _))) rfl (v_assign rfl) ?_
    refine d_done (by kernel_rfl) ?_
    refine go 1 ?_
    refine bring1 ?_
    refine sx_drop ?_
    refine bring1 ?_
    refine bring2 ?_
    refine bring2 ?_
    exact q_cutx2 (_) (_) (f29.append (.one rfl)) sb (by rw [List.length_append, Nat.zero_add]; rfl) rfl
   ·refine o_buildSlice he he rfl rfl rfl rfl rfl rfl rfl (fun v31 => ?_)
    refine d_on (fun _ m => m.keeps (.cons _ (.cons _ (.refl _)))) ?_
    refine d_one 4 (by kernel_rfl) rfl ?_
    refine bring1 ?_
    refine o_appendR ((hv0.takeM (a % (l.length + 1)) (by omega))) rfl he he rfl rfl rfl rfl (by simp only [List.length_take, List.length_drop]; omega) (by simp only [List.length_take, List.length_drop]; omega) rfl (fun v29 x29 f29 => ?_)
    refine d_on (fun _ m => m.keeps (.cons _ (.cons _ (.refl _)))) ?_
    refine d_one 7 (by kernel_rfl) rfl ?_
    refine bring1 ?_
    refine bring1 ?_
    refine o_appendO he he rfl rfl rfl rfl rfl (by simp only [List.length_take, List.length_drop]; omega) (by simp only [List.length_take, List.length_drop]; omega) rfl (fun v32 => ?_)
    refine d_on (fun _ m => m.keeps (.cons _ (.cons _ (.refl _)))) ?_
    refine d_tv 8 rfl rfl (by kernel_rfl) rfl (.cons _ (.cons _ (.refl _))) rfl (v_assign rfl) ?_
    refine d_done (by kernel_rfl) ?_
    refine go 1 ?_
    refine bring1 ?_
    refine sx_drop ?_
    refine bring1 ?_
    refine bring2 ?_
    refine bring2 ?_
    exact q_cutx2 (_) (_) (f29.append (.one rfl)) sb (by rw [List.length_append, Nat.zero_add]; rfl) rfl
  ·refine o_buildSlice he he rfl rfl rfl rfl rfl rfl rfl (fun v31 => ?_)
   refine d_on (fun _ m => m.keeps (.cons _ (.refl _))) ?_
   refine d_one 0 (by kernel_rfl) rfl ?_
   refine o_buildSlice he he rfl rfl rfl rfl rfl rfl rfl (fun v25 => ?_)
   refine d_on (fun _ m => m.keeps (.cons _ (.cons _ (.refl _)))) ?_
   refine d_one 4 (by kernel_rfl) rfl ?_
   refine o_appendR ((hv0.takeM (a % (l.length + 1)) (by omega))) rfl he he rfl rfl rfl rfl (by simp only [List.length_take, List.length_drop]; omega) (by simp only [List.length_take, List.length_drop]; omega) rfl (fun v29 x29 f29 => ?_)
   refine d_on (fun _ m => m.keeps (.cons _ (.cons _ (.refl _)))) ?_
   refine d_one 7 (by kernel_rfl) rfl ?_
   refine bring1 ?_
   refine bring1 ?_
   refine o_appendO he he rfl rfl rfl rfl rfl (by simp only [List.length_take, List.length_drop]; omega) (by simp only [List.length_take, List.length_drop]; omega) rfl (fun v32 => ?_)
   refine d_on (fun _ m => m.keeps (.cons _ (.cons _ (.refl _)))) ?_
   refine d_tv 8 rfl rfl (by kernel_rfl) rfl (.cons _ (.cons _ (.refl _))) rfl (v_assign rfl) ?_
   refine d_done (by kernel_rfl) ?_
   refine go 1 ?_
   refine bring1 ?_
   refine sx_drop ?_
   refine bring1 ?_
   refine bring2 ?_
   refine bring2 ?_
   exact q_cutx2 (_) (_) (f29.append (.one rfl)) sb (by rw [List.length_append, Nat.zero_add]; rfl) rfl
 ·intro v17 xs hF
  refine go 5 ?_
  refine o_v rfl (v_slice_lo he rfl rfl (a % (l.length + 1)) (by omega) (by omega)) ?_
  refine go 1 ?_
  refine o_appendR ((hv0.dropM (a % (l.length + 1)) (by omega))) rfl he he rfl rfl rfl rfl (by simp only [List.length_append, List.length_take, List.length_drop, List.length_singleton]; omega) (by simp only [List.length_append, List.length_take, List.length_drop, List.length_singleton]; omega) rfl (fun v37 x37 f37 => ?_)
  refine sx_pubrow (l := (l.take (a % (l.length + 1)) ++ [x] ++ l.drop (a % (l.length + 1)))) rfl (by simp only [List.length_append]) ((hF.append f37)) (fun I37 j37 R37 => ?_)
  have hds := hds.le j37
  have hvc := hvc.le j37
  have hv0 := hv0.le j37
  refine go 5 ?_
  refine c_cut (I' := I37) (L' := [(0, vd), (2, .slice A l.length c0), (3, .string p), (4, .int .i64 (day)), (8, .pointer (some ⟨g8, 0, none⟩)), (15, .bool true), (17, v37), (71, .bool ((((!few26 ds c (l.take (a % (l.length + 1)) ++ [x] ++ l.drop (a % (l.length + 1))) p || decide (x.part = p)) || decide (x.into = p)) || !liveB c l p day) || !liveB c (l.take (a % (l.length + 1)) ++ [x] ++ l.drop (a % (l.length + 1))) p day))]) (H' := [.blk g8 25 [vc]]) ?_ ?_
  ·refine go 6 ?_
   refine o_callV (law26few _ vd ds hds vc c hvc _ (l.take (a % (l.length + 1)) ++ [x] ++ l.drop (a % (l.length + 1))) R37 p) rfl rfl ?_
   refine go 2 ?_
   refine sxb 44 rfl (fun h44 p44 => ?_) (fun h44 p44 => ?_)
   ·refine go 29 ?_
    refine bring1 ?_
    refine sx_drop ?_
    exact q_cut ⟨rfl, rfl, rfl, rfl, rfl, rfl, rfl, (congrArg (fun b => some (Value.bool b)) (by simp only [h44, bS])), trivial⟩ rfl rfl
   ·have hfw : few26 ds c (l.take (a % (l.length + 1)) ++ [x] ++ l.drop (a % (l.length + 1))) p = true := by simpa using h44
    simp only [few26, Bool.and_eq_true] at hfw
    have hdl0 := fewD_len hfw.1.1.1
    have hdl : ds.length ≤ 1000000 := by omega
    have hsc := fewC_sm hfw.1.1.2
    obtain ⟨hse, hel⟩ := fewE_sm hfw.1.2
    have hml : (l.take (a % (l.length + 1)) ++ [x] ++ l.drop (a % (l.length + 1))).length ≤ 1000000 := by omega
    have hll : l.length ≤ 1000000 := by rw [List.length_append, List.length_append, List.length_take, List.length_drop] at hml; omega
    have hse1 : ∀ e ∈ l, SmE e := fun e h => hse e (by rw [← List.take_append_drop (a % (l.length + 1)) l, List.mem_append] at h; rcases h with h | h <;> simp [h])
    refine go 6 ?_
    refine sxb 50 rfl (fun h50 p50 => ?_) (fun h50 p50 => ?_)
    ·refine go 23 ?_
     refine bring1 ?_
     refine sx_drop ?_
     exact q_cut ⟨rfl, rfl, rfl, rfl, rfl, rfl, rfl, (congrArg (fun b => some (Value.bool b)) (by simp only [h44, h50, bS])), trivial⟩ rfl rfl
    ·refine go 6 ?_
     refine sxb 56 rfl (fun h56 p56 => ?_) (fun h56 p56 => ?_)
     ·refine go 17 ?_
      refine bring1 ?_
      refine sx_drop ?_
      exact q_cut ⟨rfl, rfl, rfl, rfl, rfl, rfl, rfl, (congrArg (fun b => some (Value.bool b)) (by simp only [h44, h50, h56, bS])), trivial⟩ rfl rfl
     ·refine go 5 ?_
      refine o_yes rfl rfl h56 (o_callV (law26lives _ vc c hvc hsc _ l hv0 hll hse1 p day) rfl rfl ?_)
      refine go 3 ?_
      refine sxb 64 rfl (fun h64 p64 => ?_) (fun h64 p64 => ?_)
      ·refine go 9 ?_
       refine bring1 ?_
       refine sx_drop ?_
       exact q_cut ⟨rfl, rfl, rfl, rfl, rfl, rfl, rfl, (congrArg (fun b => some (Value.bool b)) (by simp only [h44, h50, h56, h64, bS])), trivial⟩ rfl rfl
      ·refine go 5 ?_
       refine o_yes rfl rfl h64 (o_callV (law26lives _ vc c hvc hsc _ (l.take (a % (l.length + 1)) ++ [x] ++ l.drop (a % (l.length + 1))) R37 hml hse p day) rfl rfl ?_)
       refine go 4 ?_
       refine bring1 ?_
       refine sx_drop ?_
       exact q_cut ⟨rfl, rfl, rfl, rfl, rfl, rfl, rfl, (congrArg (fun b => some (Value.bool b)) (by simp only [h44, h50, h56, h64, bS])), trivial⟩ rfl rfl
  ·refine cb rfl (fun h71 p71 => ?_) (fun h71 p71 => ?_)
   ·refine go 8 ?_
    refine fin1 rfl rfl ?_
    exact q_vI rfl
   ·simp only [Bool.or_eq_false_iff, Bool.not_eq_false', decide_eq_false_iff_not] at h71
    obtain ⟨⟨⟨⟨hfe, hxp⟩, hxi⟩, hl1⟩, hl2⟩ := h71
    have hfw : few26 ds c (l.take (a % (l.length + 1)) ++ [x] ++ l.drop (a % (l.length + 1))) p = true := by simpa using hfe
    simp only [few26, Bool.and_eq_true] at hfw
    have hdl0 := fewD_len hfw.1.1.1
    have hdl : ds.length ≤ 1000000 := by omega
    have hsc := fewC_sm hfw.1.1.2
    obtain ⟨hse, hel⟩ := fewE_sm hfw.1.2
    have hml : (l.take (a % (l.length + 1)) ++ [x] ++ l.drop (a % (l.length + 1))).length ≤ 1000000 := by omega
    have hll : l.length ≤ 1000000 := by rw [List.length_append, List.length_append, List.length_take, List.length_drop] at hml; omega
    have hse1 : ∀ e ∈ l, SmE e := fun e h => hse e (by rw [← List.take_append_drop (a % (l.length + 1)) l, List.mem_append] at h; rcases h with h | h <;> simp [h])
    have hpe := duty_others (ds := ds) (c := c) (l := l) (p := p) (day := day) (x := x) (i := (a % (l.length + 1))) hxp (by rw [liveB_is, if_pos hl1]; rfl) (by rw [liveB_is, if_pos hl2]; rfl)
    have hr1 : lateN ds c (l.take (a % (l.length + 1)) ++ [x] ++ l.drop (a % (l.length + 1))) p day = lateN ds c l p day := by unfold lateN; rw [hpe]
    have hr2 : openD ds c (l.take (a % (l.length + 1)) ++ [x] ++ l.drop (a % (l.length + 1))) p day = openD ds c l p day := by unfold openD; rw [hpe]
    refine go 3 ?_
    refine sx_knowI (fun hE7 hf7 => ?_)
    refine d_startH T.mixed ?_
    refine d_tv 0 rfl rfl (by kernel_rfl) rfl (.refl _) rfl (v_move rfl) ?_
    refine d_tv 1 rfl rfl (by kernel_rfl) rfl (.refl _) rfl (v_move rfl) ?_
    refine d_t 2 rfl rfl (by kernel_rfl) rfl (fun _ m => m.keeps (.refl _)) (y_yes rfl rfl rfl (v_move rfl)) ?_
    refine d_t 3 rfl rfl (by kernel_rfl) rfl (fun _ m => m.keeps (.refl _)) (y_yes rfl rfl rfl (v_ldw m0 he rfl rfl)) ?_
    refine d_t 4 rfl rfl (by kernel_rfl) rfl (fun _ m => m.keeps (.refl _)) (y_yes rfl rfl rfl (v_move rfl)) ?_
    refine d_t 5 rfl rfl (by kernel_rfl) rfl (fun _ m => m.keeps (.refl _)) (y_yes rfl rfl rfl (v_move rfl)) ?_
    refine d_t 6 rfl rfl (by kernel_rfl) rfl (fun _ m => m.keeps (.refl _)) (y_yes rfl rfl rfl (v_move rfl)) ?_
    refine d_t 8 rfl rfl (by kernel_rfl) rfl (fun _ m => m.keeps (.refl _)) (y_yes rfl rfl rfl (v_move rfl)) ?_
    refine d_t 9 rfl rfl (by kernel_rfl) rfl (fun _ m => m.keeps (.refl _)) (y_yes rfl rfl rfl (v_ldw m0 he rfl rfl)) ?_
    refine d_t 10 rfl rfl (by kernel_rfl) rfl (fun _ m => m.keeps (.refl _)) (y_yes rfl rfl rfl (v_move rfl)) ?_
    refine d_t 11 rfl rfl (by kernel_rfl) rfl (fun _ m => m.keeps (.refl _)) (y_yes rfl rfl rfl (v_move rfl)) ?_
    refine d_t 12 rfl rfl (by kernel_rfl) rfl (fun _ m => m.keeps (.refl _)) (y_yes rfl rfl rfl (v_move rfl)) ?_
    refine d_one 7 (by kernel_rfl) rfl ?_
    refine o_yes rfl rfl rfl (o_call (duOverdue _ vd ds hds hdl hod vc c hvc hsc _ l hv0 hll hse1 p day) rfl rfl (fun v80 I80 j80 q80 => ?_))
    try have hds := hds.le j80
    try have hvc := hvc.le j80
    try have hv0 := hv0.le j80
    try have R37 := R37.le j80
    try have q80 := q80.le j80
    try have q86 := q86.le j80
    try have q95 := q95.le j80
    try have q101 := q101.le j80
    refine d_on (fun _ m => m.keepsI (.refl _) (j80) hE7 hf7) ?_
    refine d_one 13 (by kernel_rfl) rfl ?_
    refine o_yes rfl rfl rfl (o_call (duOverdue _ vd ds hds hdl hod vc c hvc hsc _ (l.take (a % (l.length + 1)) ++ [x] ++ l.drop (a % (l.length + 1))) R37 hml hse p day) rfl rfl (fun v86 I86 j86 q86 => ?_))
    try have hds := hds.le j86
    try have hvc := hvc.le j86
    try have hv0 := hv0.le j86
    try have R37 := R37.le j86
    try have q80 := q80.le j86
    try have q86 := q86.le j86
    try have q95 := q95.le j86
    try have q101 := q101.le j86
    rw [hr1] at q86
    refine d_on (fun _ m => m.keepsI (.refl _) ((j80).trans j86) hE7 hf7) ?_
    refine d_one 14 (by kernel_rfl) rfl ?_
    refine o_yes rfl rfl rfl (o_callV (ref09Strings_t _ _ _ q80 _ _ q86 rfl) rfl rfl ?_)
    refine d_on (fun _ m => m.keepsI (.refl _) ((j80).trans j86) hE7 hf7) ?_
    refine d_t 15 rfl rfl (by kernel_rfl) rfl (fun _ m => m.keepsI (.refl _) ((j80).trans j86) hE7 hf7) (y_v rfl (v_and_t rfl rfl rfl)) ?_
    refine d_t 16 rfl rfl (by kernel_rfl) rfl (fun _ m => m.keepsI (.refl _) ((j80).trans j86) hE7 hf7) (y_v rfl (v_move rfl)) ?_
    refine d_t 17 rfl rfl (by kernel_rfl) rfl (fun _ m => m.keepsI (.refl _) ((j80).trans j86) hE7 hf7) (y_yes rfl rfl rfl (v_move rfl)) ?_
    refine d_t 18 rfl rfl (by kernel_rfl) rfl (fun _ m => m.keepsI (.refl _) ((j80).trans j86) hE7 hf7) (y_yes rfl rfl rfl (v_ldw m0 he rfl rfl)) ?_
    refine d_t 19 rfl rfl (by kernel_rfl) rfl (fun _ m => m.keepsI (.refl _) ((j80).trans j86) hE7 hf7) (y_yes rfl rfl rfl (v_move rfl)) ?_
    refine d_t 20 rfl rfl (by kernel_rfl) rfl (fun _ m => m.keepsI (.refl _) ((j80).trans j86) hE7 hf7) (y_yes rfl rfl rfl (v_move rfl)) ?_
    refine d_t 21 rfl rfl (by kernel_rfl) rfl (fun _ m => m.keepsI (.refl _) ((j80).trans j86) hE7 hf7) (y_yes rfl rfl rfl (v_move rfl)) ?_
    refine d_t 23 rfl rfl (by kernel_rfl) rfl (fun _ m => m.keepsI (.refl _) ((j80).trans j86) hE7 hf7) (y_yes rfl rfl rfl (v_move rfl)) ?_
    refine d_t 24 rfl rfl (by kernel_rfl) rfl (fun _ m => m.keepsI (.refl _) ((j80).trans j86) hE7 hf7) (y_yes rfl rfl rfl (v_ldw m0 he rfl rfl)) ?_
    refine d_t 25 rfl rfl (by kernel_rfl) rfl (fun _ m => m.keepsI (.refl _) ((j80).trans j86) hE7 hf7) (y_yes rfl rfl rfl (v_move rfl)) ?_
    refine d_t 26 rfl rfl (by kernel_rfl) rfl (fun _ m => m.keepsI (.refl _) ((j80).trans j86) hE7 hf7) (y_yes rfl rfl rfl (v_move rfl)) ?_
    refine d_t 27 rfl rfl (by kernel_rfl) rfl (fun _ m => m.keepsI (.refl _) ((j80).trans j86) hE7 hf7) (y_yes rfl rfl rfl (v_move rfl)) ?_
    refine d_one 22 (by kernel_rfl) rfl ?_
    refine o_yes rfl rfl rfl (o_call (duOpen _ vd ds hds hdl hod vc c hvc hsc _ l hv0 hll hse1 p day) rfl rfl (fun v95 I95 j95 q95 => ?_))
    try have hds := hds.le j95
    try have hvc := hvc.le j95
    try have hv0 := hv0.le j95
    try have R37 := R37.le j95
    try have q80 := q80.le j95
    try have q86 := q86.le j95
    try have q95 := q95.le j95
    try have q101 := q101.le j95
    refine d_on (fun _ m => m.keepsI (.refl _) (((j80).trans j86).trans j95) hE7 hf7) ?_
    refine d_one 28 (by kernel_rfl) rfl ?_
    refine o_yes rfl rfl rfl (o_call (duOpen _ vd ds hds hdl hod vc c hvc hsc _ (l.take (a % (l.length + 1)) ++ [x] ++ l.drop (a % (l.length + 1))) R37 hml hse p day) rfl rfl (fun v101 I101 j101 q101 => ?_))
    try have hds := hds.le j101
    try have hvc := hvc.le j101
    try have hv0 := hv0.le j101
    try have R37 := R37.le j101
    try have q80 := q80.le j101
    try have q86 := q86.le j101
    try have q95 := q95.le j101
    try have q101 := q101.le j101
    rw [hr2] at q101
    refine d_on (fun _ m => m.keepsI (.refl _) ((((j80).trans j86).trans j95).trans j101) hE7 hf7) ?_
    refine d_one 29 (by kernel_rfl) rfl ?_
    refine o_yes rfl rfl rfl (o_callV (r26Dues_t _ _ _ q95 _ _ q101 rfl) rfl rfl ?_)
    refine d_on (fun _ m => m.keepsI (.refl _) ((((j80).trans j86).trans j95).trans j101) hE7 hf7) ?_
    refine d_t 30 rfl rfl (by kernel_rfl) rfl (fun _ m => m.keepsI (.refl _) ((((j80).trans j86).trans j95).trans j101) hE7 hf7) (y_v rfl (v_and_t rfl rfl rfl)) ?_
    refine d_t 31 rfl rfl (by kernel_rfl) rfl (fun _ m => m.keepsI (.refl _) ((((j80).trans j86).trans j95).trans j101) hE7 hf7) (y_v rfl (v_assign rfl)) ?_
    refine d_done (by kernel_rfl) ?_
    refine go 2 ?_
    refine fin1 rfl rfl ?_
    exact q_vI rfl

end Go.Proofs.YtdkjmaoelojpeaaGreat

/- The law DutyOthers holds of the given program, for every input. No condition. -/
namespace Go.Proofs.YtdkjmaoelojpeaaGreat
open Go Go.Sx
set_option linter.all false
theorem T.byt_49 : Tryz.prog.bytesOf 49 = 160 := by kernel_rfl
theorem T.cel_25 : Tryz.prog.cellsOf 25 = 1 := by kernel_rfl
theorem T.cel_43 : Tryz.prog.cellsOf 43 = 5 := by kernel_rfl
theorem T.cel_45 : Tryz.prog.cellsOf 45 = 2 := by kernel_rfl
theorem T.cel_47 : Tryz.prog.cellsOf 47 = 6 := by kernel_rfl
theorem T.cel_49 : Tryz.prog.cellsOf 49 = 14 := by kernel_rfl
theorem T.cel_9 : Tryz.prog.cellsOf 9 = 1 := by kernel_rfl
theorem T.cel_95 : Tryz.prog.cellsOf 95 = 3 := by kernel_rfl
theorem T.cel_97 : Tryz.prog.cellsOf 97 = 3 := by kernel_rfl
instance T.fds_25 : Has (fieldsK Tryz.prog 25) [(23, 0, 1)] := ⟨by kernel_rfl⟩
instance T.fds_43 : Has (fieldsK Tryz.prog 43) [(9, 0, 1), (9, 1, 1), (9, 2, 1), (3, 3, 1), (3, 4, 1)] := ⟨by kernel_rfl⟩
instance T.fds_45 : Has (fieldsK Tryz.prog 45) [(3, 0, 1), (3, 1, 1)] := ⟨by kernel_rfl⟩
instance T.fds_47 : Has (fieldsK Tryz.prog 47) [(45, 0, 2), (45, 2, 2), (45, 4, 2)] := ⟨by kernel_rfl⟩
instance T.fds_49 : Has (fieldsK Tryz.prog 49) [(3, 0, 1), (3, 1, 1), (9, 2, 1), (9, 3, 1), (9, 4, 1), (9, 5, 1), (9, 6, 1), (9, 7, 1), (47, 8, 6)] := ⟨by kernel_rfl⟩
instance T.fds_95 : Has (fieldsK Tryz.prog 95) [(9, 0, 1), (4, 1, 1), (93, 2, 1)] := ⟨by kernel_rfl⟩
instance T.fds_97 : Has (fieldsK Tryz.prog 97) [(9, 0, 1), (30, 1, 1), (3, 2, 1)] := ⟨by kernel_rfl⟩
namespace lawDutyOthers
open Go.ChangeShapes Go.WideShapes Go.ChangeAt Go.RowKit Go.ChangeMaps Go.MapKept
theorem own : ownKnob Tryz.prog.godebug = none := by kernel_rfl
set_option maxRecDepth 100000 in
theorem lifted (os : Os) (started : os.Started) (H : Type) (enc : TypeId × Value → H) :
    ReturnsInHanded {} Tryz.checked os 8 .any (Rows.dutyOthersSpec.pre6 enc Tryz.prog Tryz.f8 Rows.dutyOthersRow.domain false) (Rows.dutyOthersSpec.post enc Tryz.prog Tryz.f8 false true false false) := by
  refine returnsInHanded_of_change_sized (C := Tryz.checked) own started (by kernel_rfl) Tryz.func8
    (ChangeSpec.witness6 (enc := enc) (C := Tryz.checked) false ⟨#[], #[.slice none 0 0, .agg #[.slice none 0 0], .slice none 0 0, .string ⟨#[]⟩, .int .i64 0, .agg #[.int .i64 0, .int .i64 0, .string ⟨#[]⟩, .string ⟨#[]⟩, .string ⟨#[]⟩, .string ⟨#[]⟩, .string ⟨#[]⟩, .string ⟨#[]⟩, .int .i64 0, .int .i64 0, .int .i64 0, .int .i64 0, .int .i64 0, .int .i64 0], .int .u8 0], []⟩ 8 (by kernel_rfl) (by kernel_rfl) (by kernel_rfl) (by kernel_rfl)) ?_
  intro W base args ds gs before hval0 hW hcnd hsz _
  have hval : ∀ (j : Nat) t v, Tryz.f8.params[j]? = some t → args[j]? = some v → Value.okWide Tryz.prog W .any base t v := hval0
  have hW' := hW
  obtain ⟨p, q, hA0, hV, rfl, hfz, hnd⟩ := hW
  have hA : DataW.TrodAll enc Tryz.prog W 0 (fun _ => true) true Tryz.f8.params.toList args.toList ds p := hA0
  rw [Tryz.params8] at hA hval
  obtain ⟨v0, vs0, d0, ds0, p0, q0, hargs, rfl, rfl, h0, r0⟩ := trodAll_cons hA
  obtain ⟨v1, vs1, d1, ds1, p1, q1, rfl, rfl, rfl, h1, r1⟩ := trodAll_cons r0
  obtain ⟨v2, vs2, d2, ds2, p2, q2, rfl, rfl, rfl, h2, r2⟩ := trodAll_cons r1
  obtain ⟨v3, vs3, d3, ds3, p3, q3, rfl, rfl, rfl, h3, r3⟩ := trodAll_cons r2
  obtain ⟨v4, vs4, d4, ds4, p4, q4, rfl, rfl, rfl, h4, r4⟩ := trodAll_cons r3
  obtain ⟨v5, vs5, d5, ds5, p5, q5, rfl, rfl, rfl, h5, r5⟩ := trodAll_cons r4
  obtain ⟨v6, vs6, d6, ds6, p6, q6, rfl, rfl, rfl, h6, r6⟩ := trodAll_cons r5
  obtain ⟨rfl, rfl, rfl⟩ := trodAll_nil r6
  obtain rfl : args = #[v0, v1, v2, v3, v4, v5, v6] := by cases args; simp_all
  obtain ⟨rfl, rfl⟩ := trodVars_none hV
  clear hA0 hval0
  obtain ⟨s0, n0, c0, rfl⟩ := okWide_slice T.und_22.eq (hval 0 22 v0 rfl rfl)
  obtain ⟨fu0, hf0⟩ := h0
  obtain ⟨l0, ⟨u0, e0, R0⟩, G0⟩ := (opens_slice T.und_22.eq T.cel_43 rfl (opens_dut T.fds_43.eq T.cel_43 (opens_string T.und_9.eq) (opens_int T.und_3.eq))) enc W 0 _ true fu0 _ _ hf0
  cases e0
  obtain ⟨cs1, rfl, hz1⟩ := okWide_agg T.fds_25.eq (hval 1 25 v1 rfl rfl)
  obtain ⟨fu1, hf1⟩ := h1
  obtain ⟨l1, ⟨u1, e1, R1⟩, G1⟩ := (opens_wrap T.fds_25.eq T.cel_25 (opens_slice T.und_23.eq T.cel_95 rfl (opens_kind T.fds_95.eq T.cel_95 (opens_string T.und_9.eq) (opens_bool T.und_4.eq) (opens_slice T.und_93.eq T.cel_97 rfl (opens_slot T.fds_97.eq T.cel_97 (opens_string T.und_9.eq) (opens_slice T.und_30.eq T.cel_9 rfl (opens_string T.und_9.eq)) (opens_int T.und_3.eq)))))) enc W 0 _ true fu1 _ _ hf1
  obtain rfl : cs1 = #[u1] := Array.toList_inj.1 e1
  obtain ⟨s2, n2, c2, rfl⟩ := okWide_slice T.und_26.eq (hval 2 26 v2 rfl rfl)
  obtain ⟨fu2, hf2⟩ := h2
  obtain ⟨l2, ⟨u2, e2, R2⟩, G2⟩ := (opens_slice T.und_26.eq T.cel_49 rfl (opens_evt T.fds_49.eq T.cel_49 (opens_int T.und_3.eq) (opens_string T.und_9.eq) (opens_use T.fds_47.eq T.cel_47 (opens_ivl T.fds_45.eq T.cel_45 (opens_int T.und_3.eq))))) enc W 0 _ true fu2 _ _ hf2
  cases e2
  have hb2 := sized_len (j := 2) hsz (by kernel_rfl) rfl T.und_26.eq hf2 T.byt_49
  rw [show n2 = l2.length by obtain ⟨_, _, e, _⟩ := R2; cases e; rfl] at hb2
  obtain ⟨a3, rfl, rfl, rfl, w3⟩ := open_string T.und_9.eq (hval 3 9 v3 rfl rfl) h3
  obtain ⟨a4, rfl, rfl, rfl, w4⟩ := open_int T.und_3.eq (hval 4 3 v4 rfl rfl) h4
  obtain ⟨cs5, rfl, hz5⟩ := okWide_agg T.fds_49.eq (hval 5 49 v5 rfl rfl)
  obtain ⟨fu5, hf5⟩ := h5
  obtain ⟨x5, e5, G5⟩ := (opens_evt T.fds_49.eq T.cel_49 (opens_int T.und_3.eq) (opens_string T.und_9.eq) (opens_use T.fds_47.eq T.cel_47 (opens_ivl T.fds_45.eq T.cel_45 (opens_int T.und_3.eq)))) enc W 0 _ true fu5 _ _ hf5
  obtain rfl : cs5 = x5.cells.toArray := Array.toList_inj.1 e5
  obtain ⟨a6, rfl, rfl, rfl, w6⟩ := open_int T.und_5.eq (hval 6 5 v6 rfl rfl) h6
  exact law_calls (s := Rows.dutyOthersSpec) Tryz.call8 (lawDOthers (Iw W) _ l0 R0 G0 _ l1 R1 G1 _ l2 R2 G2 hb2 a3 w3 a4 w4 x5 G5 a6 w6) hW' (by kernel_rfl) (by kernel_rfl) rfl T.und_4.eq rfl rfl
theorem over : Rows.dutyOthersRow.holds Tryz.pinned (OpenSpec.ofChange Rows.dutyOthersSpec) :=
  OpenClaim.holds_of_wide 8 Tryz.f8 rfl rfl rfl rfl rfl rfl rfl ⟨rfl, rfl, rfl, rfl, rfl⟩ rfl rfl rfl rfl rfl (by kernel_rfl) Tryz.func8 (by kernel_rfl)
    (of_decide_eq_true (by kernel_rfl)) (by unfold Func.isWrapper; first | (rw [if_pos (by decide +kernel)]; kernel_rfl) | (rw [if_neg (by decide +kernel)]; exact ⟨rfl, rfl⟩))
    (fun os started H enc _ => lifted os started H enc)
/-- the statement -/
theorem proved : Rows.DutyOthersSaid := over
end lawDutyOthers
end Go.Proofs.YtdkjmaoelojpeaaGreat

