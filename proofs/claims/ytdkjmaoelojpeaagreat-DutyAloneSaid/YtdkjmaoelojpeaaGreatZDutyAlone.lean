/- The law DutyAlone holds of the given program, for every input. No condition. -/
import Derived.Test.YtdkjmaoelojpeaaGreatZDue
import Derived.ChangeMaps5
import Derived.OpenShut
import Derived.ProofKit
import Derived.Test.YtdkjmaoelojpeaaGreatRows
/- Walks, printed by a program out of the code of the functions: each theorem is a contract of one function. -/
namespace Go.Proofs.YtdkjmaoelojpeaaGreat
open Go Go.Sx
set_option linter.all false
set_option maxRecDepth 20000
set_option maxHeartbeats 4000000
instance T.fld_37_0 : Has (fldK Tryz.prog 37 0) (0, false, 1) := ⟨by kernel_rfl⟩
instance T.und_53 : Has (Tryz.prog.underlying 53) (.int .u16) := ⟨by kernel_rfl⟩
theorem law26in_t (I : IMap) (v : Value) (l : List ByteArray) (hv : RdS I v l) (s : ByteArray) (h : s ∈ l) : FnV Tryz.prog 18 #[v, .string s] I (.bool true) := by
  have := law26in I v l hv s
  rwa [decide_eq_true h] at this
theorem law26has_t (I : IMap) (v : Value) (l : List Due) (hv : RdS I v l) (s : Due) (h : s ∈ l) : FnV Tryz.prog 19 #[v, .agg s.cells.toArray] I (.bool true) := by
  have := law26has I v l hv s
  rwa [decide_eq_true h] at this

theorem lawDAlone (I : IMap) (vd : Value) (ds : List Dut) (hds : RdS I vd ds) (hod : ∀ d ∈ ds, SmD d) (vc : Value) (c : List Kind) (hvc : RdS I vc c) (hoc : ∀ x ∈ c, OkKd x) (v : Value) (l : List Evt) (hv : RdS I v l) (hok : ∀ x ∈ l, OkE x) (p : ByteArray) (wp : p.size ≤ maxLen) (day : Int) (wday : (Lit.int .i64 day).wf = true)  :
    FnV Tryz.prog 4 #[vd, .agg #[vc], v, .string p, .int .i64 (day)] I (.bool true) := by
 have hds0 := hds
 obtain ⟨D, cd, rfl, hD, hcd, hmd⟩ := hds
 refine enter Tryz.func4 Tryz.call4 rfl Tryz.ntmps4 rfl (fun w0 => ?_)
 refine go 3 ?_
 refine o_box _ rfl rfl rfl (fun g6 => ?_)
 refine go 6 ?_
 refine o_callV (head26 _) rfl rfl ?_
 refine go 11 ?_
 refine o_callV (law26few _ _ ds hds0 vc c hvc v l hv p) rfl rfl ?_
 refine go 3 ?_
 refine cb rfl (fun h27 p27 => ?_) (fun h27 p27 => ?_)
 ·refine go 8 ?_
  refine fin1 rfl rfl ?_
  exact q_vI rfl
 ·have hfw : few26 ds c l p = true := by simpa using h27
  simp only [few26, Bool.and_eq_true] at hfw
  have hdl0 := fewD_len hfw.1.1.1
  have hdl : ds.length ≤ 1000000 := by omega
  have hsc := fewC_sm hfw.1.1.2
  obtain ⟨hse, hel⟩ := fewE_sm hfw.1.2
  have hl : l.length ≤ 1000000 := by omega
  refine go 3 ?_
  refine c_cutx3 (Ix := (fun J va vb => J)) (Lx := (fun J va vb => [(0, .slice D ds.length cd), (2, v), (3, .string p), (4, .int .i64 (day)), (6, .pointer (some ⟨g6, 0, none⟩)), (11, .bool true), (12, va), (13, vb)])) (Hx := (fun J va vb => [.blk g6 25 [vc]])) (p := (fun J va vb => ILe I J ∧ RdS J va (lateN ds c l p day) ∧ RdS J vb (openD ds c l p day))) ?_ ?_
  ·refine sx_knowI (fun hE4 hf4 => ?_)
   refine d_startH T.mixed ?_
   refine d_tv 0 rfl rfl (by kernel_rfl) rfl (.refl _) rfl (v_move rfl) ?_
   refine d_tv 1 rfl rfl (by kernel_rfl) rfl (.refl _) rfl (v_ldw m0 he rfl rfl) ?_
   refine d_tv 2 rfl rfl (by kernel_rfl) rfl (.refl _) rfl (v_move rfl) ?_
   refine d_tv 3 rfl rfl (by kernel_rfl) rfl (.refl _) rfl (v_move rfl) ?_
   refine d_tv 4 rfl rfl (by kernel_rfl) rfl (.refl _) rfl (v_move rfl) ?_
   refine d_tv 6 rfl rfl (by kernel_rfl) rfl (.refl _) rfl (v_move rfl) ?_
   refine d_tv 7 rfl rfl (by kernel_rfl) rfl (.refl _) rfl (v_ldw m0 he rfl rfl) ?_
   refine d_tv 8 rfl rfl (by kernel_rfl) rfl (.refl _) rfl (v_move rfl) ?_
   refine d_tv 9 rfl rfl (by kernel_rfl) rfl (.refl _) rfl (v_move rfl) ?_
   refine d_tv 10 rfl rfl (by kernel_rfl) rfl (.refl _) rfl (v_move rfl) ?_
   refine d_one 5 (by kernel_rfl) rfl ?_
   refine o_call (duOverdue _ _ ds hds0 hdl hod vc c hvc hsc v l hv hl hse p day) rfl rfl (fun v34 I34 j34 q34 => ?_)
   try have hds0 := hds0.le j34
   try have hvc := hvc.le j34
   try have hv := hv.le j34
   try have q34 := q34.le j34
   try have q40 := q40.le j34
   try have hAa := hAa.le j34
   try have hAb := hAb.le j34
   try have q120 := q120.le j34
   try have q130 := q130.le j34
   try have hmid := hmid.le j34
   refine d_on (fun _ m => m.keepsI (.refl _) (j34) hE4 hf4) ?_
   refine d_one 11 (by kernel_rfl) rfl ?_
   refine o_call (duOpen _ _ ds hds0 hdl hod vc c hvc hsc v l hv hl hse p day) rfl rfl (fun v40 I40 j40 q40 => ?_)
   try have hds0 := hds0.le j40
   try have hvc := hvc.le j40
   try have hv := hv.le j40
   try have q34 := q34.le j40
   try have q40 := q40.le j40
   try have hAa := hAa.le j40
   try have hAb := hAb.le j40
   try have q120 := q120.le j40
   try have q130 := q130.le j40
   try have hmid := hmid.le j40
   refine d_on (fun _ m => m.keepsI (.refl _) ((j34).trans j40) hE4 hf4) ?_
   refine d_t 12 rfl rfl (by kernel_rfl) rfl (fun _ m => m.keepsI (.refl _) ((j34).trans j40) hE4 hf4) (y_v rfl (v_assign rfl)) ?_
   refine d_t 13 rfl rfl (by kernel_rfl) rfl (fun _ m => m.keepsI (.refl _) ((j34).trans j40) hE4 hf4) (y_v rfl (v_assign rfl)) ?_
   refine d_done (by kernel_rfl) ?_
   refine go 1 ?_
   exact q_cutx3 (_) (_) (_) (by first | exact ⟨j34.trans j40, q34, q40⟩ | exact ⟨j40.trans j34, q34, q40⟩) sb rfl rfl
  ·intro J va vb ⟨hJ, Ra, Rb⟩
   have hds0 := hds0.le hJ
   have hvc := hvc.le hJ
   have hv := hv.le hJ
   obtain ⟨Aa, ca1, rfl, hAa, hca, hma⟩ := Ra
   obtain ⟨Ab, cb1, rfl, hAb, hcb, hmb⟩ := Rb
   refine go 7 ?_
   refine c_loop (α := Nat) 1 (fun i => J)
    (fun i => [(0, .slice D ds.length cd), (2, v), (3, .string p), (4, .int .i64 (day)), (6, .pointer (some ⟨g6, 0, none⟩)), (11, .bool true), (12, .slice Aa (lateN ds c l p day).length ca1), (13, .slice Ab (openD ds c l p day).length cb1), (14, .int .i64 ((i : Nat) : Int))])
    (fun i => [.blk g6 25 [vc]])
    (fun i => 1 ≤ i)
    (fun i => (lateN ds c l p day).length - i) (Nat.le_refl _) rfl sb rfl ?_
   intro i hi
   refine go 9 ?_
   refine cb rfl (fun h44 p44 => ?_) (fun h44 p44 => ?_)
   ·have hlt : i < (lateN ds c l p day).length := by omega
    obtain ⟨k, rfl⟩ : ∃ k, i = k + 1 := ⟨i - 1, by omega⟩
    have hlk : k < (lateN ds c l p day).length := by omega
    refine go 5 ?_
    refine d_startH T.mixed ?_
    refine d_tv 0 rfl rfl (by kernel_rfl) rfl (.refl _) rfl (v_move rfl) ?_
    refine d_tv 1 rfl rfl (by kernel_rfl) rfl (.refl _) rfl (v_move rfl) ?_
    refine d_tv 2 rfl rfl (by kernel_rfl) rfl (.refl _) rfl (v_sub rfl rfl ⟨by omega, by omega⟩) ?_
    obtain ⟨b50, o50, w50, e50, c50, r50⟩ := RdA.at_ hAa (i := k) hlk
    obtain rfl := r50
    refine d_tv 3 rfl rfl (by kernel_rfl) rfl (.refl _) rfl (v_idx he rfl rfl e50 (k) (by omega) hlk) ?_
    refine d_tv 4 rfl rfl (by kernel_rfl) rfl (.refl _) rfl (v_ldI he rfl (c50 0 _ rfl)) ?_
    refine d_tv 5 rfl rfl (by kernel_rfl) rfl (.refl _) rfl (v_move rfl) ?_
    refine d_tv 6 rfl rfl (by kernel_rfl) rfl (.refl _) rfl (v_move rfl) ?_
    obtain ⟨b54, o54, w54, e54, c54, r54⟩ := RdA.at_ hAa (i := (k + 1)) hlt
    obtain rfl := r54
    refine d_tv 7 rfl rfl (by kernel_rfl) rfl (.refl _) rfl (v_idx he rfl rfl e54 ((k + 1)) (by omega) hlt) ?_
    refine d_tv 8 rfl rfl (by kernel_rfl) rfl (.refl _) rfl (v_ldI he rfl (c54 0 _ rfl)) ?_
    refine d_tv 9 rfl rfl (by kernel_rfl) rfl (.refl _) rfl (OV.cast (u := .bool false) (v_sgeq rfl rfl) (congrArg Value.bool (by rw [late_sorted hlt]; rfl))) ?_
    refine d_done (by kernel_rfl) ?_
    refine go 1 ?_
    refine c_false rfl ?_
    refine go 9 ?_
    exact q_next (k + 1 + 1) (by omega) (by omega) rfl sb rfl
   ·refine go 12 ?_
    refine c_loop (α := Nat) 1 (fun i => J)
     (fun i => [(0, .slice D ds.length cd), (2, v), (3, .string p), (4, .int .i64 (day)), (6, .pointer (some ⟨g6, 0, none⟩)), (11, .bool true), (12, .slice Aa (lateN ds c l p day).length ca1), (13, .slice Ab (openD ds c l p day).length cb1), (15, .int .i64 ((i : Nat) : Int))])
     (fun i => [.blk g6 25 [vc]])
     (fun i => 1 ≤ i)
     (fun i => (openD ds c l p day).length - i) (Nat.le_refl _) rfl sb rfl ?_
    intro i hi
    refine go 9 ?_
    refine cb rfl (fun h60 p60 => ?_) (fun h60 p60 => ?_)
    ·have hlt : i < (openD ds c l p day).length := by omega
     obtain ⟨k, rfl⟩ : ∃ k, i = k + 1 := ⟨i - 1, by omega⟩
     have hlk : k < (openD ds c l p day).length := by omega
     refine go 5 ?_
     refine d_startH T.mixed ?_
     refine d_tv 0 rfl rfl (by kernel_rfl) rfl (.refl _) rfl (v_move rfl) ?_
     refine d_tv 1 rfl rfl (by kernel_rfl) rfl (.refl _) rfl (v_move rfl) ?_
     refine d_tv 2 rfl rfl (by kernel_rfl) rfl (.refl _) rfl (v_sub rfl rfl ⟨by omega, by omega⟩) ?_
     obtain ⟨b66, o66, w66, e66, c66, r66⟩ := RdA.at_ hAb (i := k) hlk
     obtain rfl := r66
     refine d_tv 3 rfl rfl (by kernel_rfl) rfl (.refl _) rfl (v_idx he rfl rfl e66 (k) (by omega) hlk) ?_
     refine d_tv 4 rfl rfl (by kernel_rfl) rfl (.refl _) rfl (v_fieldAddr he rfl) ?_
     refine d_tv 5 rfl rfl (by kernel_rfl) rfl (.refl _) rfl (v_ldI he rfl (c66 2 _ rfl)) ?_
     refine d_tv 6 rfl rfl (by kernel_rfl) rfl (.refl _) rfl (v_move rfl) ?_
     refine d_tv 7 rfl rfl (by kernel_rfl) rfl (.refl _) rfl (v_move rfl) ?_
     obtain ⟨b71, o71, w71, e71, c71, r71⟩ := RdA.at_ hAb (i := (k + 1)) hlt
     obtain rfl := r71
     refine d_tv 8 rfl rfl (by kernel_rfl) rfl (.refl _) rfl (v_idx he rfl rfl e71 ((k + 1)) (by omega) hlt) ?_
     refine d_tv 9 rfl rfl (by kernel_rfl) rfl (.refl _) rfl (v_fieldAddr he rfl) ?_
     refine d_tv 10 rfl rfl (by kernel_rfl) rfl (.refl _) rfl (v_ldI he rfl (c71 2 _ rfl)) ?_
     refine d_tv 11 rfl rfl (by kernel_rfl) rfl (.refl _) rfl (OV.cast (u := .bool false) (v_gtr rfl rfl) (congrArg Value.bool (decide_eq_false (by have := open_days hlt; omega)))) ?_
     refine d_tv 12 rfl rfl (by kernel_rfl) rfl (.refl _) rfl (v_move rfl) ?_
     refine d_t 13 rfl rfl (by kernel_rfl) rfl (fun _ m => m.keeps (.refl _)) (y_yes rfl rfl rfl (v_move rfl)) ?_
     refine d_t 14 rfl rfl (by kernel_rfl) rfl (fun _ m => m.keeps (.refl _)) (y_yes rfl rfl rfl (v_move rfl)) ?_
     refine d_t 15 rfl rfl (by kernel_rfl) rfl (fun _ m => m.keeps (.refl _)) (y_yes rfl rfl rfl (v_sub rfl rfl ⟨by omega, by omega⟩)) ?_
     obtain ⟨b79, o79, w79, e79, c79, r79⟩ := RdA.at_ hAb (i := k) hlk
     obtain rfl := r79
     refine d_t 16 rfl rfl (by kernel_rfl) rfl (fun _ m => m.keeps (.refl _)) (y_yes rfl rfl rfl (v_idx he rfl rfl e79 (k) (by omega) hlk)) ?_
     refine d_t 17 rfl rfl (by kernel_rfl) rfl (fun _ m => m.keeps (.refl _)) (y_yes rfl rfl rfl (v_fieldAddr he rfl)) ?_
     refine d_t 18 rfl rfl (by kernel_rfl) rfl (fun _ m => m.keeps (.refl _)) (y_yes rfl rfl rfl (v_ldI he rfl (c79 2 _ rfl))) ?_
     refine d_t 19 rfl rfl (by kernel_rfl) rfl (fun _ m => m.keeps (.refl _)) (y_yes rfl rfl rfl (v_move rfl)) ?_
     refine d_t 20 rfl rfl (by kernel_rfl) rfl (fun _ m => m.keeps (.refl _)) (y_yes rfl rfl rfl (v_move rfl)) ?_
     obtain ⟨b84, o84, w84, e84, c84, r84⟩ := RdA.at_ hAb (i := (k + 1)) hlt
     obtain rfl := r84
     refine d_t 21 rfl rfl (by kernel_rfl) rfl (fun _ m => m.keeps (.refl _)) (y_yes rfl rfl rfl (v_idx he rfl rfl e84 ((k + 1)) (by omega) hlt)) ?_
     refine d_t 22 rfl rfl (by kernel_rfl) rfl (fun _ m => m.keeps (.refl _)) (y_yes rfl rfl rfl (v_fieldAddr he rfl)) ?_
     refine d_t 23 rfl rfl (by kernel_rfl) rfl (fun _ m => m.keeps (.refl _)) (y_yes rfl rfl rfl (v_ldI he rfl (c84 2 _ rfl))) ?_
     refine d_t 24 rfl rfl (by kernel_rfl) rfl (fun _ m => m.keeps (.refl _)) (y_yes rfl rfl rfl (v_eql rfl rfl)) ?_
     refine d_t 25 rfl rfl (by kernel_rfl) rfl (fun _ m => m.keeps (.refl _)) (y_yes rfl rfl rfl (v_move rfl)) ?_
     refine sxb 88 rfl (fun h88 p88 => ?_) (fun h88 p88 => ?_)
     ·refine d_t 26 rfl rfl (by kernel_rfl) rfl (fun _ m => m.keeps (.refl _)) (y_yes rfl rfl h88 (v_move rfl)) ?_
      refine d_t 27 rfl rfl (by kernel_rfl) rfl (fun _ m => m.keeps (.refl _)) (y_yes rfl rfl h88 (v_move rfl)) ?_
      refine d_t 28 rfl rfl (by kernel_rfl) rfl (fun _ m => m.keeps (.refl _)) (y_yes rfl rfl h88 (v_sub rfl rfl ⟨by omega, by omega⟩)) ?_
      obtain ⟨b92, o92, w92, e92, c92, r92⟩ := RdA.at_ hAb (i := k) hlk
      obtain rfl := r92
      refine d_t 29 rfl rfl (by kernel_rfl) rfl (fun _ m => m.keeps (.refl _)) (y_yes rfl rfl h88 (v_idx he rfl rfl e92 (k) (by omega) hlk)) ?_
      refine d_t 30 rfl rfl (by kernel_rfl) rfl (fun _ m => m.keeps (.refl _)) (y_yes rfl rfl h88 (v_fieldAddr he rfl)) ?_
      refine d_t 31 rfl rfl (by kernel_rfl) rfl (fun _ m => m.keeps (.refl _)) (y_yes rfl rfl h88 (v_ldI he rfl (c92 1 _ rfl))) ?_
      refine d_t 32 rfl rfl (by kernel_rfl) rfl (fun _ m => m.keeps (.refl _)) (y_yes rfl rfl h88 (v_move rfl)) ?_
      refine d_t 33 rfl rfl (by kernel_rfl) rfl (fun _ m => m.keeps (.refl _)) (y_yes rfl rfl h88 (v_move rfl)) ?_
      obtain ⟨b97, o97, w97, e97, c97, r97⟩ := RdA.at_ hAb (i := (k + 1)) hlt
      obtain rfl := r97
      refine d_t 34 rfl rfl (by kernel_rfl) rfl (fun _ m => m.keeps (.refl _)) (y_yes rfl rfl h88 (v_idx he rfl rfl e97 ((k + 1)) (by omega) hlt)) ?_
      refine d_t 35 rfl rfl (by kernel_rfl) rfl (fun _ m => m.keeps (.refl _)) (y_yes rfl rfl h88 (v_fieldAddr he rfl)) ?_
      refine d_t 36 rfl rfl (by kernel_rfl) rfl (fun _ m => m.keeps (.refl _)) (y_yes rfl rfl h88 (v_ldI he rfl (c97 1 _ rfl))) ?_
      refine d_t 37 rfl rfl (by kernel_rfl) rfl (fun _ m => m.keeps (.refl _)) (y_yes rfl rfl h88 (OV.cast (u := .bool false) (v_sgeq rfl rfl) (congrArg Value.bool (by rw [open_rules hlt p88]; rfl)))) ?_
      refine d_t 38 rfl rfl (by kernel_rfl) rfl (fun _ m => m.keeps (.refl _)) (y_yes rfl rfl rfl (v_and_t h88 rfl rfl)) ?_
      refine d_tv 39 rfl rfl (by kernel_rfl) rfl (.refl _) rfl (v_or_f rfl rfl rfl) ?_
      refine d_done (by kernel_rfl) ?_
      refine go 1 ?_
      refine c_false rfl ?_
      refine go 9 ?_
      exact q_next (k + 1 + 1) (by omega) (by omega) rfl sb rfl
     ·refine d_t 26 rfl rfl (by kernel_rfl) rfl (fun _ m => m.keeps (.refl _)) (y_no rfl rfl h88) ?_
      refine d_t 27 rfl rfl (by kernel_rfl) rfl (fun _ m => m.keeps (.refl _)) (y_no rfl rfl h88) ?_
      refine d_t 28 rfl rfl (by kernel_rfl) rfl (fun _ m => m.keeps (.refl _)) (y_no rfl rfl h88) ?_
      refine d_t 29 rfl rfl (by kernel_rfl) rfl (fun _ m => m.keeps (.refl _)) (y_no rfl rfl h88) ?_
      refine d_t 30 rfl rfl (by kernel_rfl) rfl (fun _ m => m.keeps (.refl _)) (y_no rfl rfl h88) ?_
      refine d_t 31 rfl rfl (by kernel_rfl) rfl (fun _ m => m.keeps (.refl _)) (y_no rfl rfl h88) ?_
      refine d_t 32 rfl rfl (by kernel_rfl) rfl (fun _ m => m.keeps (.refl _)) (y_no rfl rfl h88) ?_
      refine d_t 33 rfl rfl (by kernel_rfl) rfl (fun _ m => m.keeps (.refl _)) (y_no rfl rfl h88) ?_
      refine d_t 34 rfl rfl (by kernel_rfl) rfl (fun _ m => m.keeps (.refl _)) (y_no rfl rfl h88) ?_
      refine d_t 35 rfl rfl (by kernel_rfl) rfl (fun _ m => m.keeps (.refl _)) (y_no rfl rfl h88) ?_
      refine d_t 36 rfl rfl (by kernel_rfl) rfl (fun _ m => m.keeps (.refl _)) (y_no rfl rfl h88) ?_
      refine d_t 37 rfl rfl (by kernel_rfl) rfl (fun _ m => m.keeps (.refl _)) (y_no rfl rfl h88) ?_
      refine d_t 38 rfl rfl (by kernel_rfl) rfl (fun _ m => m.keeps (.refl _)) (y_yes rfl rfl rfl (v_and_f h88 rfl)) ?_
      refine d_tv 39 rfl rfl (by kernel_rfl) rfl (.refl _) rfl (v_or_f rfl rfl rfl) ?_
      refine d_done (by kernel_rfl) ?_
      refine go 1 ?_
      refine c_false rfl ?_
      refine go 9 ?_
      exact q_next (k + 1 + 1) (by omega) (by omega) rfl sb rfl
    ·refine go 8 ?_
     refine o_map0 (Value.string) he rfl (fun r103 => ?_)
     refine go 6 ?_
     refine o_map0 (encDue) he rfl (fun r104 => ?_)
     refine go 10 ?_
     refine bring2 ?_
     refine bring1 ?_
     refine bring2 ?_
     refine c_loop4 ((0 : Nat)) (J) ([]) ([]) (fun i M ns ks => M)
      (fun i M ns ks => [(0, .slice D ds.length cd), (2, v), (3, .string p), (4, .int .i64 (day)), (6, .pointer (some ⟨g6, 0, none⟩)), (11, .bool true), (12, .slice Aa (lateN ds c l p day).length ca1), (13, .slice Ab (openD ds c l p day).length cb1), (16, .map (some r103)), (17, .map (some r104)), (18, .int .i64 ((i : Nat) : Int))])
      (fun i M ns ks => [.mp r103 (emap Value.string ns), .mp r104 (emap encDue ks), .blk g6 25 [vc]])
      (fun i M ns ks => i ≤ ds.length ∧ ILe J M ∧ KeysG ns (aloneL ds c l p day i) ∧ KeysG ks (aloneO ds c l p day i))
      (fun i M ns ks => ds.length - i) ⟨Nat.zero_le _, ILe.refl _, KeysG.nil, KeysG.nil⟩ rfl sb rfl ?_
     intro i M ns ks ⟨hi, hM, hN, hK⟩
     have hds0 := hds0.le hM
     have hvc := hvc.le hM
     have hv := hv.le hM
     have hAa := hAa.le hM
     have hAb := hAb.le hM
     refine go 9 ?_
     refine cb rfl (fun h108 p108 => ?_) (fun h108 p108 => ?_)
     ·have hlt : i < ds.length := by omega
      have hd1 : ∀ x ∈ [ds[i]], SmD x := fun x hx => by rw [List.mem_singleton.1 hx]; exact hod _ (List.getElem_mem hlt)
      have hmid := hds0.midM i (i + 1) (by omega) hlt
      rw [mid_one hlt] at hmid
      refine go 5 ?_
      refine c_cutx3 (Ix := (fun M2 ua ub => M2)) (Lx := (fun M2 ua ub => [(0, .slice D ds.length cd), (2, v), (3, .string p), (4, .int .i64 (day)), (6, .pointer (some ⟨g6, 0, none⟩)), (11, .bool true), (12, .slice Aa (lateN ds c l p day).length ca1), (13, .slice Ab (openD ds c l p day).length cb1), (16, .map (some r103)), (17, .map (some r104)), (18, .int .i64 ((i : Nat) : Int)), (19, ua), (20, ub)])) (Hx := (fun M2 ua ub => [.mp r103 (emap Value.string ns), .mp r104 (emap encDue ks), .blk g6 25 [vc]])) (p := (fun M2 ua ub => ILe M M2 ∧ RdS M2 ua (lateN [ds[i]] c l p day) ∧ RdS M2 ub (openD [ds[i]] c l p day))) ?_ ?_
      ·refine sx_knowI (fun hE20 hf20 => ?_)
       refine d_startH T.mixed ?_
       refine d_tv 0 rfl rfl (by kernel_rfl) rfl (.refl _) rfl (v_move rfl) ?_
       refine d_tv 1 rfl rfl (by kernel_rfl) rfl (.refl _) rfl (v_move rfl) ?_
       refine d_tv 2 rfl rfl (by kernel_rfl) rfl (.refl _) rfl (v_move rfl) ?_
       refine d_tv 3 rfl rfl (by kernel_rfl) rfl (.refl _) rfl (v_add rfl rfl ⟨by omega, by omega⟩) ?_
       refine d_tv 4 rfl rfl (by kernel_rfl) rfl (.refl _) rfl (v_slice_lohi he rfl rfl rfl i (i + 1) (by omega) (by omega) (by omega) (by omega)) ?_
       refine d_tv 5 rfl rfl (by kernel_rfl) rfl (.refl _) rfl (v_ldw m2 he rfl rfl) ?_
       refine d_tv 6 rfl rfl (by kernel_rfl) rfl (.refl _) rfl (v_move rfl) ?_
       refine d_tv 7 rfl rfl (by kernel_rfl) rfl (.refl _) rfl (v_move rfl) ?_
       refine d_tv 8 rfl rfl (by kernel_rfl) rfl (.refl _) rfl (v_move rfl) ?_
       refine d_tv 10 rfl rfl (by kernel_rfl) rfl (.refl _) rfl (v_move rfl) ?_
       refine d_tv 11 rfl rfl (by kernel_rfl) rfl (.refl _) rfl (v_move rfl) ?_
       refine d_tv 12 rfl rfl (by kernel_rfl) rfl (.refl _) rfl (v_move rfl) ?_
       refine d_tv 13 rfl rfl (by kernel_rfl) rfl (.refl _) rfl (v_add rfl rfl ⟨by omega, by omega⟩) ?_
       refine d_tv 14 rfl rfl (by kernel_rfl) rfl (.refl _) rfl (v_slice_lohi he rfl rfl rfl i (i + 1) (by omega) (by omega) (by omega) (by omega)) ?_
       refine d_tv 15 rfl rfl (by kernel_rfl) rfl (.refl _) rfl (v_ldw m2 he rfl rfl) ?_
       refine d_tv 16 rfl rfl (by kernel_rfl) rfl (.refl _) rfl (v_move rfl) ?_
       refine d_tv 17 rfl rfl (by kernel_rfl) rfl (.refl _) rfl (v_move rfl) ?_
       refine d_tv 18 rfl rfl (by kernel_rfl) rfl (.refl _) rfl (v_move rfl) ?_
       refine d_one 9 (by kernel_rfl) rfl ?_
       refine o_call (duOverdue _ _ [ds[i]] hmid (by simp) hd1 vc c hvc hsc v l hv hl hse p day) rfl rfl (fun v120 I120 j120 q120 => ?_)
       try have hds0 := hds0.le j120
       try have hvc := hvc.le j120
       try have hv := hv.le j120
       try have q34 := q34.le j120
       try have q40 := q40.le j120
       try have hAa := hAa.le j120
       try have hAb := hAb.le j120
       try have q120 := q120.le j120
       try have q130 := q130.le j120
       try have hmid := hmid.le j120
       refine d_on (fun _ m => m.keepsI (.refl _) (j120) hE20 hf20) ?_
       refine d_one 19 (by kernel_rfl) rfl ?_
       refine o_call (duOpen _ _ [ds[i]] hmid (by simp) hd1 vc c hvc hsc v l hv hl hse p day) rfl rfl (fun v130 I130 j130 q130 => ?_)
       try have hds0 := hds0.le j130
       try have hvc := hvc.le j130
       try have hv := hv.le j130
       try have q34 := q34.le j130
       try have q40 := q40.le j130
       try have hAa := hAa.le j130
       try have hAb := hAb.le j130
       try have q120 := q120.le j130
       try have q130 := q130.le j130
       try have hmid := hmid.le j130
       refine d_on (fun _ m => m.keepsI (.refl _) ((j120).trans j130) hE20 hf20) ?_
       refine d_t 20 rfl rfl (by kernel_rfl) rfl (fun _ m => m.keepsI (.refl _) ((j120).trans j130) hE20 hf20) (y_v rfl (v_assign rfl)) ?_
       refine d_t 21 rfl rfl (by kernel_rfl) rfl (fun _ m => m.keepsI (.refl _) ((j120).trans j130) hE20 hf20) (y_v rfl (v_assign rfl)) ?_
       refine d_done (by kernel_rfl) ?_
       refine go 1 ?_
       exact q_cutx3 (_) (_) (_) (by first | exact ⟨j120.trans j130, q120, q130⟩ | exact ⟨j130.trans j120, q120, q130⟩) sb rfl rfl
      ·intro M2 ua ub ⟨hM2, Ra, Rb⟩
       have hAa := hAa.le hM2
       have hAb := hAb.le hM2
       have hal := alone_len (d := ds[i]) (c := c) (l := l) (p := p) (day := day)
       obtain ⟨Ea, ea1, rfl, hEa, _, _⟩ := Ra
       obtain ⟨Eb, eb1, rfl, hEb, _, _⟩ := Rb
       refine go 1 ?_
       refine c_cut (I' := M2) (L' := [(0, .slice D ds.length cd), (2, v), (3, .string p), (4, .int .i64 (day)), (6, .pointer (some ⟨g6, 0, none⟩)), (11, .bool true), (12, .slice Aa (lateN ds c l p day).length ca1), (13, .slice Ab (openD ds c l p day).length cb1), (16, .map (some r103)), (17, .map (some r104)), (18, .int .i64 ((i : Nat) : Int)), (19, .slice Ea (lateN [ds[i]] c l p day).length ea1), (20, .slice Eb (openD [ds[i]] c l p day).length eb1)]) (H' := [.mp r103 (emap Value.string ns), .mp r104 (emap encDue ks), .blk g6 25 [vc]]) ?_ ?_
       ·refine go 7 ?_
        refine o_v rfl (OV.cast (u := .bool false) (v_gtr rfl rfl) (congrArg Value.bool (decide_eq_false (by omega)))) ?_
        refine go 5 ?_
        refine sxb 141 rfl (fun h141 p141 => ?_) (fun h141 p141 => ?_)
        ·refine go 2 ?_
         obtain ⟨b144, o144, w144, e144, c144, r144⟩ := RdA.at_ hEa (i := 0) (by omega)
         obtain rfl := r144
         refine o_cons (o_yes rfl rfl h141 (o_val rfl (v_idx he rfl rfl e144 (0) (by omega) (by omega)) ?_))
         refine o_cons (o_yes rfl rfl h141 (o_val rfl (v_ldI he rfl (c144 0 _ rfl)) ?_))
         refine go 1 ?_
         refine o_yes rfl rfl h141 (o_callV (law26in_t _ _ (lateN ds c l p day) ⟨Aa, ca1, rfl, hAa, hca, hma⟩ _ (late_in (List.getElem_mem hlt) (List.getElem_mem _))) rfl rfl ?_)
         refine go 8 ?_
         refine sxb 154 rfl (fun h154 p154 => ?_) (fun h154 p154 => ?_)
         ·refine go 2 ?_
          obtain ⟨b157, o157, w157, e157, c157, r157⟩ := RdA.at_ hEb (i := 0) (by omega)
          obtain rfl := r157
          refine o_cons (o_yes rfl rfl h154 (o_val rfl (v_idx he rfl rfl e157 (0) (by omega) (by omega)) ?_))
          refine o_cons (o_yes rfl rfl h154 (o_val rfl (v_ldIa he rfl c157 rfl) ?_))
          refine go 1 ?_
          refine o_yes rfl rfl h154 (o_callV (law26has_t _ _ (openD ds c l p day) ⟨Ab, cb1, rfl, hAb, hcb, hmb⟩ _ (open_in (List.getElem_mem hlt) (List.getElem_mem _))) rfl rfl ?_)
          refine go 5 ?_
          refine c_false rfl ?_
          refine go 2 ?_
          exact q_cut sb rfl rfl
         ·refine go 10 ?_
          refine c_false rfl ?_
          refine go 2 ?_
          exact q_cut sb rfl rfl
        ·refine go 13 ?_
         refine sxb 154 rfl (fun h154 p154 => ?_) (fun h154 p154 => ?_)
         ·refine go 2 ?_
          obtain ⟨b157, o157, w157, e157, c157, r157⟩ := RdA.at_ hEb (i := 0) (by omega)
          obtain rfl := r157
          refine o_cons (o_yes rfl rfl h154 (o_val rfl (v_idx he rfl rfl e157 (0) (by omega) (by omega)) ?_))
          refine o_cons (o_yes rfl rfl h154 (o_val rfl (v_ldIa he rfl c157 rfl) ?_))
          refine go 1 ?_
          refine o_yes rfl rfl h154 (o_callV (law26has_t _ _ (openD ds c l p day) ⟨Ab, cb1, rfl, hAb, hcb, hmb⟩ _ (open_in (List.getElem_mem hlt) (List.getElem_mem _))) rfl rfl ?_)
          refine go 5 ?_
          refine c_false rfl ?_
          refine go 2 ?_
          exact q_cut sb rfl rfl
         ·refine go 10 ?_
          refine c_false rfl ?_
          refine go 2 ?_
          exact q_cut sb rfl rfl
       ·refine go 1 ?_
        refine c_cutx (α := List (ByteArray × Value)) (Ix := (fun ns2 => M2)) (Lx := (fun ns2 => [(0, .slice D ds.length cd), (2, v), (3, .string p), (4, .int .i64 (day)), (6, .pointer (some ⟨g6, 0, none⟩)), (11, .bool true), (12, .slice Aa (lateN ds c l p day).length ca1), (13, .slice Ab (openD ds c l p day).length cb1), (16, .map (some r103)), (17, .map (some r104)), (18, .int .i64 ((i : Nat) : Int)), (19, .slice Ea (lateN [ds[i]] c l p day).length ea1), (20, .slice Eb (openD [ds[i]] c l p day).length eb1)])) (Hx := (fun ns2 => [.mp r103 (emap Value.string ns2), .mp r104 (emap encDue ks), .blk g6 25 [vc]])) (p := (fun ns2 => KeysG ns2 (aloneL ds c l p day (i + 1)))) ?_ ?_
        ·refine go 7 ?_
         refine cb rfl (fun h165 p165 => ?_) (fun h165 p165 => ?_)
         ·refine go 3 ?_
          obtain ⟨b168, o168, w168, e168, c168, r168⟩ := RdA.at_ hEa (i := 0) (by omega)
          obtain rfl := r168
          refine o_v rfl (v_idx he rfl rfl e168 (0) (by omega) (by omega)) ?_
          refine o_v rfl (v_ldI he rfl (c168 0 _ rfl)) ?_
          refine go 1 ?_
          refine o_mapPut (mput ns (lateN [ds[i]] c l p day)[0] (.bool true)) (key_string he) he ((lateN [ds[i]] c l p day)[0]) rfl rfl rfl (rfl) ?_
          refine go 2 ?_
          exact q_cutx (mput ns (lateN [ds[i]] c l p day)[0] (.bool true)) (by rw [aloneL_succ hlt]; exact hN.one (by omega)) sb rfl rfl
         ·refine go 2 ?_
          exact q_cutx ns (by rw [aloneL_succ hlt]; exact hN.zero p165 (by omega)) sb rfl rfl
        ·intro ns2 hN2
         refine go 7 ?_
         refine cb rfl (fun h172 p172 => ?_) (fun h172 p172 => ?_)
         ·refine go 3 ?_
          obtain ⟨b175, o175, w175, e175, c175, r175⟩ := RdA.at_ hEb (i := 0) (by omega)
          obtain rfl := r175
          refine o_v rfl (v_idx he rfl rfl e175 (0) (by omega) (by omega)) ?_
          refine o_v rfl (v_ldIa he rfl c175 rfl) ?_
          refine go 1 ?_
          refine bring1 ?_
          refine o_mapPut (mput ks (openD [ds[i]] c l p day)[0] (.bool true)) (keyDue) he ((openD [ds[i]] c l p day)[0]) rfl rfl rfl (rfl) ?_
          refine go 9 ?_
          refine bring2 ?_
          refine bring1 ?_
          refine bring2 ?_
          exact q_next4 (i + 1) (M2) (ns2) (mput ks (openD [ds[i]] c l p day)[0] (.bool true)) ⟨by omega, hM.trans hM2, hN2, by rw [aloneO_succ hlt]; exact hK.one (by omega)⟩ (by omega) rfl sb rfl
         ·refine go 9 ?_
          exact q_next4 (i + 1) (M2) (ns2) (ks) ⟨by omega, hM.trans hM2, hN2, by rw [aloneO_succ hlt]; exact hK.zero p172 (by omega)⟩ (by omega) rfl sb rfl
     ·have e : i = ds.length := by omega
      subst e
      have hn1 := hN.count late_nd (fun x => aloneL_all)
      have hn2 := hK.count open_nd (fun x => aloneO_all)
      refine go 10 ?_
      refine o_cons (o_yes rfl rfl rfl (o_val rfl (v_len_map m0 he rfl) ?_))
      refine go 2 ?_
      refine o_cons (o_yes rfl rfl rfl (o_val rfl (OV.cast (u := .bool true) (v_eql rfl rfl) (congrArg Value.bool (decide_eq_true (by simp [emap, hn1])))) ?_))
      refine go 3 ?_
      refine o_cons (o_yes rfl rfl rfl (o_val rfl (v_len_map m1 he rfl) ?_))
      refine go 2 ?_
      refine o_cons (o_yes rfl rfl rfl (o_val rfl (OV.cast (u := .bool true) (v_eql rfl rfl) (congrArg Value.bool (decide_eq_true (by simp [emap, hn2])))) ?_))
      refine go 5 ?_
      refine fin1 rfl rfl ?_
      exact q_vI rfl

end Go.Proofs.YtdkjmaoelojpeaaGreat

/- The law DutyAlone holds of the given program, for every input. No condition. -/
namespace Go.Proofs.YtdkjmaoelojpeaaGreat
open Go Go.Sx
set_option linter.all false
theorem T.cel_25 : Tryz.prog.cellsOf 25 = 1 := by kernel_rfl
theorem T.cel_43 : Tryz.prog.cellsOf 43 = 5 := by kernel_rfl
theorem T.cel_45 : Tryz.prog.cellsOf 45 = 2 := by kernel_rfl
theorem T.cel_47 : Tryz.prog.cellsOf 47 = 6 := by kernel_rfl
theorem T.cel_49 : Tryz.prog.cellsOf 49 = 14 := by kernel_rfl
theorem T.cel_9 : Tryz.prog.cellsOf 9 = 1 := by kernel_rfl
theorem T.cel_95 : Tryz.prog.cellsOf 95 = 3 := by kernel_rfl
theorem T.cel_97 : Tryz.prog.cellsOf 97 = 3 := by kernel_rfl
instance T.fds_25 : Has (fieldsK Tryz.prog 25) [(23, 0, 1)] := ⟨by kernel_rfl⟩
instance T.fds_43 : Has (fieldsK Tryz.prog 43) [(9, 0, 1), (9, 1, 1), (9, 2, 1), (3, 3, 1), (3, 4, 1)] := ⟨by kernel_rfl⟩
instance T.fds_45 : Has (fieldsK Tryz.prog 45) [(3, 0, 1), (3, 1, 1)] := ⟨by kernel_rfl⟩
instance T.fds_47 : Has (fieldsK Tryz.prog 47) [(45, 0, 2), (45, 2, 2), (45, 4, 2)] := ⟨by kernel_rfl⟩
instance T.fds_49 : Has (fieldsK Tryz.prog 49) [(3, 0, 1), (3, 1, 1), (9, 2, 1), (9, 3, 1), (9, 4, 1), (9, 5, 1), (9, 6, 1), (9, 7, 1), (47, 8, 6)] := ⟨by kernel_rfl⟩
instance T.fds_95 : Has (fieldsK Tryz.prog 95) [(9, 0, 1), (4, 1, 1), (93, 2, 1)] := ⟨by kernel_rfl⟩
instance T.fds_97 : Has (fieldsK Tryz.prog 97) [(9, 0, 1), (30, 1, 1), (3, 2, 1)] := ⟨by kernel_rfl⟩
namespace lawDutyAlone
open Go.ChangeShapes Go.WideShapes Go.ChangeAt Go.RowKit Go.ChangeMaps Go.MapKept
theorem own : ownKnob Tryz.prog.godebug = none := by kernel_rfl
set_option maxRecDepth 100000 in
theorem lifted (os : Os) (started : os.Started) (H : Type) (enc : TypeId × Value → H) :
    ReturnsInHanded {} Tryz.checked os 4 .any (Rows.dutyAloneSpec.pre6 enc Tryz.prog Tryz.f4 Rows.dutyAloneRow.domain false) (Rows.dutyAloneSpec.post enc Tryz.prog Tryz.f4 false true false false) := by
  refine returnsInHanded_of_change (C := Tryz.checked) own started (by kernel_rfl) Tryz.func4
    (ChangeSpec.witness6 (enc := enc) (C := Tryz.checked) false ⟨#[], #[.slice none 0 0, .agg #[.slice none 0 0], .slice none 0 0, .string ⟨#[]⟩, .int .i64 0], []⟩ 8 (by kernel_rfl) (by kernel_rfl) (by kernel_rfl) (by kernel_rfl)) ?_
  intro W base args ds gs before hval0 hW hcnd _
  have hval : ∀ (j : Nat) t v, Tryz.f4.params[j]? = some t → args[j]? = some v → Value.okWide Tryz.prog W .any base t v := hval0
  have hW' := hW
  obtain ⟨p, q, hA0, hV, rfl, hfz, hnd⟩ := hW
  have hA : DataW.TrodAll enc Tryz.prog W 0 (fun _ => true) true Tryz.f4.params.toList args.toList ds p := hA0
  rw [Tryz.params4] at hA hval
  obtain ⟨v0, vs0, d0, ds0, p0, q0, hargs, rfl, rfl, h0, r0⟩ := trodAll_cons hA
  obtain ⟨v1, vs1, d1, ds1, p1, q1, rfl, rfl, rfl, h1, r1⟩ := trodAll_cons r0
  obtain ⟨v2, vs2, d2, ds2, p2, q2, rfl, rfl, rfl, h2, r2⟩ := trodAll_cons r1
  obtain ⟨v3, vs3, d3, ds3, p3, q3, rfl, rfl, rfl, h3, r3⟩ := trodAll_cons r2
  obtain ⟨v4, vs4, d4, ds4, p4, q4, rfl, rfl, rfl, h4, r4⟩ := trodAll_cons r3
  obtain ⟨rfl, rfl, rfl⟩ := trodAll_nil r4
  obtain rfl : args = #[v0, v1, v2, v3, v4] := by cases args; simp_all
  obtain ⟨rfl, rfl⟩ := trodVars_none hV
  clear hA0 hval0
  obtain ⟨s0, n0, c0, rfl⟩ := okWide_slice T.und_22.eq (hval 0 22 v0 rfl rfl)
  obtain ⟨fu0, hf0⟩ := h0
  obtain ⟨l0, ⟨u0, e0, R0⟩, G0⟩ := (opens_slice T.und_22.eq T.cel_43 rfl (opens_dut T.fds_43.eq T.cel_43 (opens_string T.und_9.eq) (opens_int T.und_3.eq))) enc W 0 _ true fu0 _ _ hf0
  cases e0
  obtain ⟨cs1, rfl, hz1⟩ := okWide_agg T.fds_25.eq (hval 1 25 v1 rfl rfl)
  obtain ⟨fu1, hf1⟩ := h1
  obtain ⟨l1, ⟨u1, e1, R1⟩, G1⟩ := (opens_wrap T.fds_25.eq T.cel_25 (opens_slice T.und_23.eq T.cel_95 rfl (opens_kind T.fds_95.eq T.cel_95 (opens_string T.und_9.eq) (opens_bool T.und_4.eq) (opens_slice T.und_93.eq T.cel_97 rfl (opens_slot T.fds_97.eq T.cel_97 (opens_string T.und_9.eq) (opens_slice T.und_30.eq T.cel_9 rfl (opens_string T.und_9.eq)) (opens_int T.und_3.eq)))))) enc W 0 _ true fu1 _ _ hf1
  obtain rfl : cs1 = #[u1] := Array.toList_inj.1 e1
  obtain ⟨s2, n2, c2, rfl⟩ := okWide_slice T.und_26.eq (hval 2 26 v2 rfl rfl)
  obtain ⟨fu2, hf2⟩ := h2
  obtain ⟨l2, ⟨u2, e2, R2⟩, G2⟩ := (opens_slice T.und_26.eq T.cel_49 rfl (opens_evt T.fds_49.eq T.cel_49 (opens_int T.und_3.eq) (opens_string T.und_9.eq) (opens_use T.fds_47.eq T.cel_47 (opens_ivl T.fds_45.eq T.cel_45 (opens_int T.und_3.eq))))) enc W 0 _ true fu2 _ _ hf2
  cases e2
  obtain ⟨a3, rfl, rfl, rfl, w3⟩ := open_string T.und_9.eq (hval 3 9 v3 rfl rfl) h3
  obtain ⟨a4, rfl, rfl, rfl, w4⟩ := open_int T.und_3.eq (hval 4 3 v4 rfl rfl) h4
  exact law_calls (s := Rows.dutyAloneSpec) Tryz.call4 (lawDAlone (Iw W) _ l0 R0 G0 _ l1 R1 G1 _ l2 R2 G2 a3 w3 a4 w4) hW' (by kernel_rfl) (by kernel_rfl) rfl T.und_4.eq rfl rfl
theorem over : Rows.dutyAloneRow.holds Tryz.pinned (OpenSpec.ofChange Rows.dutyAloneSpec) :=
  OpenClaim.holds_of_wide 4 Tryz.f4 rfl rfl rfl rfl rfl rfl rfl ⟨rfl, rfl, rfl, rfl, rfl⟩ rfl rfl rfl rfl rfl (by kernel_rfl) Tryz.func4 (by kernel_rfl)
    (of_decide_eq_true (by kernel_rfl)) (by unfold Func.isWrapper; first | (rw [if_pos (by decide +kernel)]; kernel_rfl) | (rw [if_neg (by decide +kernel)]; exact ⟨rfl, rfl⟩))
    (fun os started H enc _ => lifted os started H enc)
/-- the statement -/
theorem proved : Rows.DutyAloneSaid := over
end lawDutyAlone
end Go.Proofs.YtdkjmaoelojpeaaGreat

