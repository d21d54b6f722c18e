/- The law PlaceHistories holds of the given program, for every input. No condition. -/
import Derived.Test.YtdapmfkbpnjkmaaGreatZPlf
import Derived.ChangeMaps5
import Derived.OpenShut
import Derived.ProofKit
import Derived.Test.YtdapmfkbpnjkmaaGreatRows
/- Walks, printed by a program out of the code of the functions: each theorem is a contract of one function. -/
namespace Go.Proofs.YtdapmfkbpnjkmaaGreat
open Go Go.Sx
set_option linter.all false
set_option maxRecDepth 20000
set_option maxHeartbeats 4000000
theorem lawPlHistories (I : IMap) (vc : Value) (c : List Kind) (hvc : RdS I vc c) (hoc : ∀ x ∈ c, OkKd x) (v : Value) (l : List Rep) (hv : RdS I v l) (hok : ∀ x ∈ l, OkRp x) (p : ByteArray) (wp : p.size ≤ maxLen) (day : Int) (wd : (Lit.int .i64 day).wf = true) :
    FnV Tryz.prog 4 #[.agg #[vc], v, .string p, .int .i64 (day)] I (.bool true) := by
 refine enter Tryz.func4 Tryz.call4 rfl Tryz.ntmps4 rfl (fun w0 => ?_)
 refine go 3 ?_
 refine o_box _ rfl rfl rfl (fun g4 => ?_)
 refine go 6 ?_
 refine o_callV (head19 _) rfl rfl ?_
 refine go 5 ?_
 refine c_cutx (α := IMap) (Ix := (fun J => J)) (Lx := (fun J => [(1, v), (2, .string p), (3, .int .i64 (day)), (4, .pointer (some ⟨g4, 0, none⟩)), (9, .bool true), (33, .bool (!few19 c l || !shortF [p]))])) (Hx := (fun J => [.blk g4 24 [vc]])) (p := (fun J => ILe I J)) ?_ ?_
 ·refine go 4 ?_
  refine o_callV (law19few _ vc c hvc v l hv) rfl rfl ?_
  refine go 2 ?_
  refine sxb 28 rfl (fun h28 p28 => ?_) (fun h28 p28 => ?_)
  ·refine go 7 ?_
   exact q_cutx I (ILe.refl _) ⟨rfl, rfl, rfl, rfl, rfl, (congrArg (fun b => some (Value.bool b)) (by simp only [h28, bS])), trivial⟩ rfl rfl
  ·refine go 2 ?_
   refine o_yes rfl rfl h28 (o_buildSlice he he rfl rfl rfl rfl rfl rfl rfl (fun v30 => ?_))
   refine sx_pubrow (l := [p]) rfl rfl ((.one rfl)) (fun I30 j30 R30 => ?_)
   have hvc := hvc.le j30
   have hv := hv.le j30
   refine go 1 ?_
   refine o_yes rfl rfl h28 (o_callV (law19short _ _ [p] R30 (by simp)) rfl rfl ?_)
   refine go 4 ?_
   exact q_cutx I30 j30 ⟨rfl, rfl, rfl, rfl, rfl, (congrArg (fun b => some (Value.bool b)) (by simp only [h28, bS])), trivial⟩ rfl rfl
 ·intro J hJ
  have hvc := hvc.le hJ
  have hv := hv.le hJ
  refine cb rfl (fun h33 p33 => ?_) (fun h33 p33 => ?_)
  ·refine go 8 ?_
   refine fin1 rfl rfl ?_
   exact q_vI rfl
  ·simp only [Bool.or_eq_false_iff, Bool.not_eq_false'] at h33
   obtain ⟨hsc, hl12, hsl, _⟩ := few19_sm h33.1
   have hl : l.length ≤ 1000000 := by omega
   obtain ⟨R, hR⟩ := roots_ex l
   refine go 9 ?_
   refine o_call (plOf _ vc c hvc hsc v l hv hl hsl R hR p day) rfl rfl (fun v40 I40 j40 q40 => ?_)
   try have hvc := hvc.le j40
   try have hv := hv.le j40
   try have hAX := hAX.le j40
   try have hAY := hAY.le j40
   try have hw40 := hw40.le j40
   try have hw48 := hw48.le j40
   try have hW0 := hW0.le j40
   try have hW := hW.le j40
   try have hF := hF.le j40
   try have hR16 := hR16.le j40
   try have hs92 := hs92.le j40
   try have hs105 := hs105.le j40
   obtain ⟨w40, rfl, hw40⟩ := q40
   obtain ⟨X, hX⟩ : ∃ q, q = (shwF plcLt (plcOf p) c l (ownF l R p) p day) := ⟨_, rfl⟩
   rw [← hX] at hw40 ⊢
   have hw40s := hw40
   obtain ⟨AX, cX, rfl, hAX, _, hmX⟩ := hw40s
   refine go 14 ?_
   refine o_call (plRoots _ vc c hvc hsc v l hv hl hsl R hR p day) rfl rfl (fun v48 I48 j48 q48 => ?_)
   try have hvc := hvc.le j48
   try have hv := hv.le j48
   try have hAX := hAX.le j48
   try have hAY := hAY.le j48
   try have hw40 := hw40.le j48
   try have hw48 := hw48.le j48
   try have hW0 := hW0.le j48
   try have hW := hW.le j48
   try have hF := hF.le j48
   try have hR16 := hR16.le j48
   try have hs92 := hs92.le j48
   try have hs105 := hs105.le j48
   obtain ⟨w48, rfl, hw48⟩ := q48
   obtain ⟨Y, hY⟩ : ∃ q, q = (shwF sLt (rootF p) c l (ownF l R p) p day) := ⟨_, rfl⟩
   rw [← hY] at hw48 ⊢
   have hXY : X.2 = Y.2 := by rw [hX, hY]; exact shw_code
   have hw48s := hw48
   obtain ⟨AY, cY, rfl, hAY, _, hmY⟩ := hw48s
   refine go 8 ?_
   refine c_cut (I' := I48) (L' := [(1, v), (2, .string p), (3, .int .i64 (day)), (4, .pointer (some ⟨g4, 0, none⟩)), (9, .bool true), (10, .slice AX X.1.length cX), (11, .int .i64 (X.2)), (12, .slice AY Y.1.length cY)]) (H' := [.blk g4 24 [vc]]) ?_ ?_
   ·refine go 4 ?_
    refine o_v rfl (OV.cast (u := .bool false) (v_neq rfl rfl) (congrArg Value.bool (by rw [hXY]; simp))) ?_
    refine go 4 ?_
    refine sxb 57 rfl (fun h57 p57 => ?_) (fun h57 p57 => ?_)
    ·have h0 : ¬ X.2 = 0 := by simpa using h57
     have lX : X.1.length = 0 := by rw [hX] at h0 ⊢; rw [shw_bad h0]; rfl
     have lY : Y.1.length = 0 := by rw [hXY, hY] at h0; rw [hY, shw_bad h0]; rfl
     refine go 5 ?_
     refine o_cons (o_yes rfl rfl h57 (o_val rfl (OV.cast (u := .bool false) (v_gtr rfl rfl) (congrArg Value.bool ((decide_eq_false (by omega))))) ?_))
     refine go 4 ?_
     refine c_false rfl ?_
     refine go 2 ?_
     exact q_cut sb rfl rfl
    ·refine go 10 ?_
     refine c_false rfl ?_
     refine go 2 ?_
     exact q_cut sb rfl rfl
   ·refine go 7 ?_
    refine o_call (law19cases _ vc c hvc hsc _ l hv hl hsl R hR p day) rfl rfl (fun v70 I70 j70 q70 => ?_)
    try have hvc := hvc.le j70
    try have hv := hv.le j70
    try have hAX := hAX.le j70
    try have hAY := hAY.le j70
    try have hw40 := hw40.le j70
    try have hw48 := hw48.le j70
    try have hW0 := hW0.le j70
    try have hW := hW.le j70
    try have hF := hF.le j70
    try have hR16 := hR16.le j70
    try have hs92 := hs92.le j70
    try have hs105 := hs105.le j70
    obtain ⟨W, hWe⟩ : ∃ q, q = (casL c (ownF l R p) p day) := ⟨_, rfl⟩
    rw [← hWe] at q70
    have hWl : W.length ≤ 4096 := by rw [hWe]; exact casL_len
    have hW0 := q70
    obtain ⟨AW, cW, rfl, hW, _, _⟩ := q70
    refine go 10 ?_
    refine cb rfl (fun h72 p72 => ?_) (fun h72 p72 => ?_)
    ·have h0 : ¬ X.2 = 0 := by simpa using h72
     refine go 7 ?_
     refine sxb 77 rfl (fun h77 p77 => ?_) (fun h77 p77 => ?_)
     ·refine go 10 ?_
      refine fin1 rfl rfl ?_
      exact q_vI rfl
     ·have h2 : X.2 = 2 := by simpa using h77
      refine go 2 ?_
      refine o_cons (o_yes rfl rfl h77 (o_val rfl (OV.cast (u := .bool true) (v_eql rfl rfl) (congrArg Value.bool (decide_eq_true (by have := his_none hWe hX h2; omega)))) ?_))
      refine go 7 ?_
      refine fin1 rfl rfl ?_
      exact q_vI rfl
    ·have h0 : X.2 = 0 := by simpa using h72
     have hin := fun i (hi : i < W.length) => his_in hWe hX hY h0 hi
     obtain ⟨he1, he2, he3⟩ := his_end hWe hX hY h0
     refine go 4 ?_
     refine sx_nilrow 55 2 ?_
     refine go 15 ?_
     refine c_loop5 ((0 : Nat)) (_) (_) ([]) (_) (fun i v15 v16 xs J2 => J2)
      (fun i v15 v16 xs J2 => [(1, v), (2, .string p), (3, .int .i64 (day)), (4, .pointer (some ⟨g4, 0, none⟩)), (9, .bool true), (10, .slice AX X.1.length cX), (11, .int .i64 (X.2)), (12, .slice AY Y.1.length cY), (14, .slice AW W.length cW), (15, v15), (16, v16), (17, .int .i64 ((i : Nat) : Int))])
      (fun i v15 v16 xs J2 => [.row v15 55 2 (onceF ((W.take i).map (plcOf p))).length xs, .blk g4 24 [vc]])
      (fun i v15 v16 xs J2 => i ≤ W.length ∧ ILe I70 J2 ∧ Flat J2 xs (onceF ((W.take i).map (plcOf p))) ∧ RdS J2 v16 (srtU sLt ((W.take i).map (rootF p))))
      (fun i v15 v16 xs J2 => W.length - i) ⟨Nat.zero_le _, ILe.refl _, .nil, RdS.nil'⟩ rfl sb rfl ?_
     intro i v15 v16 xs J2 ⟨hi, hJ2, hF, hR16⟩
     have hvc := hvc.le hJ2
     have hv := hv.le hJ2
     have hAX := hAX.le hJ2
     have hAY := hAY.le hJ2
     have hw40 := hw40.le hJ2
     have hw48 := hw48.le hJ2
     have hW0 := hW0.le hJ2
     have hW := hW.le hJ2
     have hol := once_len (L := W) (i := i) (f := plcOf p)
     have hsl := srt_len (lt := sLt) (L := W) (i := i) (f := rootF p)
     refine go 9 ?_
     refine cb rfl (fun h86 p86 => ?_) (fun h86 p86 => ?_)
     ·have hlt : i < W.length := by omega
      obtain ⟨hi1, hi2⟩ := hin i hlt
      refine go 8 ?_
      obtain ⟨b92, o92, w92, e92, c92, r92⟩ := RdA.at_ hW (i := i) hlt
      obtain ⟨s92, rfl, hs92⟩ := r92
      refine o_v rfl (v_idx he rfl rfl e92 (i) (by omega) hlt) ?_
      refine o_v rfl (v_ldIa he rfl c92 rfl) ?_
      refine go 2 ?_
      refine o_callE (flFind _ _ _ hs92 p) rfl rfl (fun v95 q95 => ?_)
      obtain ⟨vs95, rfl, s95, rfl, hs95⟩ := q95
      refine go 4 ?_
      refine o_alloc he rfl (fun g18 => ?_)
      refine go 1 ?_
      refine o_stw _ he rfl rfl rfl rfl rfl (Enc.one (α := Part) (x := (findP W[i] p).getD zPart) ⟨s95, rfl, hs95⟩) ?_
      refine go 10 ?_
      refine o_val rfl (v_build (pl := [(0, 1), (1, 1)]) he he rfl rfl) ?_
      refine go 1 ?_
      refine o_alloc he rfl (fun g20 => ?_)
      refine go 1 ?_
      refine o_stw _ he rfl rfl rfl rfl rfl rfl ?_
      refine go 6 ?_
      obtain ⟨b105, o105, w105, e105, c105, r105⟩ := RdA.at_ hW (i := i) hlt
      obtain ⟨s105, rfl, hs105⟩ := r105
      refine o_v rfl (v_idx he rfl rfl e105 (i) (by omega) hlt) ?_
      refine o_v rfl (v_ldIa he rfl c105 rfl) ?_
      refine go 2 ?_
      refine o_callV (flRoot _ _ _ hs105 p) rfl rfl ?_
      refine go 9 ?_
      refine o_callV (law19at_t _ _ _ hw40 (plcOf p W[i]) hi1) rfl rfl ?_
      refine go 5 ?_
      refine o_yes rfl rfl rfl (o_callV (law19in_t _ _ _ hw48 (rootF p W[i]) hi2) rfl rfl ?_)
      refine go 4 ?_
      refine c_false rfl ?_
      refine go 8 ?_
      refine o_lendV m2 rfl rfl (hF) (fun I2 hI2 hR => law19at I2 _ _ hR (plcOf p W[i])) rfl rfl ?_
      refine go 3 ?_
      refine cb rfl (fun h122 p122 => ?_) (fun h122 p122 => ?_)
      ·have hnm : ¬ plcOf p W[i] ∈ (onceF ((W.take i).map (plcOf p))) := by simpa using h122
       refine go 4 ?_
       refine o_buildSlice he he rfl rfl rfl rfl rfl rfl rfl (fun v125 => ?_)
       refine go 1 ?_
       refine bring3 ?_
       refine o_appendO he he rfl rfl rfl rfl rfl (by omega) (by omega) rfl (fun v126 => ?_)
       refine go 7 ?_
       refine o_call (ref19PutS _ _ _ hR16 (by omega) (rootF p W[i])) rfl rfl (fun v129 I129 j129 q129 => ?_)
       try have hvc := hvc.le j129
       try have hv := hv.le j129
       try have hAX := hAX.le j129
       try have hAY := hAY.le j129
       try have hw40 := hw40.le j129
       try have hw48 := hw48.le j129
       try have hW0 := hW0.le j129
       try have hW := hW.le j129
       try have hF := hF.le j129
       try have hR16 := hR16.le j129
       try have hs92 := hs92.le j129
       try have hs105 := hs105.le j129
       refine go 10 ?_
       refine bring1 ?_
       refine sx_drop ?_
       refine bring1 ?_
       refine sx_drop ?_
       refine bring1 ?_
       refine sx_drop ?_
       exact q_next5 (i + 1) (_) (_) (_) (_) ⟨by omega, hJ2.trans j129, by rw [once_map hlt, if_neg hnm]; exact hF.append (.one rfl), by rw [srt_map hlt]; exact q129⟩ (by omega) rfl sb (by rw [once_map hlt, if_neg hnm, List.length_append]; rfl)
      ·have hnm : plcOf p W[i] ∈ (onceF ((W.take i).map (plcOf p))) := by simpa using h122
       refine go 6 ?_
       refine o_call (ref19PutS _ _ _ hR16 (by omega) (rootF p W[i])) rfl rfl (fun v129 I129 j129 q129 => ?_)
       try have hvc := hvc.le j129
       try have hv := hv.le j129
       try have hAX := hAX.le j129
       try have hAY := hAY.le j129
       try have hw40 := hw40.le j129
       try have hw48 := hw48.le j129
       try have hW0 := hW0.le j129
       try have hW := hW.le j129
       try have hF := hF.le j129
       try have hR16 := hR16.le j129
       try have hs92 := hs92.le j129
       try have hs105 := hs105.le j129
       refine go 10 ?_
       refine sx_drop ?_
       refine sx_drop ?_
       exact q_next5 (i + 1) (_) (_) (_) (_) ⟨by omega, hJ2.trans j129, by rw [once_map hlt, if_pos hnm]; exact hF, by rw [srt_map hlt]; exact q129⟩ (by omega) rfl sb (by rw [once_map hlt, if_pos hnm])
     ·obtain rfl : i = W.length := by omega
      rw [List.take_length] at hF hR16 ⊢
      rw [List.take_length] at hol
      refine sx_pubrow (l := onceF (W.map (plcOf p))) rfl rfl hF (fun I9 j9 R9 => ?_)
      have hAX := hAX.le j9
      have hw48 := hw48.le j9
      have hR16 := hR16.le j9
      rw [he3] at hR16
      have R9s := R9
      obtain ⟨A15, c15, rfl, _, _, _⟩ := R9s
      refine go 12 ?_
      refine c_loop (α := Nat) 1 (fun i => I9)
       (fun i => [(1, v), (2, .string p), (3, .int .i64 (day)), (4, .pointer (some ⟨g4, 0, none⟩)), (9, .bool true), (10, .slice AX X.1.length cX), (11, .int .i64 (X.2)), (12, .slice AY Y.1.length cY), (15, .slice A15 (onceF (W.map (plcOf p))).length c15), (16, v16), (22, .int .i64 ((i : Nat) : Int))])
       (fun i => [.blk g4 24 [vc]])
       (fun i => 1 ≤ i)
       (fun i => X.1.length - i) (Nat.le_refl _) rfl sb rfl ?_
      intro i hi
      refine go 9 ?_
      refine cb rfl (fun h133 p133 => ?_) (fun h133 p133 => ?_)
      ·have hlt : i < X.1.length := by omega
       obtain ⟨k, rfl⟩ : ∃ k, i = k + 1 := ⟨i - 1, by omega⟩
       have hlk : k < X.1.length := by omega
       have hkk := plc_prev hX h0 hlt
       refine go 5 ?_
       refine d_startH T.mixed ?_
       refine d_tv 0 rfl rfl (by kernel_rfl) rfl (.refl _) rfl (v_move rfl) ?_
       refine d_tv 1 rfl rfl (by kernel_rfl) rfl (.refl _) rfl (v_move rfl) ?_
       refine d_tv 2 rfl rfl (by kernel_rfl) rfl (.refl _) rfl (v_sub rfl rfl ⟨by omega, by omega⟩) ?_
       obtain ⟨b139, o139, w139, e139, c139, r139⟩ := RdA.at_ hAX (i := k) hlk
       obtain rfl := r139
       refine d_tv 3 rfl rfl (by kernel_rfl) rfl (.refl _) rfl (v_idx he rfl rfl e139 (k) (by omega) hlk) ?_
       refine d_tv 4 rfl rfl (by kernel_rfl) rfl (.refl _) rfl (v_fieldAddr he rfl) ?_
       refine d_tv 5 rfl rfl (by kernel_rfl) rfl (.refl _) rfl (v_ldI he rfl (c139 0 _ rfl)) ?_
       refine d_tv 6 rfl rfl (by kernel_rfl) rfl (.refl _) rfl (v_move rfl) ?_
       refine d_tv 7 rfl rfl (by kernel_rfl) rfl (.refl _) rfl (v_move rfl) ?_
       obtain ⟨b144, o144, w144, e144, c144, r144⟩ := RdA.at_ hAX (i := (k + 1)) hlt
       obtain rfl := r144
       refine d_tv 8 rfl rfl (by kernel_rfl) rfl (.refl _) rfl (v_idx he rfl rfl e144 ((k + 1)) (by omega) hlt) ?_
       refine d_tv 9 rfl rfl (by kernel_rfl) rfl (.refl _) rfl (v_fieldAddr he rfl) ?_
       refine d_tv 10 rfl rfl (by kernel_rfl) rfl (.refl _) rfl (v_ldI he rfl (c144 0 _ rfl)) ?_
       refine d_tv 11 rfl rfl (by kernel_rfl) rfl (.refl _) rfl (OV.cast (u := .bool false) (v_sgtr rfl rfl) (congrArg Value.bool (plc_gt hkk))) ?_
       refine d_tv 12 rfl rfl (by kernel_rfl) rfl (.refl _) rfl (v_move rfl) ?_
       refine d_t 13 rfl rfl (by kernel_rfl) rfl (fun _ m => m.keeps (.refl _)) (y_yes rfl rfl rfl (v_move rfl)) ?_
       refine d_t 14 rfl rfl (by kernel_rfl) rfl (fun _ m => m.keeps (.refl _)) (y_yes rfl rfl rfl (v_move rfl)) ?_
       refine d_t 15 rfl rfl (by kernel_rfl) rfl (fun _ m => m.keeps (.refl _)) (y_yes rfl rfl rfl (v_sub rfl rfl ⟨by omega, by omega⟩)) ?_
       obtain ⟨b152, o152, w152, e152, c152, r152⟩ := RdA.at_ hAX (i := k) hlk
       obtain rfl := r152
       refine d_t 16 rfl rfl (by kernel_rfl) rfl (fun _ m => m.keeps (.refl _)) (y_yes rfl rfl rfl (v_idx he rfl rfl e152 (k) (by omega) hlk)) ?_
       refine d_t 17 rfl rfl (by kernel_rfl) rfl (fun _ m => m.keeps (.refl _)) (y_yes rfl rfl rfl (v_fieldAddr he rfl)) ?_
       refine d_t 18 rfl rfl (by kernel_rfl) rfl (fun _ m => m.keeps (.refl _)) (y_yes rfl rfl rfl (v_ldI he rfl (c152 0 _ rfl))) ?_
       refine d_t 19 rfl rfl (by kernel_rfl) rfl (fun _ m => m.keeps (.refl _)) (y_yes rfl rfl rfl (v_move rfl)) ?_
       refine d_t 20 rfl rfl (by kernel_rfl) rfl (fun _ m => m.keeps (.refl _)) (y_yes rfl rfl rfl (v_move rfl)) ?_
       obtain ⟨b157, o157, w157, e157, c157, r157⟩ := RdA.at_ hAX (i := (k + 1)) hlt
       obtain rfl := r157
       refine d_t 21 rfl rfl (by kernel_rfl) rfl (fun _ m => m.keeps (.refl _)) (y_yes rfl rfl rfl (v_idx he rfl rfl e157 ((k + 1)) (by omega) hlt)) ?_
       refine d_t 22 rfl rfl (by kernel_rfl) rfl (fun _ m => m.keeps (.refl _)) (y_yes rfl rfl rfl (v_fieldAddr he rfl)) ?_
       refine d_t 23 rfl rfl (by kernel_rfl) rfl (fun _ m => m.keeps (.refl _)) (y_yes rfl rfl rfl (v_ldI he rfl (c157 0 _ rfl))) ?_
       refine d_t 24 rfl rfl (by kernel_rfl) rfl (fun _ m => m.keeps (.refl _)) (y_yes rfl rfl rfl (v_seql rfl rfl)) ?_
       refine d_t 25 rfl rfl (by kernel_rfl) rfl (fun _ m => m.keeps (.refl _)) (y_yes rfl rfl rfl (v_move rfl)) ?_
       refine sxb 161 rfl (fun h161 p161 => ?_) (fun h161 p161 => ?_)
       ·refine d_t 26 rfl rfl (by kernel_rfl) rfl (fun _ m => m.keeps (.refl _)) (y_yes rfl rfl h161 (v_move rfl)) ?_
        refine d_t 27 rfl rfl (by kernel_rfl) rfl (fun _ m => m.keeps (.refl _)) (y_yes rfl rfl h161 (v_move rfl)) ?_
        refine d_t 28 rfl rfl (by kernel_rfl) rfl (fun _ m => m.keeps (.refl _)) (y_yes rfl rfl h161 (v_sub rfl rfl ⟨by omega, by omega⟩)) ?_
        obtain ⟨b165, o165, w165, e165, c165, r165⟩ := RdA.at_ hAX (i := k) hlk
        obtain rfl := r165
        refine d_t 29 rfl rfl (by kernel_rfl) rfl (fun _ m => m.keeps (.refl _)) (y_yes rfl rfl h161 (v_idx he rfl rfl e165 (k) (by omega) hlk)) ?_
        refine d_t 30 rfl rfl (by kernel_rfl) rfl (fun _ m => m.keeps (.refl _)) (y_yes rfl rfl h161 (v_fieldAddr he rfl)) ?_
        refine d_t 31 rfl rfl (by kernel_rfl) rfl (fun _ m => m.keeps (.refl _)) (y_yes rfl rfl h161 (v_ldI he rfl (c165 1 _ rfl))) ?_
        refine d_t 32 rfl rfl (by kernel_rfl) rfl (fun _ m => m.keeps (.refl _)) (y_yes rfl rfl h161 (v_move rfl)) ?_
        refine d_t 33 rfl rfl (by kernel_rfl) rfl (fun _ m => m.keeps (.refl _)) (y_yes rfl rfl h161 (v_move rfl)) ?_
        obtain ⟨b170, o170, w170, e170, c170, r170⟩ := RdA.at_ hAX (i := (k + 1)) hlt
        obtain rfl := r170
        refine d_t 34 rfl rfl (by kernel_rfl) rfl (fun _ m => m.keeps (.refl _)) (y_yes rfl rfl h161 (v_idx he rfl rfl e170 ((k + 1)) (by omega) hlt)) ?_
        refine d_t 35 rfl rfl (by kernel_rfl) rfl (fun _ m => m.keeps (.refl _)) (y_yes rfl rfl h161 (v_fieldAddr he rfl)) ?_
        refine d_t 36 rfl rfl (by kernel_rfl) rfl (fun _ m => m.keeps (.refl _)) (y_yes rfl rfl h161 (v_ldI he rfl (c170 1 _ rfl))) ?_
        refine d_t 37 rfl rfl (by kernel_rfl) rfl (fun _ m => m.keeps (.refl _)) (y_yes rfl rfl h161 (OV.cast (u := .bool false) (v_sgeq rfl rfl) (congrArg Value.bool (by rw [plc_no hkk (by first | exact p161 | simpa using h161)]; rfl)))) ?_
        refine d_t 38 rfl rfl (by kernel_rfl) rfl (fun _ m => m.keeps (.refl _)) (y_yes rfl rfl rfl (v_and_t h161 rfl rfl)) ?_
        refine d_tv 39 rfl rfl (by kernel_rfl) rfl (.refl _) rfl (v_or_f rfl rfl rfl) ?_
        refine d_done (by kernel_rfl) ?_
        refine go 1 ?_
        refine c_false rfl ?_
        refine go 9 ?_
        exact q_next (k + 1 + 1) (by omega) (by omega) rfl sb rfl
       ·refine d_t 26 rfl rfl (by kernel_rfl) rfl (fun _ m => m.keeps (.refl _)) (y_no rfl rfl h161) ?_
        refine d_t 27 rfl rfl (by kernel_rfl) rfl (fun _ m => m.keeps (.refl _)) (y_no rfl rfl h161) ?_
        refine d_t 28 rfl rfl (by kernel_rfl) rfl (fun _ m => m.keeps (.refl _)) (y_no rfl rfl h161) ?_
        refine d_t 29 rfl rfl (by kernel_rfl) rfl (fun _ m => m.keeps (.refl _)) (y_no rfl rfl h161) ?_
        refine d_t 30 rfl rfl (by kernel_rfl) rfl (fun _ m => m.keeps (.refl _)) (y_no rfl rfl h161) ?_
        refine d_t 31 rfl rfl (by kernel_rfl) rfl (fun _ m => m.keeps (.refl _)) (y_no rfl rfl h161) ?_
        refine d_t 32 rfl rfl (by kernel_rfl) rfl (fun _ m => m.keeps (.refl _)) (y_no rfl rfl h161) ?_
        refine d_t 33 rfl rfl (by kernel_rfl) rfl (fun _ m => m.keeps (.refl _)) (y_no rfl rfl h161) ?_
        refine d_t 34 rfl rfl (by kernel_rfl) rfl (fun _ m => m.keeps (.refl _)) (y_no rfl rfl h161) ?_
        refine d_t 35 rfl rfl (by kernel_rfl) rfl (fun _ m => m.keeps (.refl _)) (y_no rfl rfl h161) ?_
        refine d_t 36 rfl rfl (by kernel_rfl) rfl (fun _ m => m.keeps (.refl _)) (y_no rfl rfl h161) ?_
        refine d_t 37 rfl rfl (by kernel_rfl) rfl (fun _ m => m.keeps (.refl _)) (y_no rfl rfl h161) ?_
        refine d_t 38 rfl rfl (by kernel_rfl) rfl (fun _ m => m.keeps (.refl _)) (y_yes rfl rfl rfl (v_and_f h161 rfl)) ?_
        refine d_tv 39 rfl rfl (by kernel_rfl) rfl (.refl _) rfl (v_or_f rfl rfl rfl) ?_
        refine d_done (by kernel_rfl) ?_
        refine go 1 ?_
        refine c_false rfl ?_
        refine go 9 ?_
        exact q_next (k + 1 + 1) (by omega) (by omega) rfl sb rfl
      ·refine go 11 ?_
       refine o_cons (o_yes rfl rfl rfl (o_val rfl (OV.cast (u := .bool true) (v_gtr rfl rfl) (congrArg Value.bool (decide_eq_true (by omega)))) ?_))
       refine go 6 ?_
       refine o_cons (o_yes rfl rfl rfl (o_val rfl (OV.cast (u := .bool true) (v_eql rfl rfl) (congrArg Value.bool (decide_eq_true (by omega)))) ?_))
       refine go 5 ?_
       refine o_yes rfl rfl rfl (o_callV (ref01Same_t _ _ _ hR16 _ _ hw48 rfl) rfl rfl ?_)
       refine go 5 ?_
       refine fin1 rfl rfl ?_
       exact q_vI rfl

end Go.Proofs.YtdapmfkbpnjkmaaGreat

/- The law PlaceHistories holds of the given program, for every input. No condition. -/
namespace Go.Proofs.YtdapmfkbpnjkmaaGreat
open Go Go.Sx
set_option linter.all false
theorem T.cel_168 : Tryz.prog.cellsOf 168 = 3 := by kernel_rfl
theorem T.cel_170 : Tryz.prog.cellsOf 170 = 3 := by kernel_rfl
theorem T.cel_24 : Tryz.prog.cellsOf 24 = 1 := by kernel_rfl
theorem T.cel_44 : Tryz.prog.cellsOf 44 = 2 := by kernel_rfl
theorem T.cel_64 : Tryz.prog.cellsOf 64 = 2 := by kernel_rfl
theorem T.cel_9 : Tryz.prog.cellsOf 9 = 1 := by kernel_rfl
theorem T.cel_94 : Tryz.prog.cellsOf 94 = 6 := by kernel_rfl
theorem T.cel_96 : Tryz.prog.cellsOf 96 = 14 := by kernel_rfl
instance T.fds_168 : Has (fieldsK Tryz.prog 168) [(9, 0, 1), (4, 1, 1), (166, 2, 1)] := ⟨by kernel_rfl⟩
instance T.fds_170 : Has (fieldsK Tryz.prog 170) [(9, 0, 1), (33, 1, 1), (3, 2, 1)] := ⟨by kernel_rfl⟩
instance T.fds_24 : Has (fieldsK Tryz.prog 24) [(22, 0, 1)] := ⟨by kernel_rfl⟩
instance T.fds_44 : Has (fieldsK Tryz.prog 44) [(3, 0, 1), (3, 1, 1)] := ⟨by kernel_rfl⟩
instance T.fds_64 : Has (fieldsK Tryz.prog 64) [(62, 0, 1), (4, 1, 1)] := ⟨by kernel_rfl⟩
instance T.fds_94 : Has (fieldsK Tryz.prog 94) [(44, 0, 2), (44, 2, 2), (44, 4, 2)] := ⟨by kernel_rfl⟩
instance T.fds_96 : Has (fieldsK Tryz.prog 96) [(3, 0, 1), (3, 1, 1), (9, 2, 1), (9, 3, 1), (9, 4, 1), (9, 5, 1), (9, 6, 1), (9, 7, 1), (94, 8, 6)] := ⟨by kernel_rfl⟩
namespace lawPlaceHistories
open Go.ChangeShapes Go.WideShapes Go.ChangeAt Go.RowKit Go.ChangeMaps Go.MapKept
theorem own : ownKnob Tryz.prog.godebug = none := by kernel_rfl
set_option maxRecDepth 100000 in
theorem lifted (os : Os) (started : os.Started) (H : Type) (enc : TypeId × Value → H) :
    ReturnsInHanded {} Tryz.checked os 4 .any (Rows.placeHistoriesSpec.pre6 enc Tryz.prog Tryz.f4 Rows.placeHistoriesRow.domain false) (Rows.placeHistoriesSpec.post enc Tryz.prog Tryz.f4 false true false false) := by
  refine returnsInHanded_of_change (C := Tryz.checked) own started (by kernel_rfl) Tryz.func4
    (ChangeSpec.witness6 (enc := enc) (C := Tryz.checked) false ⟨#[], #[.agg #[.slice none 0 0], .slice none 0 0, .string ⟨#[]⟩, .int .i64 0], []⟩ 8 (by kernel_rfl) (by kernel_rfl) (by kernel_rfl) (by kernel_rfl)) ?_
  intro W base args ds gs before hval0 hW hcnd _
  have hval : ∀ (j : Nat) t v, Tryz.f4.params[j]? = some t → args[j]? = some v → Value.okWide Tryz.prog W .any base t v := hval0
  have hW' := hW
  obtain ⟨p, q, hA0, hV, rfl, hfz, hnd⟩ := hW
  have hA : DataW.TrodAll enc Tryz.prog W 0 (fun _ => true) true Tryz.f4.params.toList args.toList ds p := hA0
  rw [Tryz.params4] at hA hval
  obtain ⟨v0, vs0, d0, ds0, p0, q0, hargs, rfl, rfl, h0, r0⟩ := trodAll_cons hA
  obtain ⟨v1, vs1, d1, ds1, p1, q1, rfl, rfl, rfl, h1, r1⟩ := trodAll_cons r0
  obtain ⟨v2, vs2, d2, ds2, p2, q2, rfl, rfl, rfl, h2, r2⟩ := trodAll_cons r1
  obtain ⟨v3, vs3, d3, ds3, p3, q3, rfl, rfl, rfl, h3, r3⟩ := trodAll_cons r2
  obtain ⟨rfl, rfl, rfl⟩ := trodAll_nil r3
  obtain rfl : args = #[v0, v1, v2, v3] := by cases args; simp_all
  obtain ⟨rfl, rfl⟩ := trodVars_none hV
  clear hA0 hval0
  obtain ⟨cs0, rfl, hz0⟩ := okWide_agg T.fds_24.eq (hval 0 24 v0 rfl rfl)
  obtain ⟨fu0, hf0⟩ := h0
  obtain ⟨l0, ⟨u0, e0, R0⟩, G0⟩ := (opens_wrap T.fds_24.eq T.cel_24 (opens_slice T.und_22.eq T.cel_168 rfl (opens_kind T.fds_168.eq T.cel_168 (opens_string T.und_9.eq) (opens_bool T.und_4.eq) (opens_slice T.und_166.eq T.cel_170 rfl (opens_slot T.fds_170.eq T.cel_170 (opens_string T.und_9.eq) (opens_slice T.und_33.eq T.cel_9 rfl (opens_string T.und_9.eq)) (opens_int T.und_3.eq)))))) enc W 0 _ true fu0 _ _ hf0
  obtain rfl : cs0 = #[u0] := Array.toList_inj.1 e0
  obtain ⟨s1, n1, c1, rfl⟩ := okWide_slice T.und_25.eq (hval 1 25 v1 rfl rfl)
  obtain ⟨fu1, hf1⟩ := h1
  obtain ⟨l1, ⟨u1, e1, R1⟩, G1⟩ := (opens_slice T.und_25.eq T.cel_64 rfl (opens_rep T.fds_64.eq T.cel_64 (opens_slice T.und_62.eq T.cel_96 rfl (opens_evt T.fds_96.eq T.cel_96 (opens_int T.und_3.eq) (opens_string T.und_9.eq) (opens_use T.fds_94.eq T.cel_94 (opens_ivl T.fds_44.eq T.cel_44 (opens_int T.und_3.eq))))) (opens_bool T.und_4.eq))) enc W 0 _ true fu1 _ _ hf1
  cases e1
  obtain ⟨a2, rfl, rfl, rfl, w2⟩ := open_string T.und_9.eq (hval 2 9 v2 rfl rfl) h2
  obtain ⟨a3, rfl, rfl, rfl, w3⟩ := open_int T.und_3.eq (hval 3 3 v3 rfl rfl) h3
  exact law_calls (s := Rows.placeHistoriesSpec) Tryz.call4 (lawPlHistories (Iw W) _ l0 R0 G0 _ l1 R1 G1 a2 w2 a3 w3) hW' (by kernel_rfl) (by kernel_rfl) rfl T.und_4.eq rfl rfl
end lawPlaceHistories

end Go.Proofs.YtdapmfkbpnjkmaaGreat

