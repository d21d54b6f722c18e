/- Walks, printed by a program out of the code of the functions: each theorem is a contract of one function. -/
import Derived.Test.YtechmdlbpbpkdaaW13
import Derived.Test.YtechmdlbpbpkdaaM14
import Derived.Test.YtechmdlbpbpkdaaSxOpen
namespace Go.Proofs.Ytechmdlbpbpkdaa
open Go Go.Sx
set_option linter.all false
set_option maxRecDepth 20000
set_option maxHeartbeats 4000000
theorem lawGoesOn (I : IMap) (vc : Value) (c : List Kind) (hvc : RdS I vc c) (hoc : ∀ x ∈ c, OkKd x) (v : Value) (l : List Evt) (hv : RdS I v l) (hok : ∀ x ∈ l, OkE x) (day : Int) (wd : (Lit.int .i64 day).wf = true) :
    FnV Try.prog 4 #[.agg #[vc], v, .int .i64 day] I (.bool true) := by
  have hv0 := hv
  obtain ⟨A0, c0, rfl, hA, hc, hm⟩ := hv
  refine enter Try.func4 Try.call4 rfl Try.ntmps4 rfl (fun w0 => ?_)
  refine c_seq ?_
  refine c_region ?_
  refine o_cons ?_
  refine o_box _ rfl rfl rfl (fun g3 => ?_)
  refine o_v rfl (v_assign rfl) ?_
  refine o_nil ?_
  refine q_then ?_
  refine c_seq ?_
  refine c_region ?_
  refine o_cons ?_
  refine o_callV (head11 _) rfl rfl ?_
  refine o_v rfl (v_assign rfl) ?_
  refine o_nil ?_
  refine q_then ?_
  refine c_seq ?_
  refine c_seq ?_
  refine c_region ?_
  refine o_v rfl (v_ldw m0 T.ty_36 rfl rfl) ?_
  refine o_v rfl (v_move rfl) ?_
  refine o_cons ?_
  refine o_callV (few11 _ vc c hvc _ l hv0) rfl rfl ?_
  refine o_v rfl (v_not rfl) ?_
  refine o_nil ?_
  refine q_then ?_
  refine c_cond rfl (fun h24 => ?_) (fun h24 => ?_)
  · have p24 := h24
    try simp only [decide_eq_true_eq, decide_eq_false_iff_not, Bool.not_eq_true', Bool.not_eq_false', Bool.and_eq_true, Bool.or_eq_true, Bool.or_eq_false_iff] at p24
    refine c_seq ?_
    refine c_region ?_
    refine o_v rfl (v_move rfl) ?_
    refine o_v rfl (v_assign rfl) ?_
    refine o_nil ?_
    refine q_then ?_
    refine c_ret ?_
    refine q_then_ret ?_
    refine fin1 rfl rfl ?_
    exact q_vI rfl
  · have p24 := h24
    try simp only [decide_eq_true_eq, decide_eq_false_iff_not, Bool.not_eq_true', Bool.not_eq_false', Bool.and_eq_true, Bool.or_eq_true, Bool.or_eq_false_iff] at p24
    have hf : fewC c = true ∧ fewE l 60 = true := by simpa using h24
    obtain ⟨hse, hl⟩ := fewE_sm hf.2
    have hsc := fewC_sm hf.1
    have hl6 : l.length ≤ 1000000 := by omega
    refine c_skip ?_
    refine q_then ?_
    refine c_seq ?_
    refine c_region ?_
    refine o_v rfl (v_ldw m0 T.ty_36 rfl rfl) ?_
    refine o_v rfl (v_move rfl) ?_
    refine o_v rfl (v_move rfl) ?_
    refine o_cons ?_
    refine o_call (cAt _ vc c hvc hsc _ l hv0 hl6 hse day) rfl rfl (fun v30 I30 j30 q30 => ?_)
    have hvc := hvc.le j30
    have hv0 := hv0.le j30
    have hA := hA.le j30
    obtain ⟨w8, rfl, hw8⟩ := q30
    refine o_v rfl (v_move rfl) ?_
    refine o_v rfl (v_extract rfl rfl) ?_
    refine o_v rfl (v_extract rfl rfl) ?_
    refine o_v rfl (v_extract rfl rfl) ?_
    refine o_cons ?_
    refine o_alloc T.zero_40 rfl (fun g8 => ?_)
    refine o_cons ?_
    refine o_stw _ T.ty_40 rfl rfl rfl rfl rfl (by simp [hw8.one]) ?_
    refine o_v rfl (v_assign rfl) ?_
    refine o_v rfl (v_assign rfl) ?_
    refine o_nil ?_
    refine q_then ?_
    refine c_seq ?_
    refine c_region ?_
    refine o_v rfl (v_ldw m1 T.ty_36 rfl rfl) ?_
    refine o_v rfl (v_move rfl) ?_
    refine o_cons ?_
    refine o_call (cRun _ vc c hvc hsc _ l hv0 hl6 hse) rfl rfl (fun v37 I37 j37 q37 => ?_)
    have hvc := hvc.le j37
    have hv0 := hv0.le j37
    have hA := hA.le j37
    have hw8 := hw8.le j37
    obtain ⟨w11, rfl, hw11⟩ := q37
    obtain ⟨A11, c11, rfl, _⟩ := id hw11
    obtain ⟨A8, c8, rfl, _⟩ := id hw8
    refine o_v rfl (v_move rfl) ?_
    refine o_v rfl (v_extract rfl rfl) ?_
    refine o_v rfl (v_extract rfl rfl) ?_
    refine o_v rfl (v_extract rfl rfl) ?_
    refine o_cons ?_
    refine o_alloc T.zero_40 rfl (fun g11 => ?_)
    refine o_cons ?_
    refine o_stw _ T.ty_40 rfl rfl rfl rfl rfl rfl ?_
    refine o_v rfl (v_assign rfl) ?_
    refine o_v rfl (v_assign rfl) ?_
    refine o_nil ?_
    refine q_then ?_
    refine c_seq ?_
    refine c_seq ?_
    refine c_region ?_
    refine o_v rfl (v_move rfl) ?_
    refine o_v rfl (v_neq rfl rfl) ?_
    refine o_nil ?_
    refine q_then ?_
    refine c_cond rfl (fun h42 => ?_) (fun h42 => ?_)
    · have p42 := h42
      try simp only [decide_eq_true_eq, decide_eq_false_iff_not, Bool.not_eq_true', Bool.not_eq_false', Bool.and_eq_true, Bool.or_eq_true, Bool.or_eq_false_iff] at p42
      have hne : (atF11 c l day).2.2 ≠ 0 := by simpa using h42
      have hre := run_err hne
      have hp0 := at_fail hne
      refine c_seq ?_
      refine c_region ?_
      refine o_v rfl (v_move rfl) ?_
      refine o_v rfl (v_move rfl) ?_
      refine o_cons (o_yes rfl rfl rfl (o_val rfl (v_fieldAddr T.fld_40_0 rfl) ?_))
      refine o_cons (o_yes rfl rfl rfl (o_val rfl (v_ld m1 T.ty_38 rfl rfl) ?_))
      refine o_cons (o_yes rfl rfl rfl (o_val rfl (v_len_slice T.und_38 rfl) ?_))
      refine o_cons (o_yes rfl rfl rfl (o_val rfl (OV.cast (u := .bool true) (v_eql rfl rfl) (congrArg Value.bool (decide_eq_true (by rw [hp0]; rfl)))) ?_))
      refine o_v rfl (v_and_t rfl rfl rfl) ?_
      refine o_v rfl (v_move rfl) ?_
      refine o_cons (o_yes rfl rfl rfl (o_val rfl (v_move rfl) ?_))
      refine o_cons (o_yes rfl rfl rfl (o_val rfl (v_move rfl) ?_))
      refine o_cons (o_yes rfl rfl rfl (o_val rfl (OV.cast (u := .bool true) (v_eql rfl rfl) (congrArg Value.bool (decide_eq_true (by rw [hre])))) ?_))
      refine o_v rfl (v_and_t rfl rfl rfl) ?_
      refine o_v rfl (v_assign rfl) ?_
      refine o_nil ?_
      refine q_then ?_
      refine c_ret ?_
      refine q_then_ret ?_
      refine fin1 rfl rfl ?_
      exact q_vI rfl
    · have p42 := h42
      try simp only [decide_eq_true_eq, decide_eq_false_iff_not, Bool.not_eq_true', Bool.not_eq_false', Bool.and_eq_true, Bool.or_eq_true, Bool.or_eq_false_iff] at p42
      have he0 : (atF11 c l day).2.2 = 0 := by simpa using h42
      have hro := run_ok he0
      refine c_skip ?_
      refine q_then ?_
      refine c_seq ?_
      refine c_region ?_
      refine sx_nilrow 32 14 ?_
      refine o_v rfl (v_assign rfl) ?_
      refine o_nil ?_
      refine q_then ?_
      refine c_seq ?_
      refine c_region ?_
      refine o_v rfl (v_assign rfl) ?_
      refine o_nil ?_
      refine q_then ?_
      refine c_seq ?_
      refine c_seq ?_
      refine c_region ?_
      refine o_v rfl (v_assign rfl) ?_
      refine o_nil ?_
      refine q_then ?_
      refine c_block ?_
      refine bring3 ?_
      refine bring2 ?_
      refine bring3 ?_
      refine bring3 ?_
      refine c_loop2 (0) (.slice none 0 0) (fun i v14 => I37)
        (fun i v14 => [(1, .slice A0 l.length c0), (2, .int .i64 day), (3, .pointer (some ⟨g3, 0, none⟩)), (7, .bool true), (8, .pointer (some ⟨g8, 0, none⟩)), (11, .pointer (some ⟨g11, 0, none⟩)), (12, .int .i64 (runF c l).2.1), (13, .int .i64 (runF c l).2.2), (14, v14), (15, .int .i64 (((upD (l.take i) day).length : Nat) : Int)), (16, .int .i64 ((i : Nat) : Int))])
        (fun i v14 => [.row v14 32 14 (laD (l.take i) day).length (evCh (laD (l.take i) day)).flatten, .blk g8 40 [.slice A8 (atF11 c l day).1.length c8], .blk g11 40 [.slice A11 (runF c l).1.length c11], .blk g3 36 [vc]])
        (fun i v14 => i ≤ l.length)
        (fun i v14 => l.length - i) (Nat.zero_le _) rfl ⟨rfl, rfl, rfl, rfl, rfl, rfl, rfl, rfl, rfl, rfl, rfl, trivial⟩ rfl ?_
      intro i v14 hi
      have hln := laD_len l day i
      have hun := upD_len l day i
      refine c_seq ?_
      refine c_seq ?_
      refine c_region ?_
      refine o_v rfl (v_move rfl) ?_
      refine o_v rfl (v_move rfl) ?_
      refine o_v rfl (v_len_slice T.und_22 rfl) ?_
      refine o_v rfl (v_lss rfl rfl) ?_
      refine o_nil ?_
      refine q_then ?_
      refine c_cond rfl (fun h58 => ?_) (fun h58 => ?_)
      · have p58 := h58
        try simp only [decide_eq_true_eq, decide_eq_false_iff_not, Bool.not_eq_true', Bool.not_eq_false', Bool.and_eq_true, Bool.or_eq_true, Bool.or_eq_false_iff] at p58
        have hlt : i < l.length := by omega
        refine c_skip ?_
        refine q_then ?_
        refine c_seq ?_
        refine c_block ?_
        refine c_seq ?_
        refine c_region ?_
        refine o_v rfl (v_move rfl) ?_
        refine o_v rfl (v_move rfl) ?_
        obtain ⟨b63, o63, w63, e63, c63, r63⟩ := RdA.at_ hA (i := i) hlt
        obtain rfl := r63
        refine o_v rfl (v_idx T.elt_22 rfl rfl e63 (i) (by omega) hlt) ?_
        refine o_v rfl (v_fieldAddr T.fld_32_1 rfl) ?_
        refine o_v rfl (v_ldI T.ty_3 rfl (c63 1 _ rfl)) ?_
        refine o_v rfl (v_move rfl) ?_
        refine o_v rfl (v_gtr rfl rfl) ?_
        refine o_nil ?_
        refine q_then ?_
        refine c_cond rfl (fun h67 => ?_) (fun h67 => ?_)
        · have p67 := h67
          try simp only [decide_eq_true_eq, decide_eq_false_iff_not, Bool.not_eq_true', Bool.not_eq_false', Bool.and_eq_true, Bool.or_eq_true, Bool.or_eq_false_iff] at p67
          have hd : l[i].day > day := by omega
          refine c_region ?_
          refine o_v rfl (v_move rfl) ?_
          refine o_v rfl (v_move rfl) ?_
          refine o_v rfl (v_move rfl) ?_
          obtain ⟨b71, o71, w71, e71, c71, r71⟩ := RdA.at_ hA (i := i) hlt
          obtain rfl := r71
          refine o_v rfl (v_idx T.elt_22 rfl rfl e71 (i) (by omega) hlt) ?_
          refine o_v rfl (v_ldIa T.ty_32 rfl c71 rfl) ?_
          refine o_cons ?_
          refine o_buildSlice T.elt_22 T.zero_32 rfl rfl rfl rfl rfl rfl rfl (fun v73 => ?_)
          refine o_cons ?_
          refine bring1 ?_
          refine o_appendO T.und_22 T.by_32 rfl rfl rfl rfl rfl (by omega) (by omega) rfl (fun v74 => ?_)
          refine o_v rfl (v_assign rfl) ?_
          refine o_nil ?_
          refine q_block ?_
          refine q_then ?_
          refine c_region ?_
          refine o_v rfl (v_move rfl) ?_
          refine o_v rfl (v_add rfl rfl ⟨by omega, by omega⟩) ?_
          refine o_v rfl (v_assign rfl) ?_
          refine o_nil ?_
          refine q_then ?_
          refine bring1 ?_
          refine sx_drop ?_
          exact q_next2 (i + 1) (v74) (by omega) (by omega) rfl ⟨rfl, rfl, rfl, rfl, rfl, rfl, rfl, rfl, rfl, congrArg (fun z : Int => some (Value.int .i64 z)) (by first | rw [upD_no hlt hd] | (rw [upD_yes hlt hd])), rfl, trivial⟩ (by rw [laD_yes hlt hd, List.length_append, evCh_snoc]; rfl)
        · have p67 := h67
          try simp only [decide_eq_true_eq, decide_eq_false_iff_not, Bool.not_eq_true', Bool.not_eq_false', Bool.and_eq_true, Bool.or_eq_true, Bool.or_eq_false_iff] at p67
          have hd : ¬ l[i].day > day := by omega
          refine c_region ?_
          refine o_v rfl (v_move rfl) ?_
          refine o_v rfl (OV.cast (u := .int .i64 (((upD (l.take i) day).length + 1 : Nat) : Int)) (v_add rfl rfl ⟨by omega, by omega⟩) (congrArg (Value.int .i64) (by omega))) ?_
          refine o_v rfl (v_assign rfl) ?_
          refine o_nil ?_
          refine q_block ?_
          refine q_then ?_
          refine c_region ?_
          refine o_v rfl (v_move rfl) ?_
          refine o_v rfl (v_add rfl rfl ⟨by omega, by omega⟩) ?_
          refine o_v rfl (v_assign rfl) ?_
          refine o_nil ?_
          refine q_then ?_
          exact q_next2 (i + 1) (v14) (by omega) (by omega) rfl ⟨rfl, rfl, rfl, rfl, rfl, rfl, rfl, rfl, rfl, congrArg (fun z : Int => some (Value.int .i64 z)) (by first | rw [upD_no hlt hd] | (rw [upD_yes hlt hd])), rfl, trivial⟩ (by rw [laD_no hlt hd])
      · have p58 := h58
        try simp only [decide_eq_true_eq, decide_eq_false_iff_not, Bool.not_eq_true', Bool.not_eq_false', Bool.and_eq_true, Bool.or_eq_true, Bool.or_eq_false_iff] at p58
        obtain rfl : i = l.length := by omega
        rw [List.take_length]
        have hsl := sortF_len (laD l day)
        have hal : (laD l day).length ≤ l.length := List.length_filter_le _ _
        have hul : (upD l day).length ≤ l.length := List.length_filter_le _ _
        refine c_exit ?_
        refine q_then_exit ?_
        refine q_then_exit ?_
        refine q_block_eq ?_
        refine q_then ?_
        refine c_seq ?_
        refine c_region ?_
        refine o_v rfl (v_move rfl) ?_
        refine o_cons ?_
        refine sx_pubrow (l := laD l day) rfl rfl ((evCh_flat _).flat) (fun Ip jp Rp => ?_)
        have hvc := hvc.le jp
        have hv0 := hv0.le jp
        have hA := hA.le jp
        have hw8 := hw8.le jp
        have hw11 := hw11.le jp
        refine o_call (cSort _ _ (laD l day) Rp (by omega)) rfl rfl (fun v78 I78 j78 q78 => ?_)
        have hvc := hvc.le j78
        have hw8 := hw8.le j78
        have hw11 := hw11.le j78
        obtain ⟨A14, c14, rfl, hA14, _, _⟩ := q78
        refine o_v rfl (v_assign rfl) ?_
        refine o_nil ?_
        refine q_then ?_
        refine c_seq ?_
        refine c_seq ?_
        refine c_region ?_
        refine o_v rfl (v_assign rfl) ?_
        refine o_nil ?_
        refine q_then ?_
        refine c_block ?_
        refine c_loop4 (0) ((atF11 c l day).1) (.slice A8 (atF11 c l day).1.length c8) (I78) (fun i st w8 J => J)
          (fun i st w8 J => [(3, .pointer (some ⟨g3, 0, none⟩)), (7, .bool true), (8, .pointer (some ⟨g8, 0, none⟩)), (11, .pointer (some ⟨g11, 0, none⟩)), (12, .int .i64 (runF c l).2.1), (13, .int .i64 (runF c l).2.2), (14, .slice A14 (sortF (laD l day)).length c14), (15, .int .i64 (((upD l day).length : Nat) : Int)), (17, .int .i64 ((i : Nat) : Int))])
          (fun i st w8 J => [.blk g8 40 [w8], .blk g11 40 [.slice A11 (runF c l).1.length c11], .blk g3 36 [vc]])
          (fun i st w8 J => i ≤ (sortF (laD l day)).length ∧ ILe I78 J ∧ RdS J w8 st ∧ SmF st ∧ runF c l = runGo c st (((upD l day).length : Nat) + (i : Nat)) ((sortF (laD l day)).drop i))
          (fun i st w8 J => (sortF (laD l day)).length - i) ⟨Nat.zero_le _, ILe.refl _, hw8, run_sm (fun e he => hse e (List.mem_filter.1 he).1), by rw [hro]; simp⟩ rfl ⟨rfl, rfl, rfl, rfl, rfl, rfl, rfl, rfl, rfl, trivial⟩ rfl ?_
        intro i st w8 J ⟨hi, hJ, hw8, hsm, hgo⟩
        have hvc := hvc.le hJ
        have hA14 := hA14.le hJ
        have hw11 := hw11.le hJ
        refine c_seq ?_
        refine c_seq ?_
        refine c_region ?_
        refine o_v rfl (v_move rfl) ?_
        refine o_v rfl (v_move rfl) ?_
        refine o_v rfl (v_len_slice T.und_22 rfl) ?_
        refine o_v rfl (v_lss rfl rfl) ?_
        refine o_nil ?_
        refine q_then ?_
        refine c_cond rfl (fun h82 => ?_) (fun h82 => ?_)
        · have p82 := h82
          try simp only [decide_eq_true_eq, decide_eq_false_iff_not, Bool.not_eq_true', Bool.not_eq_false', Bool.and_eq_true, Bool.or_eq_true, Bool.or_eq_false_iff] at p82
          have hlt : i < (sortF (laD l day)).length := by omega
          have hsx : SmE (sortF (laD l day))[i] := hse _ (List.mem_filter.1 (sortF_mem.1 (List.getElem_mem hlt))).1
          rw [List.drop_eq_getElem_cons hlt] at hgo
          refine c_skip ?_
          refine q_then ?_
          refine c_seq ?_
          refine c_block ?_
          refine c_seq ?_
          refine sx_knowI (fun hE20 hf20 => ?_)
          refine d_startH T.mixed ?_
          refine d_takeC 0 rfl rfl (by kernel_rfl) (by kernel_rfl) (by kernel_rfl) rfl (fun _ m => m.keeps (.refl _)) (y_v rfl (v_ldw m2 T.ty_36 rfl rfl)) ?_
          refine d_takeC 1 rfl rfl (by kernel_rfl) (by kernel_rfl) (by kernel_rfl) rfl (fun _ m => m.keeps (.refl _)) (y_v rfl (v_ldw m0 T.ty_40 rfl rfl)) ?_
          refine d_takeC 2 rfl rfl (by kernel_rfl) (by kernel_rfl) (by kernel_rfl) rfl (fun _ m => m.keeps (.refl _)) (y_v rfl (v_move rfl)) ?_
          refine d_takeC 3 rfl rfl (by kernel_rfl) (by kernel_rfl) (by kernel_rfl) rfl (fun _ m => m.keeps (.refl _)) (y_v rfl (v_move rfl)) ?_
          obtain ⟨b90, o90, w90, e90, c90, r90⟩ := RdA.at_ hA14 (i := i) hlt
          obtain rfl := r90
          refine d_takeC 4 rfl rfl (by kernel_rfl) (by kernel_rfl) (by kernel_rfl) rfl (fun _ m => m.keeps (.refl _)) (y_v rfl (v_idx T.elt_22 rfl rfl e90 (i) (by omega) hlt)) ?_
          refine d_takeC 5 rfl rfl (by kernel_rfl) (by kernel_rfl) (by kernel_rfl) rfl (fun _ m => m.keeps (.refl _)) (y_v rfl (v_ldIa T.ty_32 rfl c90 rfl)) ?_
          refine d_two 6 10 (by kernel_rfl) rfl rfl ?_ ?_
          · refine o_call (flApply _ vc c hvc hsc w8 st hw8 hsm _ hsx) rfl rfl (fun v92 I92 j92 q92 => ?_)
            have hw11 := hw11.le j92
            obtain ⟨w18, rfl, hw18⟩ := q92
            refine d_on (fun _ m => m.keepsI (.refl _) (j92) hE20 hf20) ?_
            refine d_takeC 7 rfl rfl (by kernel_rfl) (by kernel_rfl) (by kernel_rfl) rfl (fun _ m => m.keepsI (.refl _) (j92) hE20 hf20) (y_v rfl (v_move rfl)) ?_
            refine d_takeC 8 rfl rfl (by kernel_rfl) (by kernel_rfl) (by kernel_rfl) rfl (fun _ m => m.keepsI (.refl _) (j92) hE20 hf20) (y_v rfl (v_extract rfl rfl)) ?_
            refine d_takeC 9 rfl rfl (by kernel_rfl) (by kernel_rfl) (by kernel_rfl) rfl (fun _ m => m.keepsI (.refl _) (j92) hE20 hf20) (y_v rfl (v_extract rfl rfl)) ?_
            refine d_one 10 (by kernel_rfl) rfl ?_
            refine o_alloc T.zero_40 rfl (fun g18 => ?_)
            refine d_on (fun _ m => m.keepsI (.cons _ (.refl _)) (j92) hE20 hf20) ?_
            refine d_one 11 (by kernel_rfl) rfl ?_
            refine o_stw _ T.ty_40 rfl rfl rfl rfl rfl (by simp [hw18.one]) ?_
            refine d_on (fun _ m => m.keepsI (.cons _ (.refl _)) (j92) hE20 hf20) ?_
            refine d_takeC 12 rfl rfl (by kernel_rfl) (by kernel_rfl) (by kernel_rfl) rfl (fun _ m => m.keepsI (.cons _ (.refl _)) (j92) hE20 hf20) (y_v rfl (v_assign rfl)) ?_
            refine d_done (by kernel_rfl) ?_
            refine q_then ?_
            refine c_seq ?_
            refine c_seq ?_
            refine c_region ?_
            refine o_v rfl (v_move rfl) ?_
            refine o_v rfl (v_neq rfl rfl) ?_
            refine o_nil ?_
            refine q_then ?_
            refine c_cond rfl (fun h96 => ?_) (fun h96 => ?_)
            · have p96 := h96
              try simp only [decide_eq_true_eq, decide_eq_false_iff_not, Bool.not_eq_true', Bool.not_eq_false', Bool.and_eq_true, Bool.or_eq_true, Bool.or_eq_false_iff] at p96
              have hx0 : (applyF c st (sortF (laD l day))[i]).2 ≠ 0 := by simpa using h96
              have hr : runF c l = ([], (((upD l day).length : Nat) : Int) + ((i : Nat) : Int), (applyF c st (sortF (laD l day))[i]).2) := by rw [hgo]; simp only [runGo, if_neg hx0]
              refine c_seq ?_
              refine c_region ?_
              refine o_v rfl (v_move rfl) ?_
              refine o_v rfl (v_move rfl) ?_
              refine o_cons (o_yes rfl rfl rfl (o_val rfl (v_move rfl) ?_))
              refine o_cons (o_yes rfl rfl rfl (o_val rfl (v_move rfl) ?_))
              refine o_cons (o_yes rfl rfl rfl (o_val rfl (OV.cast (u := .bool true) (v_eql rfl rfl) (congrArg Value.bool (decide_eq_true (by rw [hr])))) ?_))
              refine o_v rfl (v_and_t rfl rfl rfl) ?_
              refine o_v rfl (v_move rfl) ?_
              refine o_cons (o_yes rfl rfl rfl (o_val rfl (v_move rfl) ?_))
              refine o_cons (o_yes rfl rfl rfl (o_val rfl (v_move rfl) ?_))
              refine o_cons (o_yes rfl rfl rfl (o_val rfl (v_move rfl) ?_))
              refine o_cons (o_yes rfl rfl rfl (o_val rfl (v_add rfl rfl ⟨by omega, by omega⟩) ?_))
              refine o_cons (o_yes rfl rfl rfl (o_val rfl (OV.cast (u := .bool true) (v_eql rfl rfl) (congrArg Value.bool (decide_eq_true (by rw [hr])))) ?_))
              refine o_v rfl (v_and_t rfl rfl rfl) ?_
              refine o_v rfl (v_move rfl) ?_
              refine o_cons (o_yes rfl rfl rfl (o_val rfl (v_fieldAddr T.fld_40_0 rfl) ?_))
              refine o_cons (o_yes rfl rfl rfl (o_val rfl (v_ld m2 T.ty_38 rfl rfl) ?_))
              refine o_cons (o_yes rfl rfl rfl (o_val rfl (v_len_slice T.und_38 rfl) ?_))
              refine o_cons (o_yes rfl rfl rfl (o_val rfl (OV.cast (u := .bool true) (v_eql rfl rfl) (congrArg Value.bool (decide_eq_true (by rw [hr]; rfl)))) ?_))
              refine o_v rfl (v_and_t rfl rfl rfl) ?_
              refine o_v rfl (v_assign rfl) ?_
              refine o_nil ?_
              refine q_then ?_
              refine c_ret ?_
              refine q_then_ret ?_
              refine q_block_ret ?_
              refine q_then_ret ?_
              refine q_then_ret ?_
              refine q_block_ret ?_
              refine q_then_ret ?_
              refine fin1 rfl rfl ?_
              exact q_vI rfl
            · have p96 := h96
              try simp only [decide_eq_true_eq, decide_eq_false_iff_not, Bool.not_eq_true', Bool.not_eq_false', Bool.and_eq_true, Bool.or_eq_true, Bool.or_eq_false_iff] at p96
              have hx0 : (applyF c st (sortF (laD l day))[i]).2 = 0 := by simpa using h96
              refine c_skip ?_
              refine q_then ?_
              refine c_region ?_
              refine o_v rfl (v_ldw m0 T.ty_40 rfl rfl) ?_
              refine o_cons ?_
              refine bring1 ?_
              refine o_stw _ T.ty_40 rfl rfl rfl rfl rfl (by simp [hw18.one]) ?_
              refine o_nil ?_
              refine q_block ?_
              refine q_then ?_
              refine c_region ?_
              refine o_v rfl (v_move rfl) ?_
              refine o_v rfl (v_add rfl rfl ⟨by omega, by omega⟩) ?_
              refine o_v rfl (v_assign rfl) ?_
              refine o_nil ?_
              refine q_then ?_
              refine bring1 ?_
              refine sx_drop ?_
              exact q_next4 (i + 1) ((applyF c st (sortF (laD l day))[i]).1) (w18) (I92) ⟨by omega, hJ.trans j92, hw18, applyF_sm hsm hsx, by rw [hgo]; simp only [runGo, if_pos hx0]; congr 1 <;> omega⟩ (by omega) rfl ⟨rfl, rfl, rfl, rfl, rfl, rfl, rfl, rfl, rfl, trivial⟩ rfl
          · refine o_alloc T.zero_40 rfl (fun g18 => ?_)
            refine d_on (fun _ m => m.keeps (.cons _ (.refl _))) ?_
            refine d_one 6 (by kernel_rfl) rfl ?_
            refine o_call (flApply _ vc c hvc hsc w8 st hw8 hsm _ hsx) rfl rfl (fun v92 I92 j92 q92 => ?_)
            have hw11 := hw11.le j92
            obtain ⟨w18, rfl, hw18⟩ := q92
            refine d_on (fun _ m => m.keepsI (.cons _ (.refl _)) (j92) hE20 hf20) ?_
            refine d_takeC 7 rfl rfl (by kernel_rfl) (by kernel_rfl) (by kernel_rfl) rfl (fun _ m => m.keepsI (.cons _ (.refl _)) (j92) hE20 hf20) (y_v rfl (v_move rfl)) ?_
            refine d_takeC 8 rfl rfl (by kernel_rfl) (by kernel_rfl) (by kernel_rfl) rfl (fun _ m => m.keepsI (.cons _ (.refl _)) (j92) hE20 hf20) (y_v rfl (v_extract rfl rfl)) ?_
            refine d_takeC 9 rfl rfl (by kernel_rfl) (by kernel_rfl) (by kernel_rfl) rfl (fun _ m => m.keepsI (.cons _ (.refl _)) (j92) hE20 hf20) (y_v rfl (v_extract rfl rfl)) ?_
            refine d_one 11 (by kernel_rfl) rfl ?_
            refine o_stw _ T.ty_40 rfl rfl rfl rfl rfl (by simp [hw18.one]) ?_
            refine d_on (fun _ m => m.keepsI (.cons _ (.refl _)) (j92) hE20 hf20) ?_
            refine d_takeC 12 rfl rfl (by kernel_rfl) (by kernel_rfl) (by kernel_rfl) rfl (fun _ m => m.keepsI (.cons _ (.refl _)) (j92) hE20 hf20) (y_v rfl (v_assign rfl)) ?_
            refine d_done (by kernel_rfl) ?_
            refine q_then ?_
            refine c_seq ?_
            refine c_seq ?_
            refine c_region ?_
            refine o_v rfl (v_move rfl) ?_
            refine o_v rfl (v_neq rfl rfl) ?_
            refine o_nil ?_
            refine q_then ?_
            refine c_cond rfl (fun h96 => ?_) (fun h96 => ?_)
            · have p96 := h96
              try simp only [decide_eq_true_eq, decide_eq_false_iff_not, Bool.not_eq_true', Bool.not_eq_false', Bool.and_eq_true, Bool.or_eq_true, Bool.or_eq_false_iff] at p96
              have hx0 : (applyF c st (sortF (laD l day))[i]).2 ≠ 0 := by simpa using h96
              have hr : runF c l = ([], (((upD l day).length : Nat) : Int) + ((i : Nat) : Int), (applyF c st (sortF (laD l day))[i]).2) := by rw [hgo]; simp only [runGo, if_neg hx0]
              refine c_seq ?_
              refine c_region ?_
              refine o_v rfl (v_move rfl) ?_
              refine o_v rfl (v_move rfl) ?_
              refine o_cons (o_yes rfl rfl rfl (o_val rfl (v_move rfl) ?_))
              refine o_cons (o_yes rfl rfl rfl (o_val rfl (v_move rfl) ?_))
              refine o_cons (o_yes rfl rfl rfl (o_val rfl (OV.cast (u := .bool true) (v_eql rfl rfl) (congrArg Value.bool (decide_eq_true (by rw [hr])))) ?_))
              refine o_v rfl (v_and_t rfl rfl rfl) ?_
              refine o_v rfl (v_move rfl) ?_
              refine o_cons (o_yes rfl rfl rfl (o_val rfl (v_move rfl) ?_))
              refine o_cons (o_yes rfl rfl rfl (o_val rfl (v_move rfl) ?_))
              refine o_cons (o_yes rfl rfl rfl (o_val rfl (v_move rfl) ?_))
              refine o_cons (o_yes rfl rfl rfl (o_val rfl (v_add rfl rfl ⟨by omega, by omega⟩) ?_))
              refine o_cons (o_yes rfl rfl rfl (o_val rfl (OV.cast (u := .bool true) (v_eql rfl rfl) (congrArg Value.bool (decide_eq_true (by rw [hr])))) ?_))
              refine o_v rfl (v_and_t rfl rfl rfl) ?_
              refine o_v rfl (v_move rfl) ?_
              refine o_cons (o_yes rfl rfl rfl (o_val rfl (v_fieldAddr T.fld_40_0 rfl) ?_))
              refine o_cons (o_yes rfl rfl rfl (o_val rfl (v_ld m2 T.ty_38 rfl rfl) ?_))
              refine o_cons (o_yes rfl rfl rfl (o_val rfl (v_len_slice T.und_38 rfl) ?_))
              refine o_cons (o_yes rfl rfl rfl (o_val rfl (OV.cast (u := .bool true) (v_eql rfl rfl) (congrArg Value.bool (decide_eq_true (by rw [hr]; rfl)))) ?_))
              refine o_v rfl (v_and_t rfl rfl rfl) ?_
              refine o_v rfl (v_assign rfl) ?_
              refine o_nil ?_
              refine q_then ?_
              refine c_ret ?_
              refine q_then_ret ?_
              refine q_block_ret ?_
              refine q_then_ret ?_
              refine q_then_ret ?_
              refine q_block_ret ?_
              refine q_then_ret ?_
              refine fin1 rfl rfl ?_
              exact q_vI rfl
            · have p96 := h96
              try simp only [decide_eq_true_eq, decide_eq_false_iff_not, Bool.not_eq_true', Bool.not_eq_false', Bool.and_eq_true, Bool.or_eq_true, Bool.or_eq_false_iff] at p96
              have hx0 : (applyF c st (sortF (laD l day))[i]).2 = 0 := by simpa using h96
              refine c_skip ?_
              refine q_then ?_
              refine c_region ?_
              refine o_v rfl (v_ldw m0 T.ty_40 rfl rfl) ?_
              refine o_cons ?_
              refine bring1 ?_
              refine o_stw _ T.ty_40 rfl rfl rfl rfl rfl (by simp [hw18.one]) ?_
              refine o_nil ?_
              refine q_block ?_
              refine q_then ?_
              refine c_region ?_
              refine o_v rfl (v_move rfl) ?_
              refine o_v rfl (v_add rfl rfl ⟨by omega, by omega⟩) ?_
              refine o_v rfl (v_assign rfl) ?_
              refine o_nil ?_
              refine q_then ?_
              refine bring1 ?_
              refine sx_drop ?_
              exact q_next4 (i + 1) ((applyF c st (sortF (laD l day))[i]).1) (w18) (I92) ⟨by omega, hJ.trans j92, hw18, applyF_sm hsm hsx, by rw [hgo]; simp only [runGo, if_pos hx0]; congr 1 <;> omega⟩ (by omega) rfl ⟨rfl, rfl, rfl, rfl, rfl, rfl, rfl, rfl, rfl, trivial⟩ rfl
        · have p82 := h82
          try simp only [decide_eq_true_eq, decide_eq_false_iff_not, Bool.not_eq_true', Bool.not_eq_false', Bool.and_eq_true, Bool.or_eq_true, Bool.or_eq_false_iff] at p82
          have hr : runF c l = (st, -1, 0) := by rw [hgo, List.drop_eq_nil_of_le (by omega)]; rfl
          refine c_exit ?_
          refine q_then_exit ?_
          refine q_then_exit ?_
          refine q_block_eq ?_
          refine q_then ?_
          refine c_seq ?_
          refine c_region ?_
          refine o_v rfl (v_move rfl) ?_
          refine o_v rfl (v_move rfl) ?_
          refine o_cons (o_yes rfl rfl rfl (o_val rfl (v_move rfl) ?_))
          refine o_cons (o_yes rfl rfl rfl (o_val rfl (OV.cast (u := .bool true) (v_eql rfl rfl) (congrArg Value.bool (decide_eq_true (by rw [hr])))) ?_))
          refine o_v rfl (v_and_t rfl rfl rfl) ?_
          refine o_v rfl (v_move rfl) ?_
          refine o_cons (o_yes rfl rfl rfl (o_val rfl (v_move rfl) ?_))
          refine o_cons (o_yes rfl rfl rfl (o_val rfl (OV.cast (u := .bool true) (v_eql rfl rfl) (congrArg Value.bool (decide_eq_true (by rw [hr])))) ?_))
          refine o_v rfl (v_and_t rfl rfl rfl) ?_
          refine o_v rfl (v_move rfl) ?_
          refine o_cons (o_yes rfl rfl rfl (o_val rfl (v_ldw m1 T.ty_40 rfl rfl) ?_))
          refine o_cons (o_yes rfl rfl rfl (o_val rfl (v_ldw m0 T.ty_40 rfl rfl) ?_))
          refine o_cons ?_
          refine o_yes rfl rfl rfl (o_callV (sameSt_t _ _ _ hw11 _ _ hw8 (by rw [hr])) rfl rfl ?_)
          refine o_v rfl (v_and_t rfl rfl rfl) ?_
          refine o_v rfl (v_assign rfl) ?_
          refine o_nil ?_
          refine q_then ?_
          refine c_ret ?_
          refine fin1 rfl rfl ?_
          exact q_vI rfl

end Go.Proofs.Ytechmdlbpbpkdaa
