/- Walks, printed by a program out of the code of the functions: each theorem is a contract of one function. -/
import Derived.Test.YtechmdlbpbpkdaaW13
import Derived.Test.YtechmdlbpbpkdaaM14
import Derived.Test.YtechmdlbpbpkdaaSxOpen
namespace Go.Proofs.Ytechmdlbpbpkdaa
open Go Go.Sx
set_option linter.all false
set_option maxRecDepth 20000
set_option maxHeartbeats 4000000
theorem lawFails (I : IMap) (vc : Value) (c : List Kind) (hvc : RdS I vc c) (hoc : ∀ x ∈ c, OkKd x) (v : Value) (l : List Evt) (hv : RdS I v l) (hok : ∀ x ∈ l, OkE x) :
    FnV Try.prog 7 #[.agg #[vc], v] I (.bool true) := by
  have hv0 := hv
  obtain ⟨A0, c0, rfl, hA, hc, hm⟩ := hv
  refine enter Try.func7 Try.call7 rfl Try.ntmps7 rfl (fun w0 => ?_)
  refine c_seq ?_
  refine c_region ?_
  refine o_cons ?_
  refine o_box _ rfl rfl rfl (fun g2 => ?_)
  refine o_v rfl (v_assign rfl) ?_
  refine o_nil ?_
  refine q_then ?_
  refine c_seq ?_
  refine c_region ?_
  refine o_cons ?_
  refine o_callV (head11 _) rfl rfl ?_
  refine o_v rfl (v_assign rfl) ?_
  refine o_nil ?_
  refine q_then ?_
  refine c_seq ?_
  refine c_seq ?_
  refine c_region ?_
  refine o_v rfl (v_ldw m0 T.ty_36 rfl rfl) ?_
  refine o_v rfl (v_move rfl) ?_
  refine o_cons ?_
  refine o_callV (few11 _ vc c hvc _ l hv0) rfl rfl ?_
  refine o_v rfl (v_not rfl) ?_
  refine o_v rfl (v_move rfl) ?_
  refine sx_split 20 rfl (fun h20 => ?_) (fun h20 => ?_)
  · have p20 := h20
    try simp only [decide_eq_true_eq, decide_eq_false_iff_not, Bool.not_eq_true', Bool.not_eq_false', Bool.and_eq_true, Bool.or_eq_true, Bool.or_eq_false_iff] at p20
    refine o_cons (o_no rfl rfl h20 rfl ?_)
    refine o_cons (o_no rfl rfl h20 rfl ?_)
    refine o_cons (o_no rfl rfl h20 rfl ?_)
    refine o_v rfl (v_or_t h20 rfl) ?_
    refine o_nil ?_
    refine q_then ?_
    refine c_true rfl ?_
    refine c_seq ?_
    refine c_region ?_
    refine o_v rfl (v_move rfl) ?_
    refine o_v rfl (v_assign rfl) ?_
    refine o_nil ?_
    refine q_then ?_
    refine c_ret ?_
    refine q_then_ret ?_
    refine fin1 rfl rfl ?_
    exact q_vI rfl
  · have p20 := h20
    try simp only [decide_eq_true_eq, decide_eq_false_iff_not, Bool.not_eq_true', Bool.not_eq_false', Bool.and_eq_true, Bool.or_eq_true, Bool.or_eq_false_iff] at p20
    have hf : fewC c = true ∧ fewE l 60 = true := by simpa using h20
    obtain ⟨hse, hl⟩ := fewE_sm hf.2
    have hsc := fewC_sm hf.1
    have hl6 : l.length ≤ 1000000 := by omega
    refine o_cons (o_yes rfl rfl h20 (o_val rfl (v_ldw m0 T.ty_36 rfl rfl) ?_))
    refine o_cons ?_
    refine o_yes rfl rfl h20 (o_callV (refValid _ vc c hvc hsc) rfl rfl ?_)
    refine o_cons (o_yes rfl rfl h20 (o_val rfl (v_not rfl) ?_))
    refine o_v rfl (v_or_f h20 rfl rfl) ?_
    refine o_nil ?_
    refine q_then ?_
    refine c_cond rfl (fun h24 => ?_) (fun h24 => ?_)
    · have p24 := h24
      try simp only [decide_eq_true_eq, decide_eq_false_iff_not, Bool.not_eq_true', Bool.not_eq_false', Bool.and_eq_true, Bool.or_eq_true, Bool.or_eq_false_iff] at p24
      refine c_seq ?_
      refine c_region ?_
      refine o_v rfl (v_move rfl) ?_
      refine o_v rfl (v_assign rfl) ?_
      refine o_nil ?_
      refine q_then ?_
      refine c_ret ?_
      refine q_then_ret ?_
      refine fin1 rfl rfl ?_
      exact q_vI rfl
    · have p24 := h24
      try simp only [decide_eq_true_eq, decide_eq_false_iff_not, Bool.not_eq_true', Bool.not_eq_false', Bool.and_eq_true, Bool.or_eq_true, Bool.or_eq_false_iff] at p24
      have hV : validC c = true := by rw [valid_same]; simpa using h24
      refine c_skip ?_
      refine q_then ?_
      refine c_seq ?_
      refine c_region ?_
      refine o_v rfl (v_ldw m0 T.ty_36 rfl rfl) ?_
      refine o_v rfl (v_move rfl) ?_
      refine o_cons ?_
      refine o_call (cRun _ vc c hvc hsc _ l hv0 hl6 hse) rfl rfl (fun v29 I29 j29 q29 => ?_)
      have hvc := hvc.le j29
      have hv0 := hv0.le j29
      have hA := hA.le j29
      obtain ⟨w6, rfl, hw6⟩ := q29
      refine o_v rfl (v_move rfl) ?_
      refine o_v rfl (v_extract rfl rfl) ?_
      refine o_v rfl (v_extract rfl rfl) ?_
      refine o_v rfl (v_extract rfl rfl) ?_
      refine o_cons ?_
      refine o_alloc T.zero_40 rfl (fun g6 => ?_)
      refine o_cons ?_
      refine o_stw _ T.ty_40 rfl rfl rfl rfl rfl (by simp [hw6.one]) ?_
      refine o_v rfl (v_assign rfl) ?_
      refine o_v rfl (v_assign rfl) ?_
      refine o_nil ?_
      refine q_then ?_
      refine c_seq ?_
      refine c_region ?_
      refine o_v rfl (v_move rfl) ?_
      refine o_cons ?_
      refine o_call (cSort _ _ l hv0 hl6) rfl rfl (fun v34 I34 j34 q34 => ?_)
      have hvc := hvc.le j34
      have q34s := q34
      obtain ⟨A34, c34, rfl, hA34, hc34, hm34⟩ := q34
      have hsl := sortF_len l
      refine o_v rfl (v_assign rfl) ?_
      refine o_nil ?_
      refine q_then ?_
      refine c_seq ?_
      refine c_seq ?_
      refine c_region ?_
      refine o_v rfl (v_move rfl) ?_
      refine o_v rfl (v_eql rfl rfl) ?_
      refine o_nil ?_
      refine q_then ?_
      refine c_cond rfl (fun h36 => ?_) (fun h36 => ?_)
      · have p36 := h36
        try simp only [decide_eq_true_eq, decide_eq_false_iff_not, Bool.not_eq_true', Bool.not_eq_false', Bool.and_eq_true, Bool.or_eq_true, Bool.or_eq_false_iff] at p36
        have hm1 := run_none (c := c) (l := l) (by simpa using h36)
        refine c_seq ?_
        refine c_region ?_
        refine o_v rfl (v_move rfl) ?_
        refine o_v rfl (v_move rfl) ?_
        refine o_cons (o_yes rfl rfl rfl (o_val rfl (v_move rfl) ?_))
        refine o_cons (o_yes rfl rfl rfl (o_val rfl (OV.cast (u := .bool true) (v_eql rfl rfl) (congrArg Value.bool (decide_eq_true (hm1)))) ?_))
        refine o_v rfl (v_and_t rfl rfl rfl) ?_
        refine o_v rfl (v_assign rfl) ?_
        refine o_nil ?_
        refine q_then ?_
        refine c_ret ?_
        refine q_then_ret ?_
        refine fin1 rfl rfl ?_
        exact q_vI rfl
      · have p36 := h36
        try simp only [decide_eq_true_eq, decide_eq_false_iff_not, Bool.not_eq_true', Bool.not_eq_false', Bool.and_eq_true, Bool.or_eq_true, Bool.or_eq_false_iff] at p36
        obtain ⟨k, hk, hk1, hk2, hk3⟩ := run_stops (c := c) (l := l) hV (by simpa using h36)
        refine c_skip ?_
        refine q_then ?_
        refine c_seq ?_
        refine c_seq ?_
        refine c_region ?_
        refine o_v rfl (v_move rfl) ?_
        refine o_v rfl (OV.cast (u := .bool false) (v_lss rfl rfl) (congrArg Value.bool (decide_eq_false (by omega)))) ?_
        refine o_v rfl (v_move rfl) ?_
        refine o_cons (o_yes rfl rfl rfl (o_val rfl (v_move rfl) ?_))
        refine o_cons (o_yes rfl rfl rfl (o_val rfl (v_move rfl) ?_))
        refine o_cons (o_yes rfl rfl rfl (o_val rfl (v_len_slice T.und_22 rfl) ?_))
        refine o_cons (o_yes rfl rfl rfl (o_val rfl (OV.cast (u := .bool false) (v_geq rfl rfl) (congrArg Value.bool (decide_eq_false (by omega)))) ?_))
        refine o_v rfl (v_or_f rfl rfl rfl) ?_
        refine o_nil ?_
        refine q_then ?_
        refine c_false rfl ?_
        refine c_skip ?_
        refine q_then ?_
        refine c_seq ?_
        refine sx_knowI (fun hE10 hf10 => ?_)
        refine d_startH T.mixed ?_
        refine d_takeC 0 rfl rfl (by kernel_rfl) (by kernel_rfl) (by kernel_rfl) rfl (fun _ m => m.keeps (.refl _)) (y_v rfl (v_ldw m1 T.ty_36 rfl rfl)) ?_
        refine d_takeC 1 rfl rfl (by kernel_rfl) (by kernel_rfl) (by kernel_rfl) rfl (fun _ m => m.keeps (.refl _)) (y_v rfl (v_move rfl)) ?_
        refine d_takeC 2 rfl rfl (by kernel_rfl) (by kernel_rfl) (by kernel_rfl) rfl (fun _ m => m.keeps (.refl _)) (y_v rfl (v_move rfl)) ?_
        refine d_takeC 3 rfl rfl (by kernel_rfl) (by kernel_rfl) (by kernel_rfl) rfl (fun _ m => m.keeps (.refl _)) (y_v rfl (v_slice_hi T.elt_22 rfl rfl k hk1 (by omega))) ?_
        refine d_two 4 9 (by kernel_rfl) rfl rfl ?_ ?_
        · refine o_call (cRun _ vc c hvc hsc _ ((sortF l).take k) (q34s.take k (by omega)) (by simp; omega) (fun e he => hse e (sortF_mem.1 (List.mem_of_mem_take he)))) rfl rfl (fun v55 I55 j55 q55 => ?_)
          have hvc := hvc.le j55
          have hA34 := hA34.le j55
          obtain ⟨w10, rfl, hw10⟩ := q55
          refine d_on (fun _ m => m.keepsI (.refl _) (j55) hE10 hf10) ?_
          refine d_takeC 5 rfl rfl (by kernel_rfl) (by kernel_rfl) (by kernel_rfl) rfl (fun _ m => m.keepsI (.refl _) (j55) hE10 hf10) (y_v rfl (v_move rfl)) ?_
          refine d_takeC 6 rfl rfl (by kernel_rfl) (by kernel_rfl) (by kernel_rfl) rfl (fun _ m => m.keepsI (.refl _) (j55) hE10 hf10) (y_v rfl (v_extract rfl rfl)) ?_
          refine d_takeC 7 rfl rfl (by kernel_rfl) (by kernel_rfl) (by kernel_rfl) rfl (fun _ m => m.keepsI (.refl _) (j55) hE10 hf10) (y_v rfl (v_extract rfl rfl)) ?_
          refine d_takeC 8 rfl rfl (by kernel_rfl) (by kernel_rfl) (by kernel_rfl) rfl (fun _ m => m.keepsI (.refl _) (j55) hE10 hf10) (y_v rfl (v_extract rfl rfl)) ?_
          refine d_one 9 (by kernel_rfl) rfl ?_
          refine o_alloc T.zero_40 rfl (fun g10 => ?_)
          refine d_on (fun _ m => m.keepsI (.cons _ (.refl _)) (j55) hE10 hf10) ?_
          refine d_one 10 (by kernel_rfl) rfl ?_
          refine o_stw _ T.ty_40 rfl rfl rfl rfl rfl (by simp [hw10.one]) ?_
          refine d_on (fun _ m => m.keepsI (.cons _ (.refl _)) (j55) hE10 hf10) ?_
          refine d_takeC 11 rfl rfl (by kernel_rfl) (by kernel_rfl) (by kernel_rfl) rfl (fun _ m => m.keepsI (.cons _ (.refl _)) (j55) hE10 hf10) (y_v rfl (v_assign rfl)) ?_
          refine d_takeC 12 rfl rfl (by kernel_rfl) (by kernel_rfl) (by kernel_rfl) rfl (fun _ m => m.keepsI (.cons _ (.refl _)) (j55) hE10 hf10) (y_v rfl (v_assign rfl)) ?_
          refine d_done (by kernel_rfl) ?_
          refine q_then ?_
          refine c_seq ?_
          refine sx_knowI (fun hE11 hf11 => ?_)
          refine d_startH T.mixed ?_
          refine d_takeC 0 rfl rfl (by kernel_rfl) (by kernel_rfl) (by kernel_rfl) rfl (fun _ m => m.keeps (.refl _)) (y_v rfl (v_ldw m2 T.ty_36 rfl rfl)) ?_
          refine d_takeC 1 rfl rfl (by kernel_rfl) (by kernel_rfl) (by kernel_rfl) rfl (fun _ m => m.keeps (.refl _)) (y_v rfl (v_ldw m0 T.ty_40 rfl rfl)) ?_
          refine d_takeC 2 rfl rfl (by kernel_rfl) (by kernel_rfl) (by kernel_rfl) rfl (fun _ m => m.keeps (.refl _)) (y_v rfl (v_move rfl)) ?_
          refine d_takeC 3 rfl rfl (by kernel_rfl) (by kernel_rfl) (by kernel_rfl) rfl (fun _ m => m.keeps (.refl _)) (y_v rfl (v_move rfl)) ?_
          obtain ⟨b64, o64, w64, e64, c64, r64⟩ := RdA.at_ hA34 (i := k) hk
          obtain rfl := r64
          refine d_takeC 4 rfl rfl (by kernel_rfl) (by kernel_rfl) (by kernel_rfl) rfl (fun _ m => m.keeps (.refl _)) (y_v rfl (v_idx T.elt_22 rfl rfl e64 k hk1 hk)) ?_
          refine d_takeC 5 rfl rfl (by kernel_rfl) (by kernel_rfl) (by kernel_rfl) rfl (fun _ m => m.keeps (.refl _)) (y_v rfl (v_ldIa T.ty_32 rfl c64 rfl)) ?_
          refine d_two 6 10 (by kernel_rfl) rfl rfl ?_ ?_
          · refine o_call (flApply _ vc c hvc hsc _ _ hw10 (run_sm fun e he => hse e (sortF_mem.1 (List.mem_of_mem_take he))) _ (hse _ (sortF_mem.1 (List.getElem_mem hk)))) rfl rfl (fun v66 I66 j66 q66 => ?_)
            obtain ⟨w13, rfl, hw13⟩ := q66
            refine d_on (fun _ m => m.keepsI (.refl _) (j66) hE11 hf11) ?_
            refine d_takeC 7 rfl rfl (by kernel_rfl) (by kernel_rfl) (by kernel_rfl) rfl (fun _ m => m.keepsI (.refl _) (j66) hE11 hf11) (y_v rfl (v_move rfl)) ?_
            refine d_takeC 8 rfl rfl (by kernel_rfl) (by kernel_rfl) (by kernel_rfl) rfl (fun _ m => m.keepsI (.refl _) (j66) hE11 hf11) (y_v rfl (v_extract rfl rfl)) ?_
            refine d_takeC 9 rfl rfl (by kernel_rfl) (by kernel_rfl) (by kernel_rfl) rfl (fun _ m => m.keepsI (.refl _) (j66) hE11 hf11) (y_v rfl (v_extract rfl rfl)) ?_
            refine d_one 10 (by kernel_rfl) rfl ?_
            refine o_alloc T.zero_40 rfl (fun g13 => ?_)
            refine d_on (fun _ m => m.keepsI (.cons _ (.refl _)) (j66) hE11 hf11) ?_
            refine d_one 11 (by kernel_rfl) rfl ?_
            refine o_stw _ T.ty_40 rfl rfl rfl rfl rfl (by simp [hw13.one]) ?_
            refine d_on (fun _ m => m.keepsI (.cons _ (.refl _)) (j66) hE11 hf11) ?_
            refine d_takeC 12 rfl rfl (by kernel_rfl) (by kernel_rfl) (by kernel_rfl) rfl (fun _ m => m.keepsI (.cons _ (.refl _)) (j66) hE11 hf11) (y_v rfl (v_assign rfl)) ?_
            refine d_done (by kernel_rfl) ?_
            refine q_then ?_
            refine c_seq ?_
            refine c_region ?_
            refine o_v rfl (v_move rfl) ?_
            refine o_v rfl (v_move rfl) ?_
            refine o_cons (o_yes rfl rfl rfl (o_val rfl (v_move rfl) ?_))
            refine o_cons (o_yes rfl rfl rfl (o_val rfl (OV.cast (u := .bool true) (v_eql rfl rfl) (congrArg Value.bool (decide_eq_true (hk2)))) ?_))
            refine o_v rfl (v_and_t rfl rfl rfl) ?_
            refine o_v rfl (v_move rfl) ?_
            refine o_cons (o_yes rfl rfl rfl (o_val rfl (v_move rfl) ?_))
            refine o_cons (o_yes rfl rfl rfl (o_val rfl (v_move rfl) ?_))
            refine o_cons (o_yes rfl rfl rfl (o_val rfl (OV.cast (u := .bool true) (v_eql rfl rfl) (congrArg Value.bool (decide_eq_true (hk3)))) ?_))
            refine o_v rfl (v_and_t rfl rfl rfl) ?_
            refine o_v rfl (v_assign rfl) ?_
            refine o_nil ?_
            refine q_then ?_
            refine c_ret ?_
            refine fin1 rfl rfl ?_
            exact q_vI rfl
          · refine o_alloc T.zero_40 rfl (fun g13 => ?_)
            refine d_on (fun _ m => m.keeps (.cons _ (.refl _))) ?_
            refine d_one 6 (by kernel_rfl) rfl ?_
            refine o_call (flApply _ vc c hvc hsc _ _ hw10 (run_sm fun e he => hse e (sortF_mem.1 (List.mem_of_mem_take he))) _ (hse _ (sortF_mem.1 (List.getElem_mem hk)))) rfl rfl (fun v66 I66 j66 q66 => ?_)
            obtain ⟨w13, rfl, hw13⟩ := q66
            refine d_on (fun _ m => m.keepsI (.cons _ (.refl _)) (j66) hE11 hf11) ?_
            refine d_takeC 7 rfl rfl (by kernel_rfl) (by kernel_rfl) (by kernel_rfl) rfl (fun _ m => m.keepsI (.cons _ (.refl _)) (j66) hE11 hf11) (y_v rfl (v_move rfl)) ?_
            refine d_takeC 8 rfl rfl (by kernel_rfl) (by kernel_rfl) (by kernel_rfl) rfl (fun _ m => m.keepsI (.cons _ (.refl _)) (j66) hE11 hf11) (y_v rfl (v_extract rfl rfl)) ?_
            refine d_takeC 9 rfl rfl (by kernel_rfl) (by kernel_rfl) (by kernel_rfl) rfl (fun _ m => m.keepsI (.cons _ (.refl _)) (j66) hE11 hf11) (y_v rfl (v_extract rfl rfl)) ?_
            refine d_one 11 (by kernel_rfl) rfl ?_
            refine o_stw _ T.ty_40 rfl rfl rfl rfl rfl (by simp [hw13.one]) ?_
            refine d_on (fun _ m => m.keepsI (.cons _ (.refl _)) (j66) hE11 hf11) ?_
            refine d_takeC 12 rfl rfl (by kernel_rfl) (by kernel_rfl) (by kernel_rfl) rfl (fun _ m => m.keepsI (.cons _ (.refl _)) (j66) hE11 hf11) (y_v rfl (v_assign rfl)) ?_
            refine d_done (by kernel_rfl) ?_
            refine q_then ?_
            refine c_seq ?_
            refine c_region ?_
            refine o_v rfl (v_move rfl) ?_
            refine o_v rfl (v_move rfl) ?_
            refine o_cons (o_yes rfl rfl rfl (o_val rfl (v_move rfl) ?_))
            refine o_cons (o_yes rfl rfl rfl (o_val rfl (OV.cast (u := .bool true) (v_eql rfl rfl) (congrArg Value.bool (decide_eq_true (hk2)))) ?_))
            refine o_v rfl (v_and_t rfl rfl rfl) ?_
            refine o_v rfl (v_move rfl) ?_
            refine o_cons (o_yes rfl rfl rfl (o_val rfl (v_move rfl) ?_))
            refine o_cons (o_yes rfl rfl rfl (o_val rfl (v_move rfl) ?_))
            refine o_cons (o_yes rfl rfl rfl (o_val rfl (OV.cast (u := .bool true) (v_eql rfl rfl) (congrArg Value.bool (decide_eq_true (hk3)))) ?_))
            refine o_v rfl (v_and_t rfl rfl rfl) ?_
            refine o_v rfl (v_assign rfl) ?_
            refine o_nil ?_
            refine q_then ?_
            refine c_ret ?_
            refine fin1 rfl rfl ?_
            exact q_vI rfl
        · refine o_alloc T.zero_40 rfl (fun g10 => ?_)
          refine d_on (fun _ m => m.keeps (.cons _ (.refl _))) ?_
          refine d_one 4 (by kernel_rfl) rfl ?_
          refine o_call (cRun _ vc c hvc hsc _ ((sortF l).take k) (q34s.take k (by omega)) (by simp; omega) (fun e he => hse e (sortF_mem.1 (List.mem_of_mem_take he)))) rfl rfl (fun v55 I55 j55 q55 => ?_)
          have hvc := hvc.le j55
          have hA34 := hA34.le j55
          obtain ⟨w10, rfl, hw10⟩ := q55
          refine d_on (fun _ m => m.keepsI (.cons _ (.refl _)) (j55) hE10 hf10) ?_
          refine d_takeC 5 rfl rfl (by kernel_rfl) (by kernel_rfl) (by kernel_rfl) rfl (fun _ m => m.keepsI (.cons _ (.refl _)) (j55) hE10 hf10) (y_v rfl (v_move rfl)) ?_
          refine d_takeC 6 rfl rfl (by kernel_rfl) (by kernel_rfl) (by kernel_rfl) rfl (fun _ m => m.keepsI (.cons _ (.refl _)) (j55) hE10 hf10) (y_v rfl (v_extract rfl rfl)) ?_
          refine d_takeC 7 rfl rfl (by kernel_rfl) (by kernel_rfl) (by kernel_rfl) rfl (fun _ m => m.keepsI (.cons _ (.refl _)) (j55) hE10 hf10) (y_v rfl (v_extract rfl rfl)) ?_
          refine d_takeC 8 rfl rfl (by kernel_rfl) (by kernel_rfl) (by kernel_rfl) rfl (fun _ m => m.keepsI (.cons _ (.refl _)) (j55) hE10 hf10) (y_v rfl (v_extract rfl rfl)) ?_
          refine d_one 10 (by kernel_rfl) rfl ?_
          refine o_stw _ T.ty_40 rfl rfl rfl rfl rfl (by simp [hw10.one]) ?_
          refine d_on (fun _ m => m.keepsI (.cons _ (.refl _)) (j55) hE10 hf10) ?_
          refine d_takeC 11 rfl rfl (by kernel_rfl) (by kernel_rfl) (by kernel_rfl) rfl (fun _ m => m.keepsI (.cons _ (.refl _)) (j55) hE10 hf10) (y_v rfl (v_assign rfl)) ?_
          refine d_takeC 12 rfl rfl (by kernel_rfl) (by kernel_rfl) (by kernel_rfl) rfl (fun _ m => m.keepsI (.cons _ (.refl _)) (j55) hE10 hf10) (y_v rfl (v_assign rfl)) ?_
          refine d_done (by kernel_rfl) ?_
          refine q_then ?_
          refine c_seq ?_
          refine sx_knowI (fun hE11 hf11 => ?_)
          refine d_startH T.mixed ?_
          refine d_takeC 0 rfl rfl (by kernel_rfl) (by kernel_rfl) (by kernel_rfl) rfl (fun _ m => m.keeps (.refl _)) (y_v rfl (v_ldw m2 T.ty_36 rfl rfl)) ?_
          refine d_takeC 1 rfl rfl (by kernel_rfl) (by kernel_rfl) (by kernel_rfl) rfl (fun _ m => m.keeps (.refl _)) (y_v rfl (v_ldw m0 T.ty_40 rfl rfl)) ?_
          refine d_takeC 2 rfl rfl (by kernel_rfl) (by kernel_rfl) (by kernel_rfl) rfl (fun _ m => m.keeps (.refl _)) (y_v rfl (v_move rfl)) ?_
          refine d_takeC 3 rfl rfl (by kernel_rfl) (by kernel_rfl) (by kernel_rfl) rfl (fun _ m => m.keeps (.refl _)) (y_v rfl (v_move rfl)) ?_
          obtain ⟨b64, o64, w64, e64, c64, r64⟩ := RdA.at_ hA34 (i := k) hk
          obtain rfl := r64
          refine d_takeC 4 rfl rfl (by kernel_rfl) (by kernel_rfl) (by kernel_rfl) rfl (fun _ m => m.keeps (.refl _)) (y_v rfl (v_idx T.elt_22 rfl rfl e64 k hk1 hk)) ?_
          refine d_takeC 5 rfl rfl (by kernel_rfl) (by kernel_rfl) (by kernel_rfl) rfl (fun _ m => m.keeps (.refl _)) (y_v rfl (v_ldIa T.ty_32 rfl c64 rfl)) ?_
          refine d_two 6 10 (by kernel_rfl) rfl rfl ?_ ?_
          · refine o_call (flApply _ vc c hvc hsc _ _ hw10 (run_sm fun e he => hse e (sortF_mem.1 (List.mem_of_mem_take he))) _ (hse _ (sortF_mem.1 (List.getElem_mem hk)))) rfl rfl (fun v66 I66 j66 q66 => ?_)
            obtain ⟨w13, rfl, hw13⟩ := q66
            refine d_on (fun _ m => m.keepsI (.refl _) (j66) hE11 hf11) ?_
            refine d_takeC 7 rfl rfl (by kernel_rfl) (by kernel_rfl) (by kernel_rfl) rfl (fun _ m => m.keepsI (.refl _) (j66) hE11 hf11) (y_v rfl (v_move rfl)) ?_
            refine d_takeC 8 rfl rfl (by kernel_rfl) (by kernel_rfl) (by kernel_rfl) rfl (fun _ m => m.keepsI (.refl _) (j66) hE11 hf11) (y_v rfl (v_extract rfl rfl)) ?_
            refine d_takeC 9 rfl rfl (by kernel_rfl) (by kernel_rfl) (by kernel_rfl) rfl (fun _ m => m.keepsI (.refl _) (j66) hE11 hf11) (y_v rfl (v_extract rfl rfl)) ?_
            refine d_one 10 (by kernel_rfl) rfl ?_
            refine o_alloc T.zero_40 rfl (fun g13 => ?_)
            refine d_on (fun _ m => m.keepsI (.cons _ (.refl _)) (j66) hE11 hf11) ?_
            refine d_one 11 (by kernel_rfl) rfl ?_
            refine o_stw _ T.ty_40 rfl rfl rfl rfl rfl (by simp [hw13.one]) ?_
            refine d_on (fun _ m => m.keepsI (.cons _ (.refl _)) (j66) hE11 hf11) ?_
            refine d_takeC 12 rfl rfl (by kernel_rfl) (by kernel_rfl) (by kernel_rfl) rfl (fun _ m => m.keepsI (.cons _ (.refl _)) (j66) hE11 hf11) (y_v rfl (v_assign rfl)) ?_
            refine d_done (by kernel_rfl) ?_
            refine q_then ?_
            refine c_seq ?_
            refine c_region ?_
            refine o_v rfl (v_move rfl) ?_
            refine o_v rfl (v_move rfl) ?_
            refine o_cons (o_yes rfl rfl rfl (o_val rfl (v_move rfl) ?_))
            refine o_cons (o_yes rfl rfl rfl (o_val rfl (OV.cast (u := .bool true) (v_eql rfl rfl) (congrArg Value.bool (decide_eq_true (hk2)))) ?_))
            refine o_v rfl (v_and_t rfl rfl rfl) ?_
            refine o_v rfl (v_move rfl) ?_
            refine o_cons (o_yes rfl rfl rfl (o_val rfl (v_move rfl) ?_))
            refine o_cons (o_yes rfl rfl rfl (o_val rfl (v_move rfl) ?_))
            refine o_cons (o_yes rfl rfl rfl (o_val rfl (OV.cast (u := .bool true) (v_eql rfl rfl) (congrArg Value.bool (decide_eq_true (hk3)))) ?_))
            refine o_v rfl (v_and_t rfl rfl rfl) ?_
            refine o_v rfl (v_assign rfl) ?_
            refine o_nil ?_
            refine q_then ?_
            refine c_ret ?_
            refine fin1 rfl rfl ?_
            exact q_vI rfl
          · refine o_alloc T.zero_40 rfl (fun g13 => ?_)
            refine d_on (fun _ m => m.keeps (.cons _ (.refl _))) ?_
            refine d_one 6 (by kernel_rfl) rfl ?_
            refine o_call (flApply _ vc c hvc hsc _ _ hw10 (run_sm fun e he => hse e (sortF_mem.1 (List.mem_of_mem_take he))) _ (hse _ (sortF_mem.1 (List.getElem_mem hk)))) rfl rfl (fun v66 I66 j66 q66 => ?_)
            obtain ⟨w13, rfl, hw13⟩ := q66
            refine d_on (fun _ m => m.keepsI (.cons _ (.refl _)) (j66) hE11 hf11) ?_
            refine d_takeC 7 rfl rfl (by kernel_rfl) (by kernel_rfl) (by kernel_rfl) rfl (fun _ m => m.keepsI (.cons _ (.refl _)) (j66) hE11 hf11) (y_v rfl (v_move rfl)) ?_
            refine d_takeC 8 rfl rfl (by kernel_rfl) (by kernel_rfl) (by kernel_rfl) rfl (fun _ m => m.keepsI (.cons _ (.refl _)) (j66) hE11 hf11) (y_v rfl (v_extract rfl rfl)) ?_
            refine d_takeC 9 rfl rfl (by kernel_rfl) (by kernel_rfl) (by kernel_rfl) rfl (fun _ m => m.keepsI (.cons _ (.refl _)) (j66) hE11 hf11) (y_v rfl (v_extract rfl rfl)) ?_
            refine d_one 11 (by kernel_rfl) rfl ?_
            refine o_stw _ T.ty_40 rfl rfl rfl rfl rfl (by simp [hw13.one]) ?_
            refine d_on (fun _ m => m.keepsI (.cons _ (.refl _)) (j66) hE11 hf11) ?_
            refine d_takeC 12 rfl rfl (by kernel_rfl) (by kernel_rfl) (by kernel_rfl) rfl (fun _ m => m.keepsI (.cons _ (.refl _)) (j66) hE11 hf11) (y_v rfl (v_assign rfl)) ?_
            refine d_done (by kernel_rfl) ?_
            refine q_then ?_
            refine c_seq ?_
            refine c_region ?_
            refine o_v rfl (v_move rfl) ?_
            refine o_v rfl (v_move rfl) ?_
            refine o_cons (o_yes rfl rfl rfl (o_val rfl (v_move rfl) ?_))
            refine o_cons (o_yes rfl rfl rfl (o_val rfl (OV.cast (u := .bool true) (v_eql rfl rfl) (congrArg Value.bool (decide_eq_true (hk2)))) ?_))
            refine o_v rfl (v_and_t rfl rfl rfl) ?_
            refine o_v rfl (v_move rfl) ?_
            refine o_cons (o_yes rfl rfl rfl (o_val rfl (v_move rfl) ?_))
            refine o_cons (o_yes rfl rfl rfl (o_val rfl (v_move rfl) ?_))
            refine o_cons (o_yes rfl rfl rfl (o_val rfl (OV.cast (u := .bool true) (v_eql rfl rfl) (congrArg Value.bool (decide_eq_true (hk3)))) ?_))
            refine o_v rfl (v_and_t rfl rfl rfl) ?_
            refine o_v rfl (v_assign rfl) ?_
            refine o_nil ?_
            refine q_then ?_
            refine c_ret ?_
            refine fin1 rfl rfl ?_
            exact q_vI rfl

end Go.Proofs.Ytechmdlbpbpkdaa
