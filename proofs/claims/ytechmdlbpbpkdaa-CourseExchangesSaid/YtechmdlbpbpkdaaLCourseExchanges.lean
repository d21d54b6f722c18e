/- Walks, printed by a program out of the code of the functions: each theorem is a contract of one function. -/
import Derived.Test.YtechmdlbpbpkdaaW13
import Derived.Test.YtechmdlbpbpkdaaM15
import Derived.Test.YtechmdlbpbpkdaaSxOpen
namespace Go.Proofs.Ytechmdlbpbpkdaa
open Go Go.Sx
set_option linter.all false
set_option maxRecDepth 20000
set_option maxHeartbeats 4000000
theorem lawExchanges (I : IMap) (vc : Value) (c : List Kind) (hvc : RdS I vc c) (hoc : ∀ x ∈ c, OkKd x) (v : Value) (l : List Evt) (hv : RdS I v l) (hok : ∀ x ∈ l, OkE x) (a : Int) (wa : (Lit.int .u8 a).wf = true) :
    FnV Try.prog 8 #[.agg #[vc], v, .int .u8 a] I (.bool true) := by
  have hv0 := hv
  obtain ⟨A0, c0, rfl, hA, hc, hm⟩ := hv
  obtain ⟨r, rfl⟩ : ∃ r : Nat, a = (r : Int) := ⟨a.toNat, by simp [Lit.wf, IntKind.min, IntKind.max, IntKind.signed, IntKind.bits] at wa; omega⟩
  have hr : r < 256 := by simp [Lit.wf, IntKind.min, IntKind.max, IntKind.signed, IntKind.bits] at wa; omega
  refine enter Try.func8 Try.call8 rfl Try.ntmps8 rfl (fun w0 => ?_)
  refine c_seq ?_
  refine c_region ?_
  refine o_cons ?_
  refine o_box _ rfl rfl rfl (fun g3 => ?_)
  refine o_v rfl (v_assign rfl) ?_
  refine o_nil ?_
  refine q_then ?_
  refine c_seq ?_
  refine c_region ?_
  refine o_cons ?_
  refine o_callV (head11 _) rfl rfl ?_
  refine o_v rfl (v_assign rfl) ?_
  refine o_nil ?_
  refine q_then ?_
  refine c_seq ?_
  refine c_seq ?_
  refine c_region ?_
  refine o_v rfl (v_ldw m0 T.ty_36 rfl rfl) ?_
  refine o_v rfl (v_move rfl) ?_
  refine o_cons ?_
  refine o_callV (few11 _ vc c hvc _ l hv0) rfl rfl ?_
  refine o_v rfl (v_not rfl) ?_
  refine o_v rfl (v_move rfl) ?_
  refine sx_split 26 rfl (fun h26 => ?_) (fun h26 => ?_)
  · have p26 := h26
    try simp only [decide_eq_true_eq, decide_eq_false_iff_not, Bool.not_eq_true', Bool.not_eq_false', Bool.and_eq_true, Bool.or_eq_true, Bool.or_eq_false_iff] at p26
    refine o_cons (o_no rfl rfl h26 rfl ?_)
    refine o_cons (o_no rfl rfl h26 rfl ?_)
    refine o_cons (o_no rfl rfl h26 rfl ?_)
    refine o_v rfl (v_or_t h26 rfl) ?_
    refine o_nil ?_
    refine q_then ?_
    refine c_true rfl ?_
    refine c_seq ?_
    refine c_region ?_
    refine o_v rfl (v_move rfl) ?_
    refine o_v rfl (v_assign rfl) ?_
    refine o_nil ?_
    refine q_then ?_
    refine c_ret ?_
    refine q_then_ret ?_
    refine fin1 rfl rfl ?_
    exact q_vI rfl
  · have p26 := h26
    try simp only [decide_eq_true_eq, decide_eq_false_iff_not, Bool.not_eq_true', Bool.not_eq_false', Bool.and_eq_true, Bool.or_eq_true, Bool.or_eq_false_iff] at p26
    have hf : fewC c = true ∧ fewE l 60 = true := by simpa using h26
    obtain ⟨hse, hl⟩ := fewE_sm hf.2
    have hsc := fewC_sm hf.1
    have hl6 : l.length ≤ 1000000 := by omega
    refine o_cons (o_yes rfl rfl h26 (o_val rfl (v_move rfl) ?_))
    refine o_cons (o_yes rfl rfl h26 (o_val rfl (v_len_slice T.und_22 rfl) ?_))
    refine o_cons (o_yes rfl rfl h26 (o_val rfl (v_lss rfl rfl) ?_))
    refine o_v rfl (v_or_f h26 rfl rfl) ?_
    refine o_nil ?_
    refine q_then ?_
    refine c_cond rfl (fun h30 => ?_) (fun h30 => ?_)
    · have p30 := h30
      try simp only [decide_eq_true_eq, decide_eq_false_iff_not, Bool.not_eq_true', Bool.not_eq_false', Bool.and_eq_true, Bool.or_eq_true, Bool.or_eq_false_iff] at p30
      refine c_seq ?_
      refine c_region ?_
      refine o_v rfl (v_move rfl) ?_
      refine o_v rfl (v_assign rfl) ?_
      refine o_nil ?_
      refine q_then ?_
      refine c_ret ?_
      refine q_then_ret ?_
      refine fin1 rfl rfl ?_
      exact q_vI rfl
    · have p30 := h30
      try simp only [decide_eq_true_eq, decide_eq_false_iff_not, Bool.not_eq_true', Bool.not_eq_false', Bool.and_eq_true, Bool.or_eq_true, Bool.or_eq_false_iff] at p30
      have hl2 : 2 ≤ l.length := by omega
      have hk : r % (l.length - 1) < l.length - 1 := Nat.mod_lt _ (by omega)
      have hsl := sortF_len l
      have hk1 : r % (l.length - 1) + 1 < (sortF l).length := by omega
      have hk0 : r % (l.length - 1) < (sortF l).length := by omega
      refine c_skip ?_
      refine q_then ?_
      refine c_seq ?_
      refine c_region ?_
      refine o_v rfl (v_ldw m0 T.ty_36 rfl rfl) ?_
      refine o_v rfl (v_move rfl) ?_
      refine o_cons ?_
      refine o_call (cRun _ vc c hvc hsc _ l hv0 hl6 hse) rfl rfl (fun v35 I35 j35 q35 => ?_)
      have hvc := hvc.le j35
      have hv0 := hv0.le j35
      have hA := hA.le j35
      obtain ⟨w8, rfl, hw8⟩ := q35
      obtain ⟨A8, c8, rfl, _⟩ := id hw8
      refine o_v rfl (v_move rfl) ?_
      refine o_v rfl (v_extract rfl rfl) ?_
      refine o_v rfl (v_extract rfl rfl) ?_
      refine o_v rfl (v_extract rfl rfl) ?_
      refine o_cons ?_
      refine o_alloc T.zero_40 rfl (fun g8 => ?_)
      refine o_cons ?_
      refine o_stw _ T.ty_40 rfl rfl rfl rfl rfl rfl ?_
      refine o_v rfl (v_assign rfl) ?_
      refine o_v rfl (v_assign rfl) ?_
      refine o_nil ?_
      refine q_then ?_
      refine c_seq ?_
      refine c_region ?_
      refine o_v rfl (v_move rfl) ?_
      refine o_cons ?_
      refine o_call (cSort _ _ l hv0 hl6) rfl rfl (fun v40 I40 j40 q40 => ?_)
      have hvc := hvc.le j40
      have hw8 := hw8.le j40
      have q40s := q40
      obtain ⟨A11, c11, rfl, hA11, hc11, hm11⟩ := q40
      refine o_v rfl (v_assign rfl) ?_
      refine o_nil ?_
      refine q_then ?_
      refine c_seq ?_
      refine c_region ?_
      refine o_v rfl (v_move rfl) ?_
      refine o_v rfl (v_conv T.und_5 T.und_3 rfl (m := ((r : Nat) : Int)) (by rw [IntKind.wrap_i64]; omega)) ?_
      refine o_v rfl (v_move rfl) ?_
      refine o_v rfl (v_len_slice T.und_22 rfl) ?_
      refine o_v rfl (OV.cast (u := .int .i64 ((l.length - 1 : Nat) : Int)) (v_sub rfl rfl ⟨by omega, by omega⟩) (congrArg (Value.int .i64) (by omega))) ?_
      refine o_v rfl (v_rem rfl rfl (by omega) (by omega)) ?_
      refine o_v rfl (v_assign rfl) ?_
      refine o_nil ?_
      refine q_then ?_
      refine c_seq ?_
      refine c_seq ?_
      refine c_region ?_
      refine o_v rfl (v_move rfl) ?_
      refine o_v rfl (v_len_slice T.und_22 rfl) ?_
      refine o_v rfl (v_move rfl) ?_
      refine o_v rfl (v_len_slice T.und_22 rfl) ?_
      refine o_v rfl (OV.cast (u := .bool false) (v_neq rfl rfl) (congrArg Value.bool (by rw [decide_eq_true (by rw [hsl])]; rfl))) ?_
      refine o_nil ?_
      refine q_then ?_
      refine c_false rfl ?_
      refine c_skip ?_
      refine q_then ?_
      refine c_seq ?_
      refine c_seq ?_
      refine d_startH T.mixed ?_
      refine d_takeC 0 rfl rfl (by kernel_rfl) (by kernel_rfl) (by kernel_rfl) rfl (fun _ m => m.keeps (.refl _)) (y_v rfl (v_move rfl)) ?_
      refine d_takeC 1 rfl rfl (by kernel_rfl) (by kernel_rfl) (by kernel_rfl) rfl (fun _ m => m.keeps (.refl _)) (y_v rfl (v_neq rfl rfl)) ?_
      refine d_takeC 2 rfl rfl (by kernel_rfl) (by kernel_rfl) (by kernel_rfl) rfl (fun _ m => m.keeps (.refl _)) (y_v rfl (v_move rfl)) ?_
      refine sx_split 54 rfl (fun h54 => ?_) (fun h54 => ?_)
      · have p54 := h54
        try simp only [decide_eq_true_eq, decide_eq_false_iff_not, Bool.not_eq_true', Bool.not_eq_false', Bool.and_eq_true, Bool.or_eq_true, Bool.or_eq_false_iff] at p54
        refine d_takeC 3 rfl rfl (by kernel_rfl) (by kernel_rfl) (by kernel_rfl) rfl (fun _ m => m.keeps (.refl _)) (y_no rfl rfl h54) ?_
        refine d_takeC 4 rfl rfl (by kernel_rfl) (by kernel_rfl) (by kernel_rfl) rfl (fun _ m => m.keeps (.refl _)) (y_no rfl rfl h54) ?_
        refine d_takeC 5 rfl rfl (by kernel_rfl) (by kernel_rfl) (by kernel_rfl) rfl (fun _ m => m.keeps (.refl _)) (y_no rfl rfl h54) ?_
        refine d_takeC 6 rfl rfl (by kernel_rfl) (by kernel_rfl) (by kernel_rfl) rfl (fun _ m => m.keeps (.refl _)) (y_no rfl rfl h54) ?_
        refine d_takeC 7 rfl rfl (by kernel_rfl) (by kernel_rfl) (by kernel_rfl) rfl (fun _ m => m.keeps (.refl _)) (y_no rfl rfl h54) ?_
        refine d_takeC 8 rfl rfl (by kernel_rfl) (by kernel_rfl) (by kernel_rfl) rfl (fun _ m => m.keeps (.refl _)) (y_no rfl rfl h54) ?_
        refine d_takeC 9 rfl rfl (by kernel_rfl) (by kernel_rfl) (by kernel_rfl) rfl (fun _ m => m.keeps (.refl _)) (y_no rfl rfl h54) ?_
        refine d_takeC 10 rfl rfl (by kernel_rfl) (by kernel_rfl) (by kernel_rfl) rfl (fun _ m => m.keeps (.refl _)) (y_no rfl rfl h54) ?_
        refine d_takeC 11 rfl rfl (by kernel_rfl) (by kernel_rfl) (by kernel_rfl) rfl (fun _ m => m.keeps (.refl _)) (y_no rfl rfl h54) ?_
        refine d_takeC 12 rfl rfl (by kernel_rfl) (by kernel_rfl) (by kernel_rfl) rfl (fun _ m => m.keeps (.refl _)) (y_no rfl rfl h54) ?_
        refine d_takeC 13 rfl rfl (by kernel_rfl) (by kernel_rfl) (by kernel_rfl) rfl (fun _ m => m.keeps (.refl _)) (y_no rfl rfl h54) ?_
        refine d_takeC 14 rfl rfl (by kernel_rfl) (by kernel_rfl) (by kernel_rfl) rfl (fun _ m => m.keeps (.refl _)) (y_no rfl rfl h54) ?_
        refine d_takeC 15 rfl rfl (by kernel_rfl) (by kernel_rfl) (by kernel_rfl) rfl (fun _ m => m.keeps (.refl _)) (y_v rfl (v_or_t h54 rfl)) ?_
        refine d_takeC 16 rfl rfl (by kernel_rfl) (by kernel_rfl) (by kernel_rfl) rfl (fun _ m => m.keeps (.refl _)) (y_v rfl (v_move rfl)) ?_
        refine d_takeC 17 rfl rfl (by kernel_rfl) (by kernel_rfl) (by kernel_rfl) rfl (fun _ m => m.keeps (.refl _)) (y_no rfl rfl rfl) ?_
        refine d_takeC 18 rfl rfl (by kernel_rfl) (by kernel_rfl) (by kernel_rfl) rfl (fun _ m => m.keeps (.refl _)) (y_no rfl rfl rfl) ?_
        refine d_takeC 19 rfl rfl (by kernel_rfl) (by kernel_rfl) (by kernel_rfl) rfl (fun _ m => m.keeps (.refl _)) (y_no rfl rfl rfl) ?_
        refine d_takeC 20 rfl rfl (by kernel_rfl) (by kernel_rfl) (by kernel_rfl) rfl (fun _ m => m.keeps (.refl _)) (y_no rfl rfl rfl) ?_
        refine d_takeC 21 rfl rfl (by kernel_rfl) (by kernel_rfl) (by kernel_rfl) rfl (fun _ m => m.keeps (.refl _)) (y_no rfl rfl rfl) ?_
        refine d_takeC 22 rfl rfl (by kernel_rfl) (by kernel_rfl) (by kernel_rfl) rfl (fun _ m => m.keeps (.refl _)) (y_no rfl rfl rfl) ?_
        refine d_takeC 23 rfl rfl (by kernel_rfl) (by kernel_rfl) (by kernel_rfl) rfl (fun _ m => m.keeps (.refl _)) (y_v rfl (v_or_t rfl rfl)) ?_
        refine d_takeC 24 rfl rfl (by kernel_rfl) (by kernel_rfl) (by kernel_rfl) rfl (fun _ m => m.keeps (.refl _)) (y_v rfl (v_move rfl)) ?_
        refine d_takeC 25 rfl rfl (by kernel_rfl) (by kernel_rfl) (by kernel_rfl) rfl (fun _ m => m.keeps (.refl _)) (y_no rfl rfl rfl) ?_
        refine d_takeC 26 rfl rfl (by kernel_rfl) (by kernel_rfl) (by kernel_rfl) rfl (fun _ m => m.keeps (.refl _)) (y_no rfl rfl rfl) ?_
        refine d_takeC 27 rfl rfl (by kernel_rfl) (by kernel_rfl) (by kernel_rfl) rfl (fun _ m => m.keeps (.refl _)) (y_no rfl rfl rfl) ?_
        refine d_takeC 28 rfl rfl (by kernel_rfl) (by kernel_rfl) (by kernel_rfl) rfl (fun _ m => m.keeps (.refl _)) (y_no rfl rfl rfl) ?_
        refine d_takeC 29 rfl rfl (by kernel_rfl) (by kernel_rfl) (by kernel_rfl) rfl (fun _ m => m.keeps (.refl _)) (y_no rfl rfl rfl) ?_
        refine d_takeC 30 rfl rfl (by kernel_rfl) (by kernel_rfl) (by kernel_rfl) rfl (fun _ m => m.keeps (.refl _)) (y_no rfl rfl rfl) ?_
        refine d_takeC 31 rfl rfl (by kernel_rfl) (by kernel_rfl) (by kernel_rfl) rfl (fun _ m => m.keeps (.refl _)) (y_no rfl rfl rfl) ?_
        refine d_takeC 32 rfl rfl (by kernel_rfl) (by kernel_rfl) (by kernel_rfl) rfl (fun _ m => m.keeps (.refl _)) (y_v rfl (v_or_t rfl rfl)) ?_
        refine d_done (by kernel_rfl) ?_
        refine q_then ?_
        refine c_true rfl ?_
        refine c_seq ?_
        refine c_region ?_
        refine o_v rfl (v_move rfl) ?_
        refine o_v rfl (v_assign rfl) ?_
        refine o_nil ?_
        refine q_then ?_
        refine c_ret ?_
        refine q_then_ret ?_
        refine fin1 rfl rfl ?_
        exact q_vI rfl
      · have p54 := h54
        try simp only [decide_eq_true_eq, decide_eq_false_iff_not, Bool.not_eq_true', Bool.not_eq_false', Bool.and_eq_true, Bool.or_eq_true, Bool.or_eq_false_iff] at p54
        refine d_takeC 3 rfl rfl (by kernel_rfl) (by kernel_rfl) (by kernel_rfl) rfl (fun _ m => m.keeps (.refl _)) (y_yes rfl rfl h54 (v_move rfl)) ?_
        refine d_takeC 4 rfl rfl (by kernel_rfl) (by kernel_rfl) (by kernel_rfl) rfl (fun _ m => m.keeps (.refl _)) (y_yes rfl rfl h54 (v_move rfl)) ?_
        obtain ⟨b57, o57, w57, e57, c57, r57⟩ := RdA.at_ hA11 (i := (r % (l.length - 1))) (by omega)
        obtain rfl := r57
        refine d_takeC 5 rfl rfl (by kernel_rfl) (by kernel_rfl) (by kernel_rfl) rfl (fun _ m => m.keeps (.refl _)) (y_yes rfl rfl h54 (v_idx T.elt_22 rfl rfl e57 ((r % (l.length - 1))) (by omega) (by omega))) ?_
        refine d_takeC 6 rfl rfl (by kernel_rfl) (by kernel_rfl) (by kernel_rfl) rfl (fun _ m => m.keeps (.refl _)) (y_yes rfl rfl h54 (v_fieldAddr T.fld_32_1 rfl)) ?_
        refine d_takeC 7 rfl rfl (by kernel_rfl) (by kernel_rfl) (by kernel_rfl) rfl (fun _ m => m.keeps (.refl _)) (y_yes rfl rfl h54 (v_ldI T.ty_3 rfl (c57 1 _ rfl))) ?_
        refine d_takeC 8 rfl rfl (by kernel_rfl) (by kernel_rfl) (by kernel_rfl) rfl (fun _ m => m.keeps (.refl _)) (y_yes rfl rfl h54 (v_move rfl)) ?_
        refine d_takeC 9 rfl rfl (by kernel_rfl) (by kernel_rfl) (by kernel_rfl) rfl (fun _ m => m.keeps (.refl _)) (y_yes rfl rfl h54 (v_move rfl)) ?_
        refine d_takeC 10 rfl rfl (by kernel_rfl) (by kernel_rfl) (by kernel_rfl) rfl (fun _ m => m.keeps (.refl _)) (y_yes rfl rfl h54 (OV.cast (u := .int .i64 (((r % (l.length - 1)) + 1 : Nat) : Int)) (v_add rfl rfl ⟨by omega, by omega⟩) (congrArg (Value.int .i64) (by omega)))) ?_
        obtain ⟨b63, o63, w63, e63, c63, r63⟩ := RdA.at_ hA11 (i := (r % (l.length - 1)) + 1) (by omega)
        obtain rfl := r63
        refine d_takeC 11 rfl rfl (by kernel_rfl) (by kernel_rfl) (by kernel_rfl) rfl (fun _ m => m.keeps (.refl _)) (y_yes rfl rfl h54 (v_idx T.elt_22 rfl rfl e63 ((r % (l.length - 1)) + 1) (by omega) (by omega))) ?_
        refine d_takeC 12 rfl rfl (by kernel_rfl) (by kernel_rfl) (by kernel_rfl) rfl (fun _ m => m.keeps (.refl _)) (y_yes rfl rfl h54 (v_fieldAddr T.fld_32_1 rfl)) ?_
        refine d_takeC 13 rfl rfl (by kernel_rfl) (by kernel_rfl) (by kernel_rfl) rfl (fun _ m => m.keeps (.refl _)) (y_yes rfl rfl h54 (v_ldI T.ty_3 rfl (c63 1 _ rfl))) ?_
        refine d_takeC 14 rfl rfl (by kernel_rfl) (by kernel_rfl) (by kernel_rfl) rfl (fun _ m => m.keeps (.refl _)) (y_yes rfl rfl h54 (v_neq rfl rfl)) ?_
        refine d_takeC 15 rfl rfl (by kernel_rfl) (by kernel_rfl) (by kernel_rfl) rfl (fun _ m => m.keeps (.refl _)) (y_v rfl (v_or_f h54 rfl rfl)) ?_
        refine d_takeC 16 rfl rfl (by kernel_rfl) (by kernel_rfl) (by kernel_rfl) rfl (fun _ m => m.keeps (.refl _)) (y_v rfl (v_move rfl)) ?_
        refine sx_split 68 rfl (fun h68 => ?_) (fun h68 => ?_)
        · have p68 := h68
          try simp only [decide_eq_true_eq, decide_eq_false_iff_not, Bool.not_eq_true', Bool.not_eq_false', Bool.and_eq_true, Bool.or_eq_true, Bool.or_eq_false_iff] at p68
          refine d_takeC 17 rfl rfl (by kernel_rfl) (by kernel_rfl) (by kernel_rfl) rfl (fun _ m => m.keeps (.refl _)) (y_no rfl rfl h68) ?_
          refine d_takeC 18 rfl rfl (by kernel_rfl) (by kernel_rfl) (by kernel_rfl) rfl (fun _ m => m.keeps (.refl _)) (y_no rfl rfl h68) ?_
          refine d_takeC 19 rfl rfl (by kernel_rfl) (by kernel_rfl) (by kernel_rfl) rfl (fun _ m => m.keeps (.refl _)) (y_no rfl rfl h68) ?_
          refine d_takeC 20 rfl rfl (by kernel_rfl) (by kernel_rfl) (by kernel_rfl) rfl (fun _ m => m.keeps (.refl _)) (y_no rfl rfl h68) ?_
          refine d_takeC 21 rfl rfl (by kernel_rfl) (by kernel_rfl) (by kernel_rfl) rfl (fun _ m => m.keeps (.refl _)) (y_no rfl rfl h68) ?_
          refine d_takeC 22 rfl rfl (by kernel_rfl) (by kernel_rfl) (by kernel_rfl) rfl (fun _ m => m.keeps (.refl _)) (y_no rfl rfl h68) ?_
          refine d_takeC 23 rfl rfl (by kernel_rfl) (by kernel_rfl) (by kernel_rfl) rfl (fun _ m => m.keeps (.refl _)) (y_v rfl (v_or_t h68 rfl)) ?_
          refine d_takeC 24 rfl rfl (by kernel_rfl) (by kernel_rfl) (by kernel_rfl) rfl (fun _ m => m.keeps (.refl _)) (y_v rfl (v_move rfl)) ?_
          refine d_takeC 25 rfl rfl (by kernel_rfl) (by kernel_rfl) (by kernel_rfl) rfl (fun _ m => m.keeps (.refl _)) (y_no rfl rfl rfl) ?_
          refine d_takeC 26 rfl rfl (by kernel_rfl) (by kernel_rfl) (by kernel_rfl) rfl (fun _ m => m.keeps (.refl _)) (y_no rfl rfl rfl) ?_
          refine d_takeC 27 rfl rfl (by kernel_rfl) (by kernel_rfl) (by kernel_rfl) rfl (fun _ m => m.keeps (.refl _)) (y_no rfl rfl rfl) ?_
          refine d_takeC 28 rfl rfl (by kernel_rfl) (by kernel_rfl) (by kernel_rfl) rfl (fun _ m => m.keeps (.refl _)) (y_no rfl rfl rfl) ?_
          refine d_takeC 29 rfl rfl (by kernel_rfl) (by kernel_rfl) (by kernel_rfl) rfl (fun _ m => m.keeps (.refl _)) (y_no rfl rfl rfl) ?_
          refine d_takeC 30 rfl rfl (by kernel_rfl) (by kernel_rfl) (by kernel_rfl) rfl (fun _ m => m.keeps (.refl _)) (y_no rfl rfl rfl) ?_
          refine d_takeC 31 rfl rfl (by kernel_rfl) (by kernel_rfl) (by kernel_rfl) rfl (fun _ m => m.keeps (.refl _)) (y_no rfl rfl rfl) ?_
          refine d_takeC 32 rfl rfl (by kernel_rfl) (by kernel_rfl) (by kernel_rfl) rfl (fun _ m => m.keeps (.refl _)) (y_v rfl (v_or_t rfl rfl)) ?_
          refine d_done (by kernel_rfl) ?_
          refine q_then ?_
          refine c_true rfl ?_
          refine c_seq ?_
          refine c_region ?_
          refine o_v rfl (v_move rfl) ?_
          refine o_v rfl (v_assign rfl) ?_
          refine o_nil ?_
          refine q_then ?_
          refine c_ret ?_
          refine q_then_ret ?_
          refine fin1 rfl rfl ?_
          exact q_vI rfl
        · have p68 := h68
          try simp only [decide_eq_true_eq, decide_eq_false_iff_not, Bool.not_eq_true', Bool.not_eq_false', Bool.and_eq_true, Bool.or_eq_true, Bool.or_eq_false_iff] at p68
          refine d_takeC 17 rfl rfl (by kernel_rfl) (by kernel_rfl) (by kernel_rfl) rfl (fun _ m => m.keeps (.refl _)) (y_yes rfl rfl h68 (v_move rfl)) ?_
          refine d_takeC 18 rfl rfl (by kernel_rfl) (by kernel_rfl) (by kernel_rfl) rfl (fun _ m => m.keeps (.refl _)) (y_yes rfl rfl h68 (v_move rfl)) ?_
          obtain ⟨b71, o71, w71, e71, c71, r71⟩ := RdA.at_ hA11 (i := (r % (l.length - 1))) (by omega)
          obtain rfl := r71
          refine d_takeC 19 rfl rfl (by kernel_rfl) (by kernel_rfl) (by kernel_rfl) rfl (fun _ m => m.keeps (.refl _)) (y_yes rfl rfl h68 (v_idx T.elt_22 rfl rfl e71 ((r % (l.length - 1))) (by omega) (by omega))) ?_
          refine d_takeC 20 rfl rfl (by kernel_rfl) (by kernel_rfl) (by kernel_rfl) rfl (fun _ m => m.keeps (.refl _)) (y_yes rfl rfl h68 (v_fieldAddr T.fld_32_0 rfl)) ?_
          refine d_takeC 21 rfl rfl (by kernel_rfl) (by kernel_rfl) (by kernel_rfl) rfl (fun _ m => m.keeps (.refl _)) (y_yes rfl rfl h68 (v_ldI T.ty_3 rfl (c71 0 _ rfl))) ?_
          refine d_takeC 22 rfl rfl (by kernel_rfl) (by kernel_rfl) (by kernel_rfl) rfl (fun _ m => m.keeps (.refl _)) (y_yes rfl rfl h68 (v_eql rfl rfl)) ?_
          refine d_takeC 23 rfl rfl (by kernel_rfl) (by kernel_rfl) (by kernel_rfl) rfl (fun _ m => m.keeps (.refl _)) (y_v rfl (v_or_f h68 rfl rfl)) ?_
          refine d_takeC 24 rfl rfl (by kernel_rfl) (by kernel_rfl) (by kernel_rfl) rfl (fun _ m => m.keeps (.refl _)) (y_v rfl (v_move rfl)) ?_
          refine sx_split 76 rfl (fun h76 => ?_) (fun h76 => ?_)
          · have p76 := h76
            try simp only [decide_eq_true_eq, decide_eq_false_iff_not, Bool.not_eq_true', Bool.not_eq_false', Bool.and_eq_true, Bool.or_eq_true, Bool.or_eq_false_iff] at p76
            refine d_takeC 25 rfl rfl (by kernel_rfl) (by kernel_rfl) (by kernel_rfl) rfl (fun _ m => m.keeps (.refl _)) (y_no rfl rfl h76) ?_
            refine d_takeC 26 rfl rfl (by kernel_rfl) (by kernel_rfl) (by kernel_rfl) rfl (fun _ m => m.keeps (.refl _)) (y_no rfl rfl h76) ?_
            refine d_takeC 27 rfl rfl (by kernel_rfl) (by kernel_rfl) (by kernel_rfl) rfl (fun _ m => m.keeps (.refl _)) (y_no rfl rfl h76) ?_
            refine d_takeC 28 rfl rfl (by kernel_rfl) (by kernel_rfl) (by kernel_rfl) rfl (fun _ m => m.keeps (.refl _)) (y_no rfl rfl h76) ?_
            refine d_takeC 29 rfl rfl (by kernel_rfl) (by kernel_rfl) (by kernel_rfl) rfl (fun _ m => m.keeps (.refl _)) (y_no rfl rfl h76) ?_
            refine d_takeC 30 rfl rfl (by kernel_rfl) (by kernel_rfl) (by kernel_rfl) rfl (fun _ m => m.keeps (.refl _)) (y_no rfl rfl h76) ?_
            refine d_takeC 31 rfl rfl (by kernel_rfl) (by kernel_rfl) (by kernel_rfl) rfl (fun _ m => m.keeps (.refl _)) (y_no rfl rfl h76) ?_
            refine d_takeC 32 rfl rfl (by kernel_rfl) (by kernel_rfl) (by kernel_rfl) rfl (fun _ m => m.keeps (.refl _)) (y_v rfl (v_or_t h76 rfl)) ?_
            refine d_done (by kernel_rfl) ?_
            refine q_then ?_
            refine c_true rfl ?_
            refine c_seq ?_
            refine c_region ?_
            refine o_v rfl (v_move rfl) ?_
            refine o_v rfl (v_assign rfl) ?_
            refine o_nil ?_
            refine q_then ?_
            refine c_ret ?_
            refine q_then_ret ?_
            refine fin1 rfl rfl ?_
            exact q_vI rfl
          · have p76 := h76
            try simp only [decide_eq_true_eq, decide_eq_false_iff_not, Bool.not_eq_true', Bool.not_eq_false', Bool.and_eq_true, Bool.or_eq_true, Bool.or_eq_false_iff] at p76
            refine d_takeC 25 rfl rfl (by kernel_rfl) (by kernel_rfl) (by kernel_rfl) rfl (fun _ m => m.keeps (.refl _)) (y_yes rfl rfl h76 (v_move rfl)) ?_
            refine d_takeC 26 rfl rfl (by kernel_rfl) (by kernel_rfl) (by kernel_rfl) rfl (fun _ m => m.keeps (.refl _)) (y_yes rfl rfl h76 (v_move rfl)) ?_
            refine d_takeC 27 rfl rfl (by kernel_rfl) (by kernel_rfl) (by kernel_rfl) rfl (fun _ m => m.keeps (.refl _)) (y_yes rfl rfl h76 (OV.cast (u := .int .i64 (((r % (l.length - 1)) + 1 : Nat) : Int)) (v_add rfl rfl ⟨by omega, by omega⟩) (congrArg (Value.int .i64) (by omega)))) ?_
            obtain ⟨b80, o80, w80, e80, c80, r80⟩ := RdA.at_ hA11 (i := (r % (l.length - 1)) + 1) (by omega)
            obtain rfl := r80
            refine d_takeC 28 rfl rfl (by kernel_rfl) (by kernel_rfl) (by kernel_rfl) rfl (fun _ m => m.keeps (.refl _)) (y_yes rfl rfl h76 (v_idx T.elt_22 rfl rfl e80 ((r % (l.length - 1)) + 1) (by omega) (by omega))) ?_
            refine d_takeC 29 rfl rfl (by kernel_rfl) (by kernel_rfl) (by kernel_rfl) rfl (fun _ m => m.keeps (.refl _)) (y_yes rfl rfl h76 (v_fieldAddr T.fld_32_0 rfl)) ?_
            refine d_takeC 30 rfl rfl (by kernel_rfl) (by kernel_rfl) (by kernel_rfl) rfl (fun _ m => m.keeps (.refl _)) (y_yes rfl rfl h76 (v_ldI T.ty_3 rfl (c80 0 _ rfl))) ?_
            refine d_takeC 31 rfl rfl (by kernel_rfl) (by kernel_rfl) (by kernel_rfl) rfl (fun _ m => m.keeps (.refl _)) (y_yes rfl rfl h76 (v_eql rfl rfl)) ?_
            refine d_takeC 32 rfl rfl (by kernel_rfl) (by kernel_rfl) (by kernel_rfl) rfl (fun _ m => m.keeps (.refl _)) (y_v rfl (v_or_f h76 rfl rfl)) ?_
            refine d_done (by kernel_rfl) ?_
            refine q_then ?_
            refine c_cond rfl (fun h84 => ?_) (fun h84 => ?_)
            · have p84 := h84
              try simp only [decide_eq_true_eq, decide_eq_false_iff_not, Bool.not_eq_true', Bool.not_eq_false', Bool.and_eq_true, Bool.or_eq_true, Bool.or_eq_false_iff] at p84
              refine c_seq ?_
              refine c_region ?_
              refine o_v rfl (v_move rfl) ?_
              refine o_v rfl (v_assign rfl) ?_
              refine o_nil ?_
              refine q_then ?_
              refine c_ret ?_
              refine q_then_ret ?_
              refine fin1 rfl rfl ?_
              exact q_vI rfl
            · have p84 := h84
              try simp only [decide_eq_true_eq, decide_eq_false_iff_not, Bool.not_eq_true', Bool.not_eq_false', Bool.and_eq_true, Bool.or_eq_true, Bool.or_eq_false_iff] at p84
              have he0 : (runF c l).2.2 = 0 := by simpa using h54
              have hdd : (sortF l)[r % (l.length - 1)].day = (sortF l)[r % (l.length - 1) + 1].day := by simpa using h68
              have ho1 : (sortF l)[r % (l.length - 1)].op ≠ 3 := by simpa using h76
              have ho2 : (sortF l)[r % (l.length - 1) + 1].op ≠ 3 := by simpa using h84
              have hsx : SmE (sortF l)[r % (l.length - 1)] := hse _ (sortF_mem.1 (List.getElem_mem hk0))
              have hsy : SmE (sortF l)[r % (l.length - 1) + 1] := hse _ (sortF_mem.1 (List.getElem_mem hk1))
              refine c_skip ?_
              refine q_then ?_
              refine c_seq ?_
              refine c_cutx3 (Ix := (fun v13 v14 J => J)) (Lx := (fun v13 v14 J => [(3, .pointer (some ⟨g3, 0, none⟩)), (7, .bool true), (8, .pointer (some ⟨g8, 0, none⟩)), (11, .slice A11 (sortF l).length c11), (12, .int .i64 (((r % (l.length - 1)) : Nat) : Int)), (13, v13), (14, v14)])) (Hx := (fun v13 v14 J => [.blk g3 36 [vc], .blk g8 40 [.slice A8 (runF c l).1.length c8]])) (p := (fun v13 v14 J => ILe I40 J ∧ RdS J v13 (namesE (sortF l)[r % (l.length - 1)]) ∧ RdS J v14 (namesE (sortF l)[r % (l.length - 1) + 1]))) ?_ ?_
              · refine sx_knowI (fun hE11 hf11 => ?_)
                refine d_startH T.mixed ?_
                refine d_takeC 0 rfl rfl (by kernel_rfl) (by kernel_rfl) (by kernel_rfl) rfl (fun _ m => m.keeps (.refl _)) (y_v rfl (v_move rfl)) ?_
                refine d_takeC 1 rfl rfl (by kernel_rfl) (by kernel_rfl) (by kernel_rfl) rfl (fun _ m => m.keeps (.refl _)) (y_v rfl (v_move rfl)) ?_
                obtain ⟨b88, o88, w88, e88, c88, r88⟩ := RdA.at_ hA11 (i := (r % (l.length - 1))) (by omega)
                obtain rfl := r88
                refine d_takeC 2 rfl rfl (by kernel_rfl) (by kernel_rfl) (by kernel_rfl) rfl (fun _ m => m.keeps (.refl _)) (y_v rfl (v_idx T.elt_22 rfl rfl e88 ((r % (l.length - 1))) (by omega) (by omega))) ?_
                refine d_takeC 3 rfl rfl (by kernel_rfl) (by kernel_rfl) (by kernel_rfl) rfl (fun _ m => m.keeps (.refl _)) (y_v rfl (v_ldIa T.ty_32 rfl c88 rfl)) ?_
                refine d_takeC 5 rfl rfl (by kernel_rfl) (by kernel_rfl) (by kernel_rfl) rfl (fun _ m => m.keeps (.refl _)) (y_v rfl (v_move rfl)) ?_
                refine d_takeC 6 rfl rfl (by kernel_rfl) (by kernel_rfl) (by kernel_rfl) rfl (fun _ m => m.keeps (.refl _)) (y_v rfl (v_move rfl)) ?_
                refine d_takeC 7 rfl rfl (by kernel_rfl) (by kernel_rfl) (by kernel_rfl) rfl (fun _ m => m.keeps (.refl _)) (y_v rfl (OV.cast (u := .int .i64 (((r % (l.length - 1)) + 1 : Nat) : Int)) (v_add rfl rfl ⟨by omega, by omega⟩) (congrArg (Value.int .i64) (by omega)))) ?_
                obtain ⟨b94, o94, w94, e94, c94, r94⟩ := RdA.at_ hA11 (i := (r % (l.length - 1)) + 1) (by omega)
                obtain rfl := r94
                refine d_takeC 8 rfl rfl (by kernel_rfl) (by kernel_rfl) (by kernel_rfl) rfl (fun _ m => m.keeps (.refl _)) (y_v rfl (v_idx T.elt_22 rfl rfl e94 ((r % (l.length - 1)) + 1) (by omega) (by omega))) ?_
                refine d_takeC 9 rfl rfl (by kernel_rfl) (by kernel_rfl) (by kernel_rfl) rfl (fun _ m => m.keeps (.refl _)) (y_v rfl (v_ldIa T.ty_32 rfl c94 rfl)) ?_
                refine d_one 4 (by kernel_rfl) rfl ?_
                refine o_call (evNames _ _ hsx) rfl rfl (fun v90 I90 j90 q90 => ?_)
                have hvc := hvc.le j90
                have hA11 := hA11.le j90
                have hw8 := hw8.le j90
                refine d_on (fun _ m => m.keepsI (.refl _) (j90) hE11 hf11) ?_
                refine d_one 10 (by kernel_rfl) rfl ?_
                refine o_call (evNames _ _ hsy) rfl rfl (fun v96 I96 j96 q96 => ?_)
                have hvc := hvc.le j96
                have hA11 := hA11.le j96
                have hw8 := hw8.le j96
                refine d_on (fun _ m => m.keepsI (.refl _) ((j90).trans j96) hE11 hf11) ?_
                refine d_takeC 11 rfl rfl (by kernel_rfl) (by kernel_rfl) (by kernel_rfl) rfl (fun _ m => m.keepsI (.refl _) ((j90).trans j96) hE11 hf11) (y_v rfl (v_assign rfl)) ?_
                refine d_takeC 12 rfl rfl (by kernel_rfl) (by kernel_rfl) (by kernel_rfl) rfl (fun _ m => m.keepsI (.refl _) ((j90).trans j96) hE11 hf11) (y_v rfl (v_assign rfl)) ?_
                refine d_done (by kernel_rfl) ?_
                refine q_then ?_
                refine bring1 ?_
                exact q_cutx3 (_) (_) (_) ⟨by first | exact j90.trans j96 | exact j96.trans j90, by first | exact q90 | exact q90.le j96, by first | exact q96 | exact q96.le j90⟩ ⟨rfl, rfl, rfl, rfl, rfl, rfl, rfl, trivial⟩ rfl rfl
              · intro v13 v14 J ⟨hJ, hx13, hx14⟩
                have hvc := hvc.le hJ
                have hw8 := hw8.le hJ
                have hA11 := hA11.le hJ
                have q40s := q40s.le hJ
                obtain ⟨A13, c13, rfl, hA13, _, _⟩ := hx13
                obtain ⟨A14, c14, rfl, hA14, _, _⟩ := hx14
                refine c_seq ?_
                refine c_seq ?_
                refine c_region ?_
                refine o_v rfl (v_assign rfl) ?_
                refine o_nil ?_
                refine q_then ?_
                refine c_block ?_
                refine c_loop (α := Nat) 0 (fun i => J)
                  (fun i => [(3, .pointer (some ⟨g3, 0, none⟩)), (7, .bool true), (8, .pointer (some ⟨g8, 0, none⟩)), (11, .slice A11 (sortF l).length c11), (12, .int .i64 (((r % (l.length - 1)) : Nat) : Int)), (13, .slice A13 (namesE (sortF l)[r % (l.length - 1)]).length c13), (14, .slice A14 (namesE (sortF l)[r % (l.length - 1) + 1]).length c14), (15, .int .i64 ((i : Nat) : Int))])
                  (fun i => [.blk g3 36 [vc], .blk g8 40 [.slice A8 (runF c l).1.length c8]])
                  (fun i => i ≤ (namesE (sortF l)[r % (l.length - 1)]).length ∧ ∀ j x, j < i → (namesE (sortF l)[r % (l.length - 1)])[j]? = some x → (fun s => decide (s ∈ namesE (sortF l)[r % (l.length - 1) + 1])) x = false)
                  (fun i => (namesE (sortF l)[r % (l.length - 1)]).length - i) ⟨Nat.zero_le _, fun j x hj => absurd hj (Nat.not_lt_zero j)⟩ rfl ⟨rfl, rfl, rfl, rfl, rfl, rfl, rfl, rfl, trivial⟩ rfl ?_
                intro i ⟨hi, hn⟩
                refine c_seq ?_
                refine c_seq ?_
                refine c_region ?_
                refine o_v rfl (v_move rfl) ?_
                refine o_v rfl (v_move rfl) ?_
                refine o_v rfl (v_len_slice T.und_51 rfl) ?_
                refine o_v rfl (v_lss rfl rfl) ?_
                refine o_nil ?_
                refine q_then ?_
                refine c_cond rfl (fun h100 => ?_) (fun h100 => ?_)
                · have p100 := h100
                  try simp only [decide_eq_true_eq, decide_eq_false_iff_not, Bool.not_eq_true', Bool.not_eq_false', Bool.and_eq_true, Bool.or_eq_true, Bool.or_eq_false_iff] at p100
                  have hli : i < (namesE (sortF l)[r % (l.length - 1)]).length := by omega
                  refine c_skip ?_
                  refine q_then ?_
                  refine c_seq ?_
                  refine c_block ?_
                  refine c_seq ?_
                  refine c_region ?_
                  refine o_v rfl (v_assign rfl) ?_
                  refine o_nil ?_
                  refine q_then ?_
                  refine c_block ?_
                  refine c_loop (α := Nat) 0 (fun j => J)
                    (fun j => [(3, .pointer (some ⟨g3, 0, none⟩)), (7, .bool true), (8, .pointer (some ⟨g8, 0, none⟩)), (11, .slice A11 (sortF l).length c11), (12, .int .i64 (((r % (l.length - 1)) : Nat) : Int)), (13, .slice A13 (namesE (sortF l)[r % (l.length - 1)]).length c13), (14, .slice A14 (namesE (sortF l)[r % (l.length - 1) + 1]).length c14), (15, .int .i64 ((i : Nat) : Int)), (16, .int .i64 ((j : Nat) : Int))])
                    (fun j => [.blk g3 36 [vc], .blk g8 40 [.slice A8 (runF c l).1.length c8]])
                    (fun j => j ≤ (namesE (sortF l)[r % (l.length - 1) + 1]).length ∧ ∀ q x, q < j → (namesE (sortF l)[r % (l.length - 1) + 1])[q]? = some x → (fun s => decide ((namesE (sortF l)[r % (l.length - 1)])[i] = s)) x = false)
                    (fun j => (namesE (sortF l)[r % (l.length - 1) + 1]).length - j) ⟨Nat.zero_le _, fun j x hj => absurd hj (Nat.not_lt_zero j)⟩ rfl ⟨rfl, rfl, rfl, rfl, rfl, rfl, rfl, rfl, rfl, trivial⟩ rfl ?_
                  intro j ⟨hj, hm⟩
                  refine c_seq ?_
                  refine c_seq ?_
                  refine c_region ?_
                  refine o_v rfl (v_move rfl) ?_
                  refine o_v rfl (v_move rfl) ?_
                  refine o_v rfl (v_len_slice T.und_51 rfl) ?_
                  refine o_v rfl (v_lss rfl rfl) ?_
                  refine o_nil ?_
                  refine q_then ?_
                  refine c_cond rfl (fun h106 => ?_) (fun h106 => ?_)
                  · have p106 := h106
                    try simp only [decide_eq_true_eq, decide_eq_false_iff_not, Bool.not_eq_true', Bool.not_eq_false', Bool.and_eq_true, Bool.or_eq_true, Bool.or_eq_false_iff] at p106
                    have hlj : j < (namesE (sortF l)[r % (l.length - 1) + 1]).length := by omega
                    refine c_skip ?_
                    refine q_then ?_
                    refine c_seq ?_
                    refine c_block ?_
                    refine c_seq ?_
                    refine d_startH T.mixed ?_
                    refine d_takeC 0 rfl rfl (by kernel_rfl) (by kernel_rfl) (by kernel_rfl) rfl (fun _ m => m.keeps (.refl _)) (y_v rfl (v_move rfl)) ?_
                    refine d_takeC 1 rfl rfl (by kernel_rfl) (by kernel_rfl) (by kernel_rfl) rfl (fun _ m => m.keeps (.refl _)) (y_v rfl (v_move rfl)) ?_
                    obtain ⟨b111, o111, w111, e111, c111, r111⟩ := RdA.at_ hA13 (i := i) hli
                    obtain rfl := r111
                    refine d_takeC 2 rfl rfl (by kernel_rfl) (by kernel_rfl) (by kernel_rfl) rfl (fun _ m => m.keeps (.refl _)) (y_v rfl (v_idx T.elt_51 rfl rfl e111 (i) (by omega) hli)) ?_
                    refine d_takeC 3 rfl rfl (by kernel_rfl) (by kernel_rfl) (by kernel_rfl) rfl (fun _ m => m.keeps (.refl _)) (y_v rfl (v_ldI T.ty_9 rfl (c111 0 _ rfl))) ?_
                    refine d_takeC 4 rfl rfl (by kernel_rfl) (by kernel_rfl) (by kernel_rfl) rfl (fun _ m => m.keeps (.refl _)) (y_v rfl (v_move rfl)) ?_
                    refine d_takeC 5 rfl rfl (by kernel_rfl) (by kernel_rfl) (by kernel_rfl) rfl (fun _ m => m.keeps (.refl _)) (y_v rfl (v_move rfl)) ?_
                    obtain ⟨b115, o115, w115, e115, c115, r115⟩ := RdA.at_ hA14 (i := j) hlj
                    obtain rfl := r115
                    refine d_takeC 6 rfl rfl (by kernel_rfl) (by kernel_rfl) (by kernel_rfl) rfl (fun _ m => m.keeps (.refl _)) (y_v rfl (v_idx T.elt_51 rfl rfl e115 (j) (by omega) hlj)) ?_
                    refine d_takeC 7 rfl rfl (by kernel_rfl) (by kernel_rfl) (by kernel_rfl) rfl (fun _ m => m.keeps (.refl _)) (y_v rfl (v_ldI T.ty_9 rfl (c115 0 _ rfl))) ?_
                    refine d_takeC 8 rfl rfl (by kernel_rfl) (by kernel_rfl) (by kernel_rfl) rfl (fun _ m => m.keeps (.refl _)) (y_v rfl (v_seql rfl rfl)) ?_
                    refine d_done (by kernel_rfl) ?_
                    refine q_then ?_
                    refine c_cond rfl (fun h117 => ?_) (fun h117 => ?_)
                    · have p117 := h117
                      try simp only [decide_eq_true_eq, decide_eq_false_iff_not, Bool.not_eq_true', Bool.not_eq_false', Bool.and_eq_true, Bool.or_eq_true, Bool.or_eq_false_iff] at p117
                      refine c_seq ?_
                      refine c_region ?_
                      refine o_v rfl (v_move rfl) ?_
                      refine o_v rfl (v_assign rfl) ?_
                      refine o_nil ?_
                      refine q_then ?_
                      refine c_ret ?_
                      refine q_block_ret ?_
                      refine q_then_ret ?_
                      refine q_then_ret ?_
                      refine q_block_ret ?_
                      refine q_block_ret ?_
                      refine q_then_ret ?_
                      refine q_then_ret ?_
                      refine q_block_ret ?_
                      refine q_then_ret ?_
                      refine fin1 rfl rfl ?_
                      exact q_vI rfl
                    · have p117 := h117
                      try simp only [decide_eq_true_eq, decide_eq_false_iff_not, Bool.not_eq_true', Bool.not_eq_false', Bool.and_eq_true, Bool.or_eq_true, Bool.or_eq_false_iff] at p117
                      refine c_skip ?_
                      refine q_block ?_
                      refine q_then ?_
                      refine c_region ?_
                      refine o_v rfl (v_move rfl) ?_
                      refine o_v rfl (v_add rfl rfl ⟨by omega, by omega⟩) ?_
                      refine o_v rfl (v_assign rfl) ?_
                      refine o_nil ?_
                      refine q_then ?_
                      exact q_next (j + 1) ⟨by omega, idx_next (p := fun s => decide ((namesE (sortF l)[r % (l.length - 1)])[i] = s)) hm hlj (by simpa using h117)⟩ (by omega) rfl ⟨rfl, rfl, rfl, rfl, rfl, rfl, rfl, rfl, rfl, trivial⟩ rfl
                  · have p106 := h106
                    try simp only [decide_eq_true_eq, decide_eq_false_iff_not, Bool.not_eq_true', Bool.not_eq_false', Bool.and_eq_true, Bool.or_eq_true, Bool.or_eq_false_iff] at p106
                    have hno : ¬ (namesE (sortF l)[r % (l.length - 1)])[i] ∈ namesE (sortF l)[r % (l.length - 1) + 1] := fun hmem => by
                      obtain ⟨q, hq, e⟩ := List.getElem_of_mem hmem
                      have := hm q _ (by omega) (List.getElem?_eq_getElem hq)
                      simp [e] at this
                    refine c_exit ?_
                    refine q_then_exit ?_
                    refine q_then_exit ?_
                    refine q_block_eq ?_
                    refine q_block ?_
                    refine q_then ?_
                    refine c_region ?_
                    refine o_v rfl (v_move rfl) ?_
                    refine o_v rfl (v_add rfl rfl ⟨by omega, by omega⟩) ?_
                    refine o_v rfl (v_assign rfl) ?_
                    refine o_nil ?_
                    refine q_then ?_
                    exact q_next (i + 1) ⟨by omega, idx_next (p := fun s => decide (s ∈ namesE (sortF l)[r % (l.length - 1) + 1])) hn hli (decide_eq_false hno)⟩ (by omega) rfl ⟨rfl, rfl, rfl, rfl, rfl, rfl, rfl, rfl, trivial⟩ rfl
                · have p100 := h100
                  try simp only [decide_eq_true_eq, decide_eq_false_iff_not, Bool.not_eq_true', Bool.not_eq_false', Bool.and_eq_true, Bool.or_eq_true, Bool.or_eq_false_iff] at p100
                  have hnn : ∀ z ∈ namesE (sortF l)[r % (l.length - 1)], z ∉ namesE (sortF l)[r % (l.length - 1) + 1] := fun z hz => by
                    obtain ⟨q, hq, rfl⟩ := List.getElem_of_mem hz
                    simpa using hn q _ (by omega) (List.getElem?_eq_getElem hq)
                  have hex := exchange he0 hk1 hdd ho1 ho2 hnn
                  refine c_exit ?_
                  refine q_then_exit ?_
                  refine q_then_exit ?_
                  refine q_block_eq ?_
                  refine q_then ?_
                  refine c_seq ?_
                  refine c_region ?_
                  refine o_cons ?_
                  refine o_buildSlice T.elt_22 T.zero_32 rfl rfl rfl rfl rfl rfl rfl (fun v119 => ?_)
                  refine o_v rfl (v_move rfl) ?_
                  refine o_cons ?_
                  refine o_appendR (q40s) rfl T.und_22 T.by_32 rfl rfl rfl rfl (by omega) (by omega) rfl (fun v121 x121 f121 => ?_)
                  refine o_v rfl (v_assign rfl) ?_
                  refine o_nil ?_
                  refine q_then ?_
                  refine c_seq ?_
                  refine c_cutx3 (Ix := (fun g cap rest => J)) (Lx := (fun g cap rest => [(3, .pointer (some ⟨g3, 0, none⟩)), (7, .bool true), (8, .pointer (some ⟨g8, 0, none⟩)), (17, .slice (some ⟨g, 0, none⟩) (0 + (sortF l).length) cap)])) (Hx := (fun g cap rest => [.blk g 32 (evCh (swp (sortF l) (r % (l.length - 1) + 1) (r % (l.length - 1))) ++ rest).flatten, .blk g3 36 [vc], .blk g8 40 [.slice A8 (runF c l).1.length c8]])) (p := (fun g cap rest => Uk 14 rest ∧ 0 + (sortF l).length + rest.length = cap ∧ cap ≤ maxLen)) ?_ ?_
                  · obtain ⟨xss, rfl, hxs⟩ := FlatC.of f121
                    obtain rfl := evCh_of hxs
                    refine sx_row (xss := evCh (sortF l)) (m := 0 + (sortF l).length) (evCh_ukE _) (by rw [evCh_len, Nat.zero_add]) (fun h0 _ => by omega) (fun g cap rest hgv hR hcap hmax => ?_)
                    subst hgv
                    refine d_start1 T.mixed ?_
                    refine d_takeC 0 rfl rfl (by kernel_rfl) (by kernel_rfl) (by kernel_rfl) rfl (fun _ m => m.keeps (.cons _ (.refl _))) (y_v rfl (v_move rfl)) ?_
                    refine d_takeC 1 rfl rfl (by kernel_rfl) (by kernel_rfl) (by kernel_rfl) rfl (fun _ m => m.keeps (.cons _ (.refl _))) (y_v rfl (v_move rfl)) ?_
                    refine d_takeC 2 rfl rfl (by kernel_rfl) (by kernel_rfl) (by kernel_rfl) rfl (fun _ m => m.keeps (.cons _ (.refl _))) (y_v rfl (v_move rfl)) ?_
                    refine d_takeC 3 rfl rfl (by kernel_rfl) (by kernel_rfl) (by kernel_rfl) rfl (fun _ m => m.keeps (.cons _ (.refl _))) (y_v rfl (v_move rfl)) ?_
                    refine d_takeC 4 rfl rfl (by kernel_rfl) (by kernel_rfl) (by kernel_rfl) rfl (fun _ m => m.keeps (.cons _ (.refl _))) (y_v rfl (OV.cast (u := .int .i64 (((r % (l.length - 1)) + 1 : Nat) : Int)) (v_add rfl rfl ⟨by omega, by omega⟩) (congrArg (Value.int .i64) (by omega)))) ?_
                    refine d_takeC 5 rfl rfl (by kernel_rfl) (by kernel_rfl) (by kernel_rfl) rfl (fun _ m => m.keeps (.cons _ (.refl _))) (y_v rfl (v_move rfl)) ?_
                    refine d_takeC 6 rfl rfl (by kernel_rfl) (by kernel_rfl) (by kernel_rfl) rfl (fun _ m => m.keeps (.cons _ (.refl _))) (y_v rfl (v_move rfl)) ?_
                    refine d_takeC 7 rfl rfl (by kernel_rfl) (by kernel_rfl) (by kernel_rfl) rfl (fun _ m => m.keeps (.cons _ (.refl _))) (y_v rfl (OV.cast (u := .int .i64 (((r % (l.length - 1)) + 1 : Nat) : Int)) (v_add rfl rfl ⟨by omega, by omega⟩) (congrArg (Value.int .i64) (by omega)))) ?_
                    refine d_takeC 8 rfl rfl (by kernel_rfl) (by kernel_rfl) (by kernel_rfl) rfl (fun _ m => m.keeps (.cons _ (.refl _))) (y_v rfl (v_idx T.elt_22 rfl rfl rfl ((r % (l.length - 1)) + 1) (by omega) (by omega))) ?_
                    refine d_takeC 10 rfl rfl (by kernel_rfl) (by kernel_rfl) (by kernel_rfl) rfl (fun _ m => m.keeps (.cons _ (.refl _))) (y_v rfl (v_move rfl)) ?_
                    refine d_takeC 11 rfl rfl (by kernel_rfl) (by kernel_rfl) (by kernel_rfl) rfl (fun _ m => m.keeps (.cons _ (.refl _))) (y_v rfl (v_move rfl)) ?_
                    refine d_takeC 12 rfl rfl (by kernel_rfl) (by kernel_rfl) (by kernel_rfl) rfl (fun _ m => m.keeps (.cons _ (.refl _))) (y_v rfl (v_idx T.elt_22 rfl rfl rfl ((r % (l.length - 1))) (by omega) (by omega))) ?_
                    refine d_two 9 13 (by kernel_rfl) rfl rfl ?_ ?_
                    · refine o_val rfl (v_ldc m0 (by first | exact (evCh_ukE _).append hR | exact ((evCh_ukE _).append hR).set rfl _) T.ty_32 rfl ((r % (l.length - 1)) + 1) (by omega) (evCh_rest hk1)) ?_
                      refine d_on (fun _ m => m.keeps (.cons _ (.refl _))) ?_
                      refine d_one 13 (by kernel_rfl) rfl ?_
                      refine o_val rfl (v_ldc m0 (by first | exact (evCh_ukE _).append hR | exact ((evCh_ukE _).append hR).set rfl _) T.ty_32 rfl ((r % (l.length - 1))) (by omega) (evCh_rest hk0)) ?_
                      refine d_on (fun _ m => m.keeps (.cons _ (.refl _))) ?_
                      refine d_takeC 14 rfl rfl (by kernel_rfl) (by kernel_rfl) (by kernel_rfl) rfl (fun _ m => m.keeps (.cons _ (.refl _))) (y_v rfl (v_idx T.elt_22 rfl rfl rfl ((r % (l.length - 1))) (by omega) (by omega))) ?_
                      refine d_one 15 (by kernel_rfl) rfl ?_
                      refine o_stc _ ((r % (l.length - 1))) (by first | exact (evCh_ukE _).append hR | exact ((evCh_ukE _).append hR).set rfl _) T.ty_32 rfl rfl rfl rfl rfl (by omega) (by simp [evCh_len]; omega) ?_
                      refine d_on (fun _ m => m.keeps (.cons _ (.refl _))) ?_
                      refine d_takeC 16 rfl rfl (by kernel_rfl) (by kernel_rfl) (by kernel_rfl) rfl (fun _ m => m.keeps (.cons _ (.refl _))) (y_v rfl (v_idx T.elt_22 rfl rfl rfl ((r % (l.length - 1)) + 1) (by omega) (by omega))) ?_
                      refine d_one 17 (by kernel_rfl) rfl ?_
                      refine o_stc _ ((r % (l.length - 1)) + 1) (by first | exact (evCh_ukE _).append hR | exact ((evCh_ukE _).append hR).set rfl _) T.ty_32 rfl rfl rfl rfl rfl (by omega) (by simp [evCh_len]; omega) ?_
                      refine d_on (fun _ m => m.keeps (.cons _ (.refl _))) ?_
                      refine d_done (by kernel_rfl) ?_
                      refine q_then ?_
                      exact q_cutx3 (_) (_) (_) ⟨hR, hcap, hmax⟩ ⟨rfl, rfl, rfl, rfl, trivial⟩ (by first | rw [← swp_rest2 hk1] | rw [← swp_rest2' hk1]) rfl
                    · refine o_val rfl (v_ldc m0 (by first | exact (evCh_ukE _).append hR | exact ((evCh_ukE _).append hR).set rfl _) T.ty_32 rfl ((r % (l.length - 1))) (by omega) (evCh_rest hk0)) ?_
                      refine d_on (fun _ m => m.keeps (.cons _ (.refl _))) ?_
                      refine d_one 9 (by kernel_rfl) rfl ?_
                      refine o_val rfl (v_ldc m0 (by first | exact (evCh_ukE _).append hR | exact ((evCh_ukE _).append hR).set rfl _) T.ty_32 rfl ((r % (l.length - 1)) + 1) (by omega) (evCh_rest hk1)) ?_
                      refine d_on (fun _ m => m.keeps (.cons _ (.refl _))) ?_
                      refine d_takeC 14 rfl rfl (by kernel_rfl) (by kernel_rfl) (by kernel_rfl) rfl (fun _ m => m.keeps (.cons _ (.refl _))) (y_v rfl (v_idx T.elt_22 rfl rfl rfl ((r % (l.length - 1))) (by omega) (by omega))) ?_
                      refine d_one 15 (by kernel_rfl) rfl ?_
                      refine o_stc _ ((r % (l.length - 1))) (by first | exact (evCh_ukE _).append hR | exact ((evCh_ukE _).append hR).set rfl _) T.ty_32 rfl rfl rfl rfl rfl (by omega) (by simp [evCh_len]; omega) ?_
                      refine d_on (fun _ m => m.keeps (.cons _ (.refl _))) ?_
                      refine d_takeC 16 rfl rfl (by kernel_rfl) (by kernel_rfl) (by kernel_rfl) rfl (fun _ m => m.keeps (.cons _ (.refl _))) (y_v rfl (v_idx T.elt_22 rfl rfl rfl ((r % (l.length - 1)) + 1) (by omega) (by omega))) ?_
                      refine d_one 17 (by kernel_rfl) rfl ?_
                      refine o_stc _ ((r % (l.length - 1)) + 1) (by first | exact (evCh_ukE _).append hR | exact ((evCh_ukE _).append hR).set rfl _) T.ty_32 rfl rfl rfl rfl rfl (by omega) (by simp [evCh_len]; omega) ?_
                      refine d_on (fun _ m => m.keeps (.cons _ (.refl _))) ?_
                      refine d_done (by kernel_rfl) ?_
                      refine q_then ?_
                      exact q_cutx3 (_) (_) (_) ⟨hR, hcap, hmax⟩ ⟨rfl, rfl, rfl, rfl, trivial⟩ (by first | rw [← swp_rest2 hk1] | rw [← swp_rest2' hk1]) rfl
                  · intro g cap rest ⟨hR, hcap, hmax⟩
                    have hwl := swp_len (sortF l) (r % (l.length - 1) + 1) (r % (l.length - 1))
                    refine c_seq ?_
                    refine c_region ?_
                    refine o_v rfl (v_ldw m1 T.ty_36 rfl rfl) ?_
                    refine o_v rfl (v_move rfl) ?_
                    refine o_cons ?_
                    refine sx_unrow (m := 0 + (sortF l).length) (cap := cap) (evCh_ukE _) hR (by rw [evCh_len, hwl, Nat.zero_add]) hcap hmax ?_
                    refine sx_pubrow (l := swp (sortF l) (r % (l.length - 1) + 1) (r % (l.length - 1))) rfl (by rw [hwl, Nat.zero_add]) ((evCh_flat _).flat) (fun Ip jp Rp => ?_)
                    have hvc := hvc.le jp
                    have hw8 := hw8.le jp
                    refine o_call (cRun _ vc c hvc hsc _ _ Rp (by omega) (fun e he => hse e (sortF_mem.1 (swp_sub he)))) rfl rfl (fun v141 I141 j141 q141 => ?_)
                    have hw8 := hw8.le j141
                    obtain ⟨w18, rfl, hw18⟩ := q141
                    refine o_v rfl (v_move rfl) ?_
                    refine o_v rfl (v_extract rfl rfl) ?_
                    refine o_v rfl (v_extract rfl rfl) ?_
                    refine o_v rfl (v_extract rfl rfl) ?_
                    refine o_cons ?_
                    refine o_alloc T.zero_40 rfl (fun g18 => ?_)
                    refine o_cons ?_
                    refine o_stw _ T.ty_40 rfl rfl rfl rfl rfl (by simp [hw18.one]) ?_
                    refine o_v rfl (v_assign rfl) ?_
                    refine o_v rfl (v_assign rfl) ?_
                    refine o_nil ?_
                    refine q_then ?_
                    refine c_seq ?_
                    refine c_region ?_
                    refine o_v rfl (v_move rfl) ?_
                    refine o_v rfl (v_move rfl) ?_
                    refine o_cons (o_yes rfl rfl rfl (o_val rfl (v_move rfl) ?_))
                    refine o_cons (o_yes rfl rfl rfl (o_val rfl (OV.cast (u := .bool true) (v_eql rfl rfl) (congrArg Value.bool (decide_eq_true (by rw [hex]; exact he0)))) ?_))
                    refine o_v rfl (v_and_t rfl rfl rfl) ?_
                    refine o_v rfl (v_move rfl) ?_
                    refine o_cons (o_yes rfl rfl rfl (o_val rfl (v_ldw m2 T.ty_40 rfl rfl) ?_))
                    refine o_cons (o_yes rfl rfl rfl (o_val rfl (v_ldw m0 T.ty_40 rfl rfl) ?_))
                    refine o_cons ?_
                    refine o_yes rfl rfl rfl (o_callV (sameSt_t _ _ _ hw8 _ _ hw18 (by rw [hex])) rfl rfl ?_)
                    refine o_v rfl (v_and_t rfl rfl rfl) ?_
                    refine o_v rfl (v_assign rfl) ?_
                    refine o_nil ?_
                    refine q_then ?_
                    refine c_ret ?_
                    refine fin1 rfl rfl ?_
                    exact q_vI rfl

end Go.Proofs.Ytechmdlbpbpkdaa
