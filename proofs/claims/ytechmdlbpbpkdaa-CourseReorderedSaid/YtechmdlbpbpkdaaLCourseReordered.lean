/- Walks, printed by a program out of the code of the functions: each theorem is a contract of one function. -/
import Derived.Test.YtechmdlbpbpkdaaW13
import Derived.Test.YtechmdlbpbpkdaaM14
import Derived.Test.YtechmdlbpbpkdaaSxOpen
namespace Go.Proofs.Ytechmdlbpbpkdaa
open Go Go.Sx
set_option linter.all false
set_option maxRecDepth 20000
set_option maxHeartbeats 4000000
theorem lawReordered (I : IMap) (vc : Value) (c : List Kind) (hvc : RdS I vc c) (hoc : ∀ x ∈ c, OkKd x) (v : Value) (l : List Evt) (hv : RdS I v l) (hok : ∀ x ∈ l, OkE x) (day : Int) (wd : (Lit.int .i64 day).wf = true) :
    FnV Try.prog 6 #[.agg #[vc], v, .int .i64 day] I (.bool true) := by
  have hv0 := hv
  obtain ⟨A0, c0, rfl, hA, hc, hm⟩ := hv
  refine enter Try.func6 Try.call6 rfl Try.ntmps6 rfl (fun w0 => ?_)
  refine c_seq ?_
  refine c_region ?_
  refine o_cons ?_
  refine o_box _ rfl rfl rfl (fun g3 => ?_)
  refine o_v rfl (v_assign rfl) ?_
  refine o_nil ?_
  refine q_then ?_
  refine c_seq ?_
  refine c_region ?_
  refine o_cons ?_
  refine o_callV (head11 _) rfl rfl ?_
  refine o_v rfl (v_assign rfl) ?_
  refine o_nil ?_
  refine q_then ?_
  refine c_seq ?_
  refine c_seq ?_
  refine c_region ?_
  refine o_v rfl (v_ldw m0 T.ty_36 rfl rfl) ?_
  refine o_v rfl (v_move rfl) ?_
  refine o_cons ?_
  refine o_callV (few11 _ vc c hvc _ l hv0) rfl rfl ?_
  refine o_v rfl (v_not rfl) ?_
  refine o_nil ?_
  refine q_then ?_
  refine c_cond rfl (fun h22 => ?_) (fun h22 => ?_)
  · have p22 := h22
    try simp only [decide_eq_true_eq, decide_eq_false_iff_not, Bool.not_eq_true', Bool.not_eq_false', Bool.and_eq_true, Bool.or_eq_true, Bool.or_eq_false_iff] at p22
    refine c_seq ?_
    refine c_region ?_
    refine o_v rfl (v_move rfl) ?_
    refine o_v rfl (v_assign rfl) ?_
    refine o_nil ?_
    refine q_then ?_
    refine c_ret ?_
    refine q_then_ret ?_
    refine fin1 rfl rfl ?_
    exact q_vI rfl
  · have p22 := h22
    try simp only [decide_eq_true_eq, decide_eq_false_iff_not, Bool.not_eq_true', Bool.not_eq_false', Bool.and_eq_true, Bool.or_eq_true, Bool.or_eq_false_iff] at p22
    have hf : fewC c = true ∧ fewE l 60 = true := by simpa using h22
    obtain ⟨hse, hl⟩ := fewE_sm hf.2
    have hsc := fewC_sm hf.1
    have hl6 : l.length ≤ 1000000 := by omega
    refine c_skip ?_
    refine q_then ?_
    refine c_seq ?_
    refine c_region ?_
    refine sx_nilrow 32 14 ?_
    refine o_v rfl (v_assign rfl) ?_
    refine sx_nilrow 32 14 ?_
    refine o_v rfl (v_assign rfl) ?_
    refine o_nil ?_
    refine q_then ?_
    refine c_seq ?_
    refine c_seq ?_
    refine c_region ?_
    refine o_v rfl (v_assign rfl) ?_
    refine o_nil ?_
    refine q_then ?_
    refine c_block ?_
    refine bring2 ?_
    refine bring1 ?_
    refine bring2 ?_
    refine c_loop3 (0) (.slice none 0 0) (.slice none 0 0) (fun i v8 v9 => I)
      (fun i v8 v9 => [(1, .slice A0 l.length c0), (2, .int .i64 day), (3, .pointer (some ⟨g3, 0, none⟩)), (7, .bool true), (8, v8), (9, v9), (10, .int .i64 ((i : Nat) : Int))])
      (fun i v8 v9 => [.row v8 32 14 (neD (l.take i) day).length (evCh (neD (l.take i) day)).flatten, .row v9 32 14 (eqD (l.take i) day).length (evCh (eqD (l.take i) day)).flatten, .blk g3 36 [vc]])
      (fun i v8 v9 => i ≤ l.length)
      (fun i v8 v9 => l.length - i) (Nat.zero_le _) rfl ⟨rfl, rfl, rfl, rfl, rfl, rfl, rfl, trivial⟩ rfl ?_
    intro i v8 v9 hi
    have hln := eqD_len l day i
    have hun := neD_len l day i
    refine c_seq ?_
    refine c_seq ?_
    refine c_region ?_
    refine o_v rfl (v_move rfl) ?_
    refine o_v rfl (v_move rfl) ?_
    refine o_v rfl (v_len_slice T.und_22 rfl) ?_
    refine o_v rfl (v_lss rfl rfl) ?_
    refine o_nil ?_
    refine q_then ?_
    refine c_cond rfl (fun h27 => ?_) (fun h27 => ?_)
    · have p27 := h27
      try simp only [decide_eq_true_eq, decide_eq_false_iff_not, Bool.not_eq_true', Bool.not_eq_false', Bool.and_eq_true, Bool.or_eq_true, Bool.or_eq_false_iff] at p27
      have hlt : i < l.length := by omega
      refine c_skip ?_
      refine q_then ?_
      refine c_seq ?_
      refine c_block ?_
      refine c_seq ?_
      refine c_region ?_
      refine o_v rfl (v_move rfl) ?_
      refine o_v rfl (v_move rfl) ?_
      obtain ⟨b32, o32, w32, e32, c32, r32⟩ := RdA.at_ hA (i := i) hlt
      obtain rfl := r32
      refine o_v rfl (v_idx T.elt_22 rfl rfl e32 (i) (by omega) hlt) ?_
      refine o_v rfl (v_fieldAddr T.fld_32_1 rfl) ?_
      refine o_v rfl (v_ldI T.ty_3 rfl (c32 1 _ rfl)) ?_
      refine o_v rfl (v_move rfl) ?_
      refine o_v rfl (v_eql rfl rfl) ?_
      refine o_nil ?_
      refine q_then ?_
      refine c_cond rfl (fun h36 => ?_) (fun h36 => ?_)
      · have p36 := h36
        try simp only [decide_eq_true_eq, decide_eq_false_iff_not, Bool.not_eq_true', Bool.not_eq_false', Bool.and_eq_true, Bool.or_eq_true, Bool.or_eq_false_iff] at p36
        have hd : l[i].day = day := by simpa using h36
        refine c_region ?_
        refine o_v rfl (v_move rfl) ?_
        refine o_v rfl (v_move rfl) ?_
        refine o_v rfl (v_move rfl) ?_
        obtain ⟨b40, o40, w40, e40, c40, r40⟩ := RdA.at_ hA (i := i) hlt
        obtain rfl := r40
        refine o_v rfl (v_idx T.elt_22 rfl rfl e40 (i) (by omega) hlt) ?_
        refine o_v rfl (v_ldIa T.ty_32 rfl c40 rfl) ?_
        refine o_cons ?_
        refine o_buildSlice T.elt_22 T.zero_32 rfl rfl rfl rfl rfl rfl rfl (fun v42 => ?_)
        refine o_cons ?_
        refine bring2 ?_
        refine o_appendO T.und_22 T.by_32 rfl rfl rfl rfl rfl (by omega) (by omega) rfl (fun v43 => ?_)
        refine o_v rfl (v_assign rfl) ?_
        refine o_nil ?_
        refine q_block ?_
        refine q_then ?_
        refine c_region ?_
        refine o_v rfl (v_move rfl) ?_
        refine o_v rfl (v_add rfl rfl ⟨by omega, by omega⟩) ?_
        refine o_v rfl (v_assign rfl) ?_
        refine o_nil ?_
        refine q_then ?_
        refine bring1 ?_
        refine sx_drop ?_
        refine bring2 ?_
        refine bring1 ?_
        refine bring2 ?_
        exact q_next3 (i + 1) (v8) (v43) (by omega) (by omega) rfl ⟨rfl, rfl, rfl, rfl, rfl, rfl, rfl, trivial⟩ (by rw [eqD_yes hlt hd, neD_no hlt hd, List.length_append, evCh_snoc]; rfl)
      · have p36 := h36
        try simp only [decide_eq_true_eq, decide_eq_false_iff_not, Bool.not_eq_true', Bool.not_eq_false', Bool.and_eq_true, Bool.or_eq_true, Bool.or_eq_false_iff] at p36
        have hd : ¬ l[i].day = day := by simpa using h36
        refine c_region ?_
        refine o_v rfl (v_move rfl) ?_
        refine o_v rfl (v_move rfl) ?_
        refine o_v rfl (v_move rfl) ?_
        obtain ⟨b47, o47, w47, e47, c47, r47⟩ := RdA.at_ hA (i := i) hlt
        obtain rfl := r47
        refine o_v rfl (v_idx T.elt_22 rfl rfl e47 (i) (by omega) hlt) ?_
        refine o_v rfl (v_ldIa T.ty_32 rfl c47 rfl) ?_
        refine o_cons ?_
        refine o_buildSlice T.elt_22 T.zero_32 rfl rfl rfl rfl rfl rfl rfl (fun v49 => ?_)
        refine o_cons ?_
        refine bring1 ?_
        refine o_appendO T.und_22 T.by_32 rfl rfl rfl rfl rfl (by omega) (by omega) rfl (fun v50 => ?_)
        refine o_v rfl (v_assign rfl) ?_
        refine o_nil ?_
        refine q_block ?_
        refine q_then ?_
        refine c_region ?_
        refine o_v rfl (v_move rfl) ?_
        refine o_v rfl (v_add rfl rfl ⟨by omega, by omega⟩) ?_
        refine o_v rfl (v_assign rfl) ?_
        refine o_nil ?_
        refine q_then ?_
        refine bring1 ?_
        refine sx_drop ?_
        exact q_next3 (i + 1) (v50) (v9) (by omega) (by omega) rfl ⟨rfl, rfl, rfl, rfl, rfl, rfl, rfl, trivial⟩ (by rw [eqD_no hlt hd, neD_yes hlt hd, List.length_append, evCh_snoc]; rfl)
    · have p27 := h27
      try simp only [decide_eq_true_eq, decide_eq_false_iff_not, Bool.not_eq_true', Bool.not_eq_false', Bool.and_eq_true, Bool.or_eq_true, Bool.or_eq_false_iff] at p27
      obtain rfl : i = l.length := by omega
      rw [List.take_length]
      have hel : (eqD l day).length ≤ l.length := List.length_filter_le _ _
      have hnl : (neD l day).length ≤ l.length := List.length_filter_le _ _
      have hol : (neD l day ++ eqD l day).length ≤ 120 := by rw [List.length_append]; omega
      have hos : ∀ e ∈ neD l day ++ eqD l day, SmE e := fun e he => hse e (by rcases List.mem_append.1 he with h | h <;> exact (List.mem_filter.1 h).1)
      have hrs := reord l day
      have hrr := run_reord c l day
      refine c_exit ?_
      refine q_then_exit ?_
      refine q_then_exit ?_
      refine q_block_eq ?_
      refine q_then ?_
      refine c_seq ?_
      refine c_region ?_
      refine o_v rfl (v_move rfl) ?_
      refine o_v rfl (v_move rfl) ?_
      refine o_cons ?_
      refine bring1 ?_
      refine bring1 ?_
      refine o_appendO T.und_22 T.by_32 rfl rfl (evCh_flat (I := I) (eqD l day)).one rfl rfl (by omega) (by omega) rfl (fun v53 => ?_)
      refine o_v rfl (v_assign rfl) ?_
      refine o_nil ?_
      refine q_then ?_
      refine c_seq ?_
      refine c_region ?_
      refine o_v rfl (v_ldw m2 T.ty_36 rfl rfl) ?_
      refine o_v rfl (v_move rfl) ?_
      refine o_cons ?_
      refine sx_roweq (ys := (evCh (neD l day ++ eqD l day)).flatten) ((evCh_app _ _).symm) ?_
      refine sx_pubrow (l := neD l day ++ eqD l day) rfl (by rw [List.length_append]) ((evCh_flat _).flat) (fun Ip jp Rp => ?_)
      have hvc := hvc.le jp
      have hv0 := hv0.le jp
      refine o_call (cRun _ vc c hvc hsc _ l hv0 hl6 hse) rfl rfl (fun v57 I57 j57 q57 => ?_)
      have hvc := hvc.le j57
      have hv0 := hv0.le j57
      have Rp := Rp.le j57
      obtain ⟨w12, rfl, hw12⟩ := q57
      refine o_v rfl (v_move rfl) ?_
      refine o_v rfl (v_extract rfl rfl) ?_
      refine o_v rfl (v_extract rfl rfl) ?_
      refine o_v rfl (v_extract rfl rfl) ?_
      refine o_cons ?_
      refine o_alloc T.zero_40 rfl (fun g12 => ?_)
      refine o_cons ?_
      refine o_stw _ T.ty_40 rfl rfl rfl rfl rfl (by simp [hw12.one]) ?_
      refine o_v rfl (v_assign rfl) ?_
      refine o_v rfl (v_assign rfl) ?_
      refine o_nil ?_
      refine q_then ?_
      refine c_seq ?_
      refine c_region ?_
      refine o_v rfl (v_ldw m2 T.ty_36 rfl rfl) ?_
      refine o_v rfl (v_move rfl) ?_
      refine o_cons ?_
      refine o_call (cRun _ vc c hvc hsc _ _ Rp (by omega) hos) rfl rfl (fun v64 I64 j64 q64 => ?_)
      have hv0 := hv0.le j64
      have hw12 := hw12.le j64
      have Rp := Rp.le j64
      obtain ⟨w15, rfl, hw15⟩ := q64
      refine o_v rfl (v_move rfl) ?_
      refine o_v rfl (v_extract rfl rfl) ?_
      refine o_v rfl (v_extract rfl rfl) ?_
      refine o_v rfl (v_extract rfl rfl) ?_
      refine o_cons ?_
      refine o_alloc T.zero_40 rfl (fun g15 => ?_)
      refine o_cons ?_
      refine o_stw _ T.ty_40 rfl rfl rfl rfl rfl (by simp [hw15.one]) ?_
      refine o_v rfl (v_assign rfl) ?_
      refine o_v rfl (v_assign rfl) ?_
      refine o_nil ?_
      refine q_then ?_
      refine c_seq ?_
      refine c_region ?_
      refine o_v rfl (v_move rfl) ?_
      refine o_v rfl (v_move rfl) ?_
      refine o_cons (o_yes rfl rfl rfl (o_val rfl (v_move rfl) ?_))
      refine o_cons ?_
      refine o_yes rfl rfl rfl (o_call (cSort _ _ l hv0 hl6) rfl rfl (fun v71 I71 j71 q71 => ?_))
      have Rp := Rp.le j71
      have hw12 := hw12.le j71
      have hw15 := hw15.le j71
      refine o_cons (o_yes rfl rfl rfl (o_val rfl (v_move rfl) ?_))
      refine o_cons ?_
      refine o_yes rfl rfl rfl (o_call (cSort _ _ _ Rp (by omega)) rfl rfl (fun v73 I73 j73 q73 => ?_))
      have q71 := q71.le j73
      have hw12 := hw12.le j73
      have hw15 := hw15.le j73
      refine o_cons ?_
      refine o_yes rfl rfl rfl (o_callV (sameE_t _ _ _ q71 _ _ q73 hrs.symm) rfl rfl ?_)
      refine o_v rfl (v_and_t rfl rfl rfl) ?_
      refine o_v rfl (v_move rfl) ?_
      refine o_cons (o_yes rfl rfl rfl (o_val rfl (v_ldw m1 T.ty_40 rfl rfl) ?_))
      refine o_cons (o_yes rfl rfl rfl (o_val rfl (v_ldw m0 T.ty_40 rfl rfl) ?_))
      refine o_cons ?_
      refine o_yes rfl rfl rfl (o_callV (sameSt_t _ _ _ hw12 _ _ hw15 (congrArg (·.1) hrr.symm)) rfl rfl ?_)
      refine o_v rfl (v_and_t rfl rfl rfl) ?_
      refine o_v rfl (v_move rfl) ?_
      refine o_cons (o_yes rfl rfl rfl (o_val rfl (v_move rfl) ?_))
      refine o_cons (o_yes rfl rfl rfl (o_val rfl (v_move rfl) ?_))
      refine o_cons (o_yes rfl rfl rfl (o_val rfl (OV.cast (u := .bool true) (v_eql rfl rfl) (congrArg Value.bool (decide_eq_true ((congrArg (·.2.1) hrr.symm))))) ?_))
      refine o_v rfl (v_and_t rfl rfl rfl) ?_
      refine o_v rfl (v_move rfl) ?_
      refine o_cons (o_yes rfl rfl rfl (o_val rfl (v_move rfl) ?_))
      refine o_cons (o_yes rfl rfl rfl (o_val rfl (v_move rfl) ?_))
      refine o_cons (o_yes rfl rfl rfl (o_val rfl (OV.cast (u := .bool true) (v_eql rfl rfl) (congrArg Value.bool (decide_eq_true ((congrArg (·.2.2) hrr.symm))))) ?_))
      refine o_v rfl (v_and_t rfl rfl rfl) ?_
      refine o_v rfl (v_assign rfl) ?_
      refine o_nil ?_
      refine q_then ?_
      refine c_ret ?_
      refine fin1 rfl rfl ?_
      exact q_vI rfl

end Go.Proofs.Ytechmdlbpbpkdaa
