/- Walks, printed by a program out of the code of the functions: each theorem is a contract of one function. -/
import Derived.Test.YtechmdlbpbpkdaaW13
import Derived.Test.YtechmdlbpbpkdaaM14
import Derived.Test.YtechmdlbpbpkdaaSxOpen
namespace Go.Proofs.Ytechmdlbpbpkdaa
open Go Go.Sx
set_option linter.all false
set_option maxRecDepth 20000
set_option maxHeartbeats 4000000
theorem lawDays (I : IMap) (vc : Value) (c : List Kind) (hvc : RdS I vc c) (hoc : ∀ x ∈ c, OkKd x) (v : Value) (l : List Evt) (hv : RdS I v l) (hok : ∀ x ∈ l, OkE x) (a : Int) (wa : (Lit.int .i64 a).wf = true) (b : Int) (wb : (Lit.int .i64 b).wf = true) :
    FnV Try.prog 5 #[.agg #[vc], v, .int .i64 a, .int .i64 b] I (.bool true) := by
  have hv0 := hv
  obtain ⟨A0, c0, rfl, hA, hc, hm⟩ := hv
  refine enter Try.func5 Try.call5 rfl Try.ntmps5 rfl (fun w0 => ?_)
  refine c_seq ?_
  refine c_region ?_
  refine o_cons ?_
  refine o_box _ rfl rfl rfl (fun g4 => ?_)
  refine o_v rfl (v_assign rfl) ?_
  refine o_nil ?_
  refine q_then ?_
  refine c_seq ?_
  refine c_region ?_
  refine o_cons ?_
  refine o_callV (head11 _) rfl rfl ?_
  refine o_v rfl (v_assign rfl) ?_
  refine o_nil ?_
  refine q_then ?_
  refine c_seq ?_
  refine c_seq ?_
  refine c_region ?_
  refine o_v rfl (v_ldw m0 T.ty_36 rfl rfl) ?_
  refine o_v rfl (v_move rfl) ?_
  refine o_cons ?_
  refine o_callV (few11 _ vc c hvc _ l hv0) rfl rfl ?_
  refine o_v rfl (v_not rfl) ?_
  refine o_v rfl (v_move rfl) ?_
  refine sx_split 25 rfl (fun h25 => ?_) (fun h25 => ?_)
  · have p25 := h25
    try simp only [decide_eq_true_eq, decide_eq_false_iff_not, Bool.not_eq_true', Bool.not_eq_false', Bool.and_eq_true, Bool.or_eq_true, Bool.or_eq_false_iff] at p25
    refine o_cons (o_no rfl rfl h25 rfl ?_)
    refine o_cons (o_no rfl rfl h25 rfl ?_)
    refine o_cons (o_no rfl rfl h25 rfl ?_)
    refine o_v rfl (v_or_t h25 rfl) ?_
    refine o_nil ?_
    refine q_then ?_
    refine c_true rfl ?_
    refine c_seq ?_
    refine c_region ?_
    refine o_v rfl (v_move rfl) ?_
    refine o_v rfl (v_assign rfl) ?_
    refine o_nil ?_
    refine q_then ?_
    refine c_ret ?_
    refine q_then_ret ?_
    refine fin1 rfl rfl ?_
    exact q_vI rfl
  · have p25 := h25
    try simp only [decide_eq_true_eq, decide_eq_false_iff_not, Bool.not_eq_true', Bool.not_eq_false', Bool.and_eq_true, Bool.or_eq_true, Bool.or_eq_false_iff] at p25
    have hf : fewC c = true ∧ fewE l 60 = true := by simpa using h25
    obtain ⟨hse, hl⟩ := fewE_sm hf.2
    have hsc := fewC_sm hf.1
    have hl6 : l.length ≤ 1000000 := by omega
    refine o_cons (o_yes rfl rfl h25 (o_val rfl (v_move rfl) ?_))
    refine o_cons (o_yes rfl rfl h25 (o_val rfl (v_move rfl) ?_))
    refine o_cons (o_yes rfl rfl h25 (o_val rfl (v_gtr rfl rfl) ?_))
    refine o_v rfl (v_or_f h25 rfl rfl) ?_
    refine o_nil ?_
    refine q_then ?_
    refine c_cond rfl (fun h29 => ?_) (fun h29 => ?_)
    · have p29 := h29
      try simp only [decide_eq_true_eq, decide_eq_false_iff_not, Bool.not_eq_true', Bool.not_eq_false', Bool.and_eq_true, Bool.or_eq_true, Bool.or_eq_false_iff] at p29
      refine c_seq ?_
      refine c_region ?_
      refine o_v rfl (v_move rfl) ?_
      refine o_v rfl (v_assign rfl) ?_
      refine o_nil ?_
      refine q_then ?_
      refine c_ret ?_
      refine q_then_ret ?_
      refine fin1 rfl rfl ?_
      exact q_vI rfl
    · have p29 := h29
      try simp only [decide_eq_true_eq, decide_eq_false_iff_not, Bool.not_eq_true', Bool.not_eq_false', Bool.and_eq_true, Bool.or_eq_true, Bool.or_eq_false_iff] at p29
      have hab : a ≤ b := by omega
      refine c_skip ?_
      refine q_then ?_
      refine c_seq ?_
      refine c_region ?_
      refine o_v rfl (v_ldw m0 T.ty_36 rfl rfl) ?_
      refine o_v rfl (v_move rfl) ?_
      refine o_v rfl (v_move rfl) ?_
      refine o_cons ?_
      refine o_call (cAt _ vc c hvc hsc _ l hv0 hl6 hse a) rfl rfl (fun v35 I35 j35 q35 => ?_)
      have hvc := hvc.le j35
      have hv0 := hv0.le j35
      have hA := hA.le j35
      obtain ⟨w10, rfl, hw10⟩ := q35
      obtain ⟨A10, c10, rfl, _⟩ := id hw10
      refine o_v rfl (v_move rfl) ?_
      refine o_v rfl (v_extract rfl rfl) ?_
      refine o_v rfl (v_extract rfl rfl) ?_
      refine o_v rfl (v_extract rfl rfl) ?_
      refine o_cons ?_
      refine o_alloc T.zero_40 rfl (fun g10 => ?_)
      refine o_cons ?_
      refine o_stw _ T.ty_40 rfl rfl rfl rfl rfl rfl ?_
      refine o_v rfl (v_assign rfl) ?_
      refine o_v rfl (v_assign rfl) ?_
      refine o_nil ?_
      refine q_then ?_
      refine c_seq ?_
      refine c_region ?_
      refine o_v rfl (v_ldw m1 T.ty_36 rfl rfl) ?_
      refine o_v rfl (v_move rfl) ?_
      refine o_v rfl (v_move rfl) ?_
      refine o_cons ?_
      refine o_call (cAt _ vc c hvc hsc _ l hv0 hl6 hse b) rfl rfl (fun v43 I43 j43 q43 => ?_)
      have hvc := hvc.le j43
      have hv0 := hv0.le j43
      have hA := hA.le j43
      obtain ⟨w13, rfl, hw13⟩ := q43
      obtain ⟨A13, c13, rfl, _⟩ := id hw13
      refine o_v rfl (v_move rfl) ?_
      refine o_v rfl (v_extract rfl rfl) ?_
      refine o_v rfl (v_extract rfl rfl) ?_
      refine o_v rfl (v_extract rfl rfl) ?_
      refine o_cons ?_
      refine o_alloc T.zero_40 rfl (fun g13 => ?_)
      refine o_cons ?_
      refine o_stw _ T.ty_40 rfl rfl rfl rfl rfl rfl ?_
      refine o_v rfl (v_assign rfl) ?_
      refine o_v rfl (v_assign rfl) ?_
      refine o_nil ?_
      refine q_then ?_
      refine c_seq ?_
      refine c_cut (I' := I43) (L' := [(1, .slice A0 l.length c0), (3, .int .i64 b), (4, .pointer (some ⟨g4, 0, none⟩)), (9, .bool true), (13, .pointer (some ⟨g13, 0, none⟩)), (14, .int .i64 (atF11 c l b).2.1), (15, .int .i64 (atF11 c l b).2.2)]) (H' := [.blk g13 40 [.slice A13 (atF11 c l b).1.length c13], .blk g4 36 [vc]]) ?_ ?_
      · refine c_seq ?_
        refine c_region ?_
        refine o_v rfl (v_move rfl) ?_
        refine o_v rfl (v_neq rfl rfl) ?_
        refine o_v rfl (v_move rfl) ?_
        refine sx_split 49 rfl (fun h49 => ?_) (fun h49 => ?_)
        · have p49 := h49
          try simp only [decide_eq_true_eq, decide_eq_false_iff_not, Bool.not_eq_true', Bool.not_eq_false', Bool.and_eq_true, Bool.or_eq_true, Bool.or_eq_false_iff] at p49
          have hne : (atF11 c l a).2.2 ≠ 0 := by simpa using h49
          have he := days_err hab hne
          refine o_cons (o_yes rfl rfl h49 (o_val rfl (v_move rfl) ?_))
          refine o_cons (o_yes rfl rfl h49 (o_val rfl (v_move rfl) ?_))
          refine o_cons (o_yes rfl rfl h49 (o_val rfl (OV.cast (u := .bool false) (v_neq rfl rfl) (congrArg Value.bool (by rw [decide_eq_true (by rw [he])]; rfl))) ?_))
          refine o_cons (o_yes rfl rfl h49 (o_val rfl (v_move rfl) ?_))
          refine o_cons (o_yes rfl rfl rfl (o_val rfl (v_move rfl) ?_))
          refine o_cons (o_yes rfl rfl rfl (o_val rfl (v_move rfl) ?_))
          refine o_cons (o_yes rfl rfl rfl (o_val rfl (OV.cast (u := .bool false) (v_neq rfl rfl) (congrArg Value.bool (by rw [decide_eq_true (by rw [he])]; rfl))) ?_))
          refine o_cons (o_yes rfl rfl h49 (o_val rfl (v_or_f rfl rfl rfl) ?_))
          refine o_v rfl (v_and_t h49 rfl rfl) ?_
          refine o_v rfl (v_move rfl) ?_
          refine o_cons (o_yes rfl rfl rfl (o_val rfl (v_move rfl) ?_))
          refine o_cons (o_yes rfl rfl rfl (o_val rfl (OV.cast (u := .bool (decide ((atF11 c l a).2.2 = 0))) (v_eql rfl rfl) rfl) ?_))
          refine o_cons (o_yes rfl rfl rfl (o_val rfl (v_move rfl) ?_))
          refine sx_split 62 rfl (fun h62 => ?_) (fun h62 => ?_)
          · have p62 := h62
            try simp only [decide_eq_true_eq, decide_eq_false_iff_not, Bool.not_eq_true', Bool.not_eq_false', Bool.and_eq_true, Bool.or_eq_true, Bool.or_eq_false_iff] at p62
            have hm1 := at_none (c := c) (l := l) (a := a) (by simpa using h62)
            refine o_cons (o_yes rfl rfl h62 (o_val rfl (v_move rfl) ?_))
            refine o_cons (o_yes rfl rfl h62 (o_val rfl (OV.cast (u := .bool false) (v_neq rfl rfl) (congrArg Value.bool (by rw [decide_eq_true (hm1)]; rfl))) ?_))
            refine o_cons (o_yes rfl rfl rfl (o_val rfl (v_and_t h62 rfl rfl) ?_))
            refine o_v rfl (v_or_f rfl rfl rfl) ?_
            refine o_v rfl (v_move rfl) ?_
            refine o_cons (o_yes rfl rfl rfl (o_val rfl (v_move rfl) ?_))
            refine o_cons (o_yes rfl rfl rfl (o_val rfl (v_neq rfl rfl) ?_))
            refine o_cons (o_yes rfl rfl rfl (o_val rfl (v_move rfl) ?_))
            refine sx_split 70 rfl (fun h70 => ?_) (fun h70 => ?_)
            · have p70 := h70
              try simp only [decide_eq_true_eq, decide_eq_false_iff_not, Bool.not_eq_true', Bool.not_eq_false', Bool.and_eq_true, Bool.or_eq_true, Bool.or_eq_false_iff] at p70
              have hp0 := at_fail (c := c) (l := l) (a := a) (by simpa using h70)
              refine o_cons (o_yes rfl rfl h70 (o_val rfl (v_fieldAddr T.fld_40_0 rfl) ?_))
              refine o_cons (o_yes rfl rfl h70 (o_val rfl (v_ld m1 T.ty_38 rfl rfl) ?_))
              refine o_cons (o_yes rfl rfl h70 (o_val rfl (v_len_slice T.und_38 rfl) ?_))
              refine o_cons (o_yes rfl rfl h70 (o_val rfl (OV.cast (u := .bool false) (v_gtr rfl rfl) (congrArg Value.bool (decide_eq_false (by rw [hp0]; simp)))) ?_))
              refine o_cons (o_yes rfl rfl rfl (o_val rfl (v_and_t h70 rfl rfl) ?_))
              refine o_v rfl (v_or_f rfl rfl rfl) ?_
              refine o_nil ?_
              refine q_then ?_
              refine c_false rfl ?_
              refine c_skip ?_
              refine q_then ?_
              refine bring1 ?_
              refine sx_drop ?_
              exact q_cut ⟨rfl, rfl, rfl, rfl, rfl, rfl, rfl, trivial⟩ rfl rfl
            · have p70 := h70
              try simp only [decide_eq_true_eq, decide_eq_false_iff_not, Bool.not_eq_true', Bool.not_eq_false', Bool.and_eq_true, Bool.or_eq_true, Bool.or_eq_false_iff] at p70
              refine o_cons (o_no rfl rfl h70 rfl ?_)
              refine o_cons (o_no rfl rfl h70 rfl ?_)
              refine o_cons (o_no rfl rfl h70 rfl ?_)
              refine o_cons (o_no rfl rfl h70 rfl ?_)
              refine o_cons (o_yes rfl rfl rfl (o_val rfl (v_and_f h70 rfl) ?_))
              refine o_v rfl (v_or_f rfl rfl rfl) ?_
              refine o_nil ?_
              refine q_then ?_
              refine c_false rfl ?_
              refine c_skip ?_
              refine q_then ?_
              refine bring1 ?_
              refine sx_drop ?_
              exact q_cut ⟨rfl, rfl, rfl, rfl, rfl, rfl, rfl, trivial⟩ rfl rfl
          · have p62 := h62
            try simp only [decide_eq_true_eq, decide_eq_false_iff_not, Bool.not_eq_true', Bool.not_eq_false', Bool.and_eq_true, Bool.or_eq_true, Bool.or_eq_false_iff] at p62
            refine o_cons (o_no rfl rfl h62 rfl ?_)
            refine o_cons (o_no rfl rfl h62 rfl ?_)
            refine o_cons (o_yes rfl rfl rfl (o_val rfl (v_and_f h62 rfl) ?_))
            refine o_v rfl (v_or_f rfl rfl rfl) ?_
            refine o_v rfl (v_move rfl) ?_
            refine o_cons (o_yes rfl rfl rfl (o_val rfl (v_move rfl) ?_))
            refine o_cons (o_yes rfl rfl rfl (o_val rfl (v_neq rfl rfl) ?_))
            refine o_cons (o_yes rfl rfl rfl (o_val rfl (v_move rfl) ?_))
            refine sx_split 70 rfl (fun h70 => ?_) (fun h70 => ?_)
            · have p70 := h70
              try simp only [decide_eq_true_eq, decide_eq_false_iff_not, Bool.not_eq_true', Bool.not_eq_false', Bool.and_eq_true, Bool.or_eq_true, Bool.or_eq_false_iff] at p70
              have hp0 := at_fail (c := c) (l := l) (a := a) (by simpa using h70)
              refine o_cons (o_yes rfl rfl h70 (o_val rfl (v_fieldAddr T.fld_40_0 rfl) ?_))
              refine o_cons (o_yes rfl rfl h70 (o_val rfl (v_ld m1 T.ty_38 rfl rfl) ?_))
              refine o_cons (o_yes rfl rfl h70 (o_val rfl (v_len_slice T.und_38 rfl) ?_))
              refine o_cons (o_yes rfl rfl h70 (o_val rfl (OV.cast (u := .bool false) (v_gtr rfl rfl) (congrArg Value.bool (decide_eq_false (by rw [hp0]; simp)))) ?_))
              refine o_cons (o_yes rfl rfl rfl (o_val rfl (v_and_t h70 rfl rfl) ?_))
              refine o_v rfl (v_or_f rfl rfl rfl) ?_
              refine o_nil ?_
              refine q_then ?_
              refine c_false rfl ?_
              refine c_skip ?_
              refine q_then ?_
              refine bring1 ?_
              refine sx_drop ?_
              exact q_cut ⟨rfl, rfl, rfl, rfl, rfl, rfl, rfl, trivial⟩ rfl rfl
            · have p70 := h70
              try simp only [decide_eq_true_eq, decide_eq_false_iff_not, Bool.not_eq_true', Bool.not_eq_false', Bool.and_eq_true, Bool.or_eq_true, Bool.or_eq_false_iff] at p70
              refine o_cons (o_no rfl rfl h70 rfl ?_)
              refine o_cons (o_no rfl rfl h70 rfl ?_)
              refine o_cons (o_no rfl rfl h70 rfl ?_)
              refine o_cons (o_no rfl rfl h70 rfl ?_)
              refine o_cons (o_yes rfl rfl rfl (o_val rfl (v_and_f h70 rfl) ?_))
              refine o_v rfl (v_or_f rfl rfl rfl) ?_
              refine o_nil ?_
              refine q_then ?_
              refine c_false rfl ?_
              refine c_skip ?_
              refine q_then ?_
              refine bring1 ?_
              refine sx_drop ?_
              exact q_cut ⟨rfl, rfl, rfl, rfl, rfl, rfl, rfl, trivial⟩ rfl rfl
        · have p49 := h49
          try simp only [decide_eq_true_eq, decide_eq_false_iff_not, Bool.not_eq_true', Bool.not_eq_false', Bool.and_eq_true, Bool.or_eq_true, Bool.or_eq_false_iff] at p49
          have hne : (atF11 c l a).2.2 = 0 := by simpa using h49
          have hm1 := run_none hne
          refine o_cons (o_no rfl rfl h49 rfl ?_)
          refine o_cons (o_no rfl rfl h49 rfl ?_)
          refine o_cons (o_no rfl rfl h49 rfl ?_)
          refine o_cons (o_no rfl rfl h49 rfl ?_)
          refine o_cons (o_nou rfl rfl rfl ?_)
          refine o_cons (o_nou rfl rfl rfl ?_)
          refine o_cons (o_nou rfl rfl rfl ?_)
          refine o_cons (o_no rfl rfl h49 rfl ?_)
          refine o_v rfl (v_and_f h49 rfl) ?_
          refine o_v rfl (v_move rfl) ?_
          refine o_cons (o_yes rfl rfl rfl (o_val rfl (v_move rfl) ?_))
          refine o_cons (o_yes rfl rfl rfl (o_val rfl (OV.cast (u := .bool (decide ((atF11 c l a).2.2 = 0))) (v_eql rfl rfl) rfl) ?_))
          refine o_cons (o_yes rfl rfl rfl (o_val rfl (v_move rfl) ?_))
          refine sx_split 62 rfl (fun h62 => ?_) (fun h62 => ?_)
          · have p62 := h62
            try simp only [decide_eq_true_eq, decide_eq_false_iff_not, Bool.not_eq_true', Bool.not_eq_false', Bool.and_eq_true, Bool.or_eq_true, Bool.or_eq_false_iff] at p62
            have hm1 := at_none (c := c) (l := l) (a := a) (by simpa using h62)
            refine o_cons (o_yes rfl rfl h62 (o_val rfl (v_move rfl) ?_))
            refine o_cons (o_yes rfl rfl h62 (o_val rfl (OV.cast (u := .bool false) (v_neq rfl rfl) (congrArg Value.bool (by rw [decide_eq_true (hm1)]; rfl))) ?_))
            refine o_cons (o_yes rfl rfl rfl (o_val rfl (v_and_t h62 rfl rfl) ?_))
            refine o_v rfl (v_or_f rfl rfl rfl) ?_
            refine o_v rfl (v_move rfl) ?_
            refine o_cons (o_yes rfl rfl rfl (o_val rfl (v_move rfl) ?_))
            refine o_cons (o_yes rfl rfl rfl (o_val rfl (v_neq rfl rfl) ?_))
            refine o_cons (o_yes rfl rfl rfl (o_val rfl (v_move rfl) ?_))
            refine sx_split 70 rfl (fun h70 => ?_) (fun h70 => ?_)
            · have p70 := h70
              try simp only [decide_eq_true_eq, decide_eq_false_iff_not, Bool.not_eq_true', Bool.not_eq_false', Bool.and_eq_true, Bool.or_eq_true, Bool.or_eq_false_iff] at p70
              have hp0 := at_fail (c := c) (l := l) (a := a) (by simpa using h70)
              refine o_cons (o_yes rfl rfl h70 (o_val rfl (v_fieldAddr T.fld_40_0 rfl) ?_))
              refine o_cons (o_yes rfl rfl h70 (o_val rfl (v_ld m1 T.ty_38 rfl rfl) ?_))
              refine o_cons (o_yes rfl rfl h70 (o_val rfl (v_len_slice T.und_38 rfl) ?_))
              refine o_cons (o_yes rfl rfl h70 (o_val rfl (OV.cast (u := .bool false) (v_gtr rfl rfl) (congrArg Value.bool (decide_eq_false (by rw [hp0]; simp)))) ?_))
              refine o_cons (o_yes rfl rfl rfl (o_val rfl (v_and_t h70 rfl rfl) ?_))
              refine o_v rfl (v_or_f rfl rfl rfl) ?_
              refine o_nil ?_
              refine q_then ?_
              refine c_false rfl ?_
              refine c_skip ?_
              refine q_then ?_
              refine bring1 ?_
              refine sx_drop ?_
              exact q_cut ⟨rfl, rfl, rfl, rfl, rfl, rfl, rfl, trivial⟩ rfl rfl
            · have p70 := h70
              try simp only [decide_eq_true_eq, decide_eq_false_iff_not, Bool.not_eq_true', Bool.not_eq_false', Bool.and_eq_true, Bool.or_eq_true, Bool.or_eq_false_iff] at p70
              refine o_cons (o_no rfl rfl h70 rfl ?_)
              refine o_cons (o_no rfl rfl h70 rfl ?_)
              refine o_cons (o_no rfl rfl h70 rfl ?_)
              refine o_cons (o_no rfl rfl h70 rfl ?_)
              refine o_cons (o_yes rfl rfl rfl (o_val rfl (v_and_f h70 rfl) ?_))
              refine o_v rfl (v_or_f rfl rfl rfl) ?_
              refine o_nil ?_
              refine q_then ?_
              refine c_false rfl ?_
              refine c_skip ?_
              refine q_then ?_
              refine bring1 ?_
              refine sx_drop ?_
              exact q_cut ⟨rfl, rfl, rfl, rfl, rfl, rfl, rfl, trivial⟩ rfl rfl
          · have p62 := h62
            try simp only [decide_eq_true_eq, decide_eq_false_iff_not, Bool.not_eq_true', Bool.not_eq_false', Bool.and_eq_true, Bool.or_eq_true, Bool.or_eq_false_iff] at p62
            refine o_cons (o_no rfl rfl h62 rfl ?_)
            refine o_cons (o_no rfl rfl h62 rfl ?_)
            refine o_cons (o_yes rfl rfl rfl (o_val rfl (v_and_f h62 rfl) ?_))
            refine o_v rfl (v_or_f rfl rfl rfl) ?_
            refine o_v rfl (v_move rfl) ?_
            refine o_cons (o_yes rfl rfl rfl (o_val rfl (v_move rfl) ?_))
            refine o_cons (o_yes rfl rfl rfl (o_val rfl (v_neq rfl rfl) ?_))
            refine o_cons (o_yes rfl rfl rfl (o_val rfl (v_move rfl) ?_))
            refine sx_split 70 rfl (fun h70 => ?_) (fun h70 => ?_)
            · have p70 := h70
              try simp only [decide_eq_true_eq, decide_eq_false_iff_not, Bool.not_eq_true', Bool.not_eq_false', Bool.and_eq_true, Bool.or_eq_true, Bool.or_eq_false_iff] at p70
              have hp0 := at_fail (c := c) (l := l) (a := a) (by simpa using h70)
              refine o_cons (o_yes rfl rfl h70 (o_val rfl (v_fieldAddr T.fld_40_0 rfl) ?_))
              refine o_cons (o_yes rfl rfl h70 (o_val rfl (v_ld m1 T.ty_38 rfl rfl) ?_))
              refine o_cons (o_yes rfl rfl h70 (o_val rfl (v_len_slice T.und_38 rfl) ?_))
              refine o_cons (o_yes rfl rfl h70 (o_val rfl (OV.cast (u := .bool false) (v_gtr rfl rfl) (congrArg Value.bool (decide_eq_false (by rw [hp0]; simp)))) ?_))
              refine o_cons (o_yes rfl rfl rfl (o_val rfl (v_and_t h70 rfl rfl) ?_))
              refine o_v rfl (v_or_f rfl rfl rfl) ?_
              refine o_nil ?_
              refine q_then ?_
              refine c_false rfl ?_
              refine c_skip ?_
              refine q_then ?_
              refine bring1 ?_
              refine sx_drop ?_
              exact q_cut ⟨rfl, rfl, rfl, rfl, rfl, rfl, rfl, trivial⟩ rfl rfl
            · have p70 := h70
              try simp only [decide_eq_true_eq, decide_eq_false_iff_not, Bool.not_eq_true', Bool.not_eq_false', Bool.and_eq_true, Bool.or_eq_true, Bool.or_eq_false_iff] at p70
              refine o_cons (o_no rfl rfl h70 rfl ?_)
              refine o_cons (o_no rfl rfl h70 rfl ?_)
              refine o_cons (o_no rfl rfl h70 rfl ?_)
              refine o_cons (o_no rfl rfl h70 rfl ?_)
              refine o_cons (o_yes rfl rfl rfl (o_val rfl (v_and_f h70 rfl) ?_))
              refine o_v rfl (v_or_f rfl rfl rfl) ?_
              refine o_nil ?_
              refine q_then ?_
              refine c_false rfl ?_
              refine c_skip ?_
              refine q_then ?_
              refine bring1 ?_
              refine sx_drop ?_
              exact q_cut ⟨rfl, rfl, rfl, rfl, rfl, rfl, rfl, trivial⟩ rfl rfl
      · skip
        refine c_seq ?_
        refine c_seq ?_
        refine c_region ?_
        refine o_v rfl (v_assign rfl) ?_
        refine o_nil ?_
        refine q_then ?_
        refine c_block ?_
        refine c_loop (α := Nat) 0 (fun i => I43)
          (fun i => [(1, .slice A0 l.length c0), (3, .int .i64 b), (4, .pointer (some ⟨g4, 0, none⟩)), (9, .bool true), (13, .pointer (some ⟨g13, 0, none⟩)), (14, .int .i64 (atF11 c l b).2.1), (15, .int .i64 (atF11 c l b).2.2), (16, .int .i64 ((i : Nat) : Int))])
          (fun i => [.blk g13 40 [.slice A13 (atF11 c l b).1.length c13], .blk g4 36 [vc]])
          (fun i => i ≤ l.length ∧ ∀ j x, j < i → l[j]? = some x → (fun x : Evt => decide (x.day > b)) x = false)
          (fun i => l.length - i) ⟨Nat.zero_le _, fun j x hj => absurd hj (Nat.not_lt_zero j)⟩ rfl ⟨rfl, rfl, rfl, rfl, rfl, rfl, rfl, rfl, trivial⟩ rfl ?_
        intro i ⟨hi, hn⟩
        refine c_seq ?_
        refine c_seq ?_
        refine c_region ?_
        refine o_v rfl (v_move rfl) ?_
        refine o_v rfl (v_move rfl) ?_
        refine o_v rfl (v_len_slice T.und_22 rfl) ?_
        refine o_v rfl (v_lss rfl rfl) ?_
        refine o_nil ?_
        refine q_then ?_
        refine c_cond rfl (fun h80 => ?_) (fun h80 => ?_)
        · have p80 := h80
          try simp only [decide_eq_true_eq, decide_eq_false_iff_not, Bool.not_eq_true', Bool.not_eq_false', Bool.and_eq_true, Bool.or_eq_true, Bool.or_eq_false_iff] at p80
          have hlt : i < l.length := by omega
          refine c_skip ?_
          refine q_then ?_
          refine c_seq ?_
          refine c_block ?_
          refine c_seq ?_
          refine c_region ?_
          refine o_v rfl (v_move rfl) ?_
          refine o_v rfl (v_move rfl) ?_
          obtain ⟨b85, o85, w85, e85, c85, r85⟩ := RdA.at_ hA (i := i) hlt
          obtain rfl := r85
          refine o_v rfl (v_idx T.elt_22 rfl rfl e85 (i) (by omega) hlt) ?_
          refine o_v rfl (v_fieldAddr T.fld_32_1 rfl) ?_
          refine o_v rfl (v_ldI T.ty_3 rfl (c85 1 _ rfl)) ?_
          refine o_v rfl (v_move rfl) ?_
          refine o_v rfl (v_gtr rfl rfl) ?_
          refine o_nil ?_
          refine q_then ?_
          refine c_cond rfl (fun h89 => ?_) (fun h89 => ?_)
          · have p89 := h89
            try simp only [decide_eq_true_eq, decide_eq_false_iff_not, Bool.not_eq_true', Bool.not_eq_false', Bool.and_eq_true, Bool.or_eq_true, Bool.or_eq_false_iff] at p89
            refine c_seq ?_
            refine c_region ?_
            refine o_v rfl (v_move rfl) ?_
            refine o_v rfl (v_assign rfl) ?_
            refine o_nil ?_
            refine q_then ?_
            refine c_ret ?_
            refine q_block_ret ?_
            refine q_then_ret ?_
            refine q_then_ret ?_
            refine q_block_ret ?_
            refine q_then_ret ?_
            refine fin1 rfl rfl ?_
            exact q_vI rfl
          · have p89 := h89
            try simp only [decide_eq_true_eq, decide_eq_false_iff_not, Bool.not_eq_true', Bool.not_eq_false', Bool.and_eq_true, Bool.or_eq_true, Bool.or_eq_false_iff] at p89
            refine c_skip ?_
            refine q_block ?_
            refine q_then ?_
            refine c_region ?_
            refine o_v rfl (v_move rfl) ?_
            refine o_v rfl (v_add rfl rfl ⟨by omega, by omega⟩) ?_
            refine o_v rfl (v_assign rfl) ?_
            refine o_nil ?_
            refine q_then ?_
            exact q_next (i + 1) ⟨by omega, idx_next (p := fun x : Evt => decide (x.day > b)) hn hlt h89⟩ (by omega) rfl ⟨rfl, rfl, rfl, rfl, rfl, rfl, rfl, rfl, trivial⟩ rfl
        · have p80 := h80
          try simp only [decide_eq_true_eq, decide_eq_false_iff_not, Bool.not_eq_true', Bool.not_eq_false', Bool.and_eq_true, Bool.or_eq_true, Bool.or_eq_false_iff] at p80
          have hall : ∀ e ∈ l, ¬ e.day > b := fun e he => by
            obtain ⟨j, hj, rfl⟩ := List.getElem_of_mem he
            simpa using hn j _ (by omega) (List.getElem?_eq_getElem hj)
          have hat := at_all (c := c) hall
          refine c_exit ?_
          refine q_then_exit ?_
          refine q_then_exit ?_
          refine q_block_eq ?_
          refine q_then ?_
          refine c_seq ?_
          refine c_region ?_
          refine o_v rfl (v_ldw m1 T.ty_36 rfl rfl) ?_
          refine o_v rfl (v_move rfl) ?_
          refine o_cons ?_
          refine o_call (cRun _ vc c hvc hsc _ l hv0 hl6 hse) rfl rfl (fun v94 I94 j94 q94 => ?_)
          have hw13 := hw13.le j94
          obtain ⟨w17, rfl, hw17⟩ := q94
          refine o_v rfl (v_move rfl) ?_
          refine o_v rfl (v_extract rfl rfl) ?_
          refine o_v rfl (v_extract rfl rfl) ?_
          refine o_v rfl (v_extract rfl rfl) ?_
          refine o_cons ?_
          refine o_alloc T.zero_40 rfl (fun g17 => ?_)
          refine o_cons ?_
          refine o_stw _ T.ty_40 rfl rfl rfl rfl rfl (by simp [hw17.one]) ?_
          refine o_v rfl (v_assign rfl) ?_
          refine o_v rfl (v_assign rfl) ?_
          refine o_nil ?_
          refine q_then ?_
          refine c_seq ?_
          refine c_region ?_
          refine o_v rfl (v_move rfl) ?_
          refine o_v rfl (v_move rfl) ?_
          refine o_cons (o_yes rfl rfl rfl (o_val rfl (v_ldw m1 T.ty_40 rfl rfl) ?_))
          refine o_cons (o_yes rfl rfl rfl (o_val rfl (v_ldw m0 T.ty_40 rfl rfl) ?_))
          refine o_cons ?_
          refine o_yes rfl rfl rfl (o_callV (sameSt_t _ _ _ hw13 _ _ hw17 (by rw [hat])) rfl rfl ?_)
          refine o_v rfl (v_and_t rfl rfl rfl) ?_
          refine o_v rfl (v_move rfl) ?_
          refine o_cons (o_yes rfl rfl rfl (o_val rfl (v_move rfl) ?_))
          refine o_cons (o_yes rfl rfl rfl (o_val rfl (v_move rfl) ?_))
          refine o_cons (o_yes rfl rfl rfl (o_val rfl (OV.cast (u := .bool true) (v_eql rfl rfl) (congrArg Value.bool (decide_eq_true (by rw [hat])))) ?_))
          refine o_v rfl (v_and_t rfl rfl rfl) ?_
          refine o_v rfl (v_move rfl) ?_
          refine o_cons (o_yes rfl rfl rfl (o_val rfl (v_move rfl) ?_))
          refine o_cons (o_yes rfl rfl rfl (o_val rfl (v_move rfl) ?_))
          refine o_cons (o_yes rfl rfl rfl (o_val rfl (OV.cast (u := .bool true) (v_eql rfl rfl) (congrArg Value.bool (decide_eq_true (by rw [hat])))) ?_))
          refine o_v rfl (v_and_t rfl rfl rfl) ?_
          refine o_v rfl (v_assign rfl) ?_
          refine o_nil ?_
          refine q_then ?_
          refine c_ret ?_
          refine fin1 rfl rfl ?_
          exact q_vI rfl

end Go.Proofs.Ytechmdlbpbpkdaa
