/- Walks, printed by a program out of the code of the functions: each theorem is a contract of one function. -/
import Derived.Test.YtechmdlbpbpkdaaW13
import Derived.Test.YtechmdlbpbpkdaaM14
import Derived.Test.YtechmdlbpbpkdaaSxOpen
namespace Go.Proofs.Ytechmdlbpbpkdaa
open Go Go.Sx
set_option linter.all false
set_option maxRecDepth 20000
set_option maxHeartbeats 4000000
theorem lawOrders (I : IMap) (v : Value) (l : List Evt) (hv : RdS I v l) (hok : ∀ x ∈ l, OkE x) :
    FnV Try.prog 3 #[v] I (.bool true) := by
  have hv0 := hv
  obtain ⟨A0, c0, rfl, hA, hc, hm⟩ := hv
  refine enter Try.func3 Try.call3 rfl Try.ntmps3 rfl (fun w0 => ?_)
  refine c_seq ?_
  refine c_region ?_
  refine o_v rfl (v_assign rfl) ?_
  refine o_nil ?_
  refine q_then ?_
  refine c_seq ?_
  refine c_region ?_
  refine o_cons ?_
  refine o_callV (head11 _) rfl rfl ?_
  refine o_v rfl (v_assign rfl) ?_
  refine o_nil ?_
  refine q_then ?_
  refine c_seq ?_
  refine c_seq ?_
  refine c_region ?_
  refine o_v rfl (v_move rfl) ?_
  refine o_cons ?_
  refine o_callV (refFewE _ _ l hv0 60) rfl rfl ?_
  refine o_v rfl (v_not rfl) ?_
  refine o_nil ?_
  refine q_then ?_
  refine c_cond rfl (fun h11 => ?_) (fun h11 => ?_)
  · have p11 := h11
    try simp only [decide_eq_true_eq, decide_eq_false_iff_not, Bool.not_eq_true', Bool.not_eq_false', Bool.and_eq_true, Bool.or_eq_true, Bool.or_eq_false_iff] at p11
    refine c_seq ?_
    refine c_region ?_
    refine o_v rfl (v_move rfl) ?_
    refine o_v rfl (v_assign rfl) ?_
    refine o_nil ?_
    refine q_then ?_
    refine c_ret ?_
    refine q_then_ret ?_
    refine fin1 rfl rfl ?_
    exact q_vI rfl
  · have p11 := h11
    try simp only [decide_eq_true_eq, decide_eq_false_iff_not, Bool.not_eq_true', Bool.not_eq_false', Bool.and_eq_true, Bool.or_eq_true, Bool.or_eq_false_iff] at p11
    obtain ⟨hse, hl⟩ := fewE_sm (l := l) (n := 60) (by simpa using h11)
    have hl6 : l.length ≤ 1000000 := by omega
    have hsl := sortF_len l
    refine c_skip ?_
    refine q_then ?_
    refine c_seq ?_
    refine c_region ?_
    refine o_v rfl (v_move rfl) ?_
    refine o_cons ?_
    refine o_call (cSort _ _ l hv0 hl6) rfl rfl (fun v14 I14 j14 q14 => ?_)
    have hv0 := hv0.le j14
    have hA := hA.le j14
    have q14s := q14
    obtain ⟨A4, c4, rfl, hA4, _, _⟩ := q14
    refine o_v rfl (v_assign rfl) ?_
    refine o_nil ?_
    refine q_then ?_
    refine c_seq ?_
    refine c_seq ?_
    refine c_region ?_
    refine o_v rfl (v_move rfl) ?_
    refine o_v rfl (v_len_slice T.und_22 rfl) ?_
    refine o_v rfl (v_move rfl) ?_
    refine o_v rfl (v_len_slice T.und_22 rfl) ?_
    refine o_v rfl (OV.cast (u := .bool false) (v_neq rfl rfl) (congrArg Value.bool (by rw [hsl]; simp))) ?_
    refine o_v rfl (v_move rfl) ?_
    refine o_cons (o_yes rfl rfl rfl (o_val rfl (v_move rfl) ?_))
    refine o_cons ?_
    refine o_yes rfl rfl rfl (o_call (cSort _ _ (sortF l) q14s (by omega)) rfl rfl (fun v22 I22 j22 q22 => ?_))
    have hv0 := hv0.le j22
    have hA := hA.le j22
    have q14s := q14s.le j22
    have hA4 := hA4.le j22
    refine o_cons (o_yes rfl rfl rfl (o_val rfl (v_move rfl) ?_))
    refine o_cons ?_
    refine o_yes rfl rfl rfl (o_callV (sameE_t _ _ _ q22 _ _ q14s (sortF_idem l)) rfl rfl ?_)
    refine o_cons (o_yes rfl rfl rfl (o_val rfl (v_not rfl) ?_))
    refine o_v rfl (v_or_f rfl rfl rfl) ?_
    refine o_nil ?_
    refine q_then ?_
    refine c_false rfl ?_
    refine c_skip ?_
    refine q_then ?_
    refine c_seq ?_
    refine c_region ?_
    refine o_v rfl (v_assign rfl) ?_
    refine o_nil ?_
    refine q_then ?_
    refine c_seq ?_
    refine c_block ?_
    refine c_loop (α := Nat) 0 (fun a => I22)
      (fun a => [(0, .slice A0 l.length c0), (3, .bool true), (4, .slice A4 (sortF l).length c4), (5, .int .i64 ((a : Nat) : Int))])
      (fun a => [])
      (fun a => a ≤ (sortF l).length ∧ Beg (sortF l) a)
      (fun a => (sortF l).length - a) ⟨Nat.zero_le _, Beg.zero _⟩ rfl ⟨rfl, rfl, rfl, rfl, trivial⟩ rfl ?_
    intro a ⟨ha, hb⟩
    refine c_seq ?_
    refine c_seq ?_
    refine c_region ?_
    refine o_v rfl (v_move rfl) ?_
    refine o_v rfl (v_move rfl) ?_
    refine o_v rfl (v_len_slice T.und_22 rfl) ?_
    refine o_v rfl (v_lss rfl rfl) ?_
    refine o_nil ?_
    refine q_then ?_
    refine c_cond rfl (fun h30 => ?_) (fun h30 => ?_)
    · have p30 := h30
      try simp only [decide_eq_true_eq, decide_eq_false_iff_not, Bool.not_eq_true', Bool.not_eq_false', Bool.and_eq_true, Bool.or_eq_true, Bool.or_eq_false_iff] at p30
      have hlt : a < (sortF l).length := by omega
      obtain ⟨hn1, hn2, hn3⟩ := ord_next hb hlt
      refine c_skip ?_
      refine q_then ?_
      refine c_block ?_
      refine c_seq ?_
      refine c_region ?_
      refine o_v rfl (v_move rfl) ?_
      refine o_v rfl (v_move rfl) ?_
      obtain ⟨b33, o33, w33, e33, c33, r33⟩ := RdA.at_ hA4 (i := a) hlt
      obtain rfl := r33
      refine o_v rfl (v_idx T.elt_22 rfl rfl e33 (a) (by omega) hlt) ?_
      refine o_v rfl (v_fieldAddr T.fld_32_1 rfl) ?_
      refine o_v rfl (v_ldI T.ty_3 rfl (c33 1 _ rfl)) ?_
      refine o_v rfl (v_assign rfl) ?_
      refine o_nil ?_
      refine q_then ?_
      refine c_seq ?_
      refine c_cut (I' := I22) (L' := [(0, .slice A0 l.length c0), (3, .bool true), (4, .slice A4 (sortF l).length c4), (5, .int .i64 ((a : Nat) : Int)), (6, .int .i64 (Day.day (sortF l)[a]))]) (H' := []) ?_ ?_
      · refine c_seq ?_
        refine c_region ?_
        refine o_v rfl (v_move rfl) ?_
        refine o_v rfl (v_gtr rfl rfl) ?_
        refine o_v rfl (v_move rfl) ?_
        refine sx_split 38 rfl (fun h38 => ?_) (fun h38 => ?_)
        · have p38 := h38
          try simp only [decide_eq_true_eq, decide_eq_false_iff_not, Bool.not_eq_true', Bool.not_eq_false', Bool.and_eq_true, Bool.or_eq_true, Bool.or_eq_false_iff] at p38
          have hpos : 0 < a := by omega
          refine o_cons (o_yes rfl rfl h38 (o_val rfl (v_move rfl) ?_))
          refine o_cons (o_yes rfl rfl h38 (o_val rfl (v_move rfl) ?_))
          refine o_cons (o_yes rfl rfl h38 (o_val rfl (OV.cast (u := .int .i64 ((a - 1 : Nat) : Int)) (v_sub rfl rfl ⟨by omega, by omega⟩) (congrArg (Value.int .i64) (by omega))) ?_))
          obtain ⟨b42, o42, w42, e42, c42, r42⟩ := RdA.at_ hA4 (i := a - 1) (by omega)
          obtain rfl := r42
          refine o_cons (o_yes rfl rfl h38 (o_val rfl (v_idx T.elt_22 rfl rfl e42 (a - 1) (by omega) (by omega)) ?_))
          refine o_cons (o_yes rfl rfl h38 (o_val rfl (v_fieldAddr T.fld_32_1 rfl) ?_))
          refine o_cons (o_yes rfl rfl h38 (o_val rfl (v_ldI T.ty_3 rfl (c42 1 _ rfl)) ?_))
          refine o_cons (o_yes rfl rfl h38 (o_val rfl (v_move rfl) ?_))
          refine o_cons (o_yes rfl rfl h38 (o_val rfl (OV.cast (u := .bool false) (v_geq rfl rfl) (congrArg Value.bool (decide_eq_false (by have := hb (a - 1) _ _ (by omega) (List.getElem?_eq_getElem (by omega)) (List.getElem?_eq_getElem hlt); exact Int.not_le.2 this)))) ?_))
          refine o_v rfl (v_and_t h38 rfl rfl) ?_
          refine o_nil ?_
          refine q_then ?_
          refine c_false rfl ?_
          refine c_skip ?_
          refine q_then ?_
          exact q_cut ⟨rfl, rfl, rfl, rfl, rfl, trivial⟩ rfl rfl
        · have p38 := h38
          try simp only [decide_eq_true_eq, decide_eq_false_iff_not, Bool.not_eq_true', Bool.not_eq_false', Bool.and_eq_true, Bool.or_eq_true, Bool.or_eq_false_iff] at p38
          refine o_cons (o_no rfl rfl h38 rfl ?_)
          refine o_cons (o_no rfl rfl h38 rfl ?_)
          refine o_cons (o_no rfl rfl h38 rfl ?_)
          refine o_cons (o_no rfl rfl h38 rfl ?_)
          refine o_cons (o_no rfl rfl h38 rfl ?_)
          refine o_cons (o_no rfl rfl h38 rfl ?_)
          refine o_cons (o_no rfl rfl h38 rfl ?_)
          refine o_cons (o_no rfl rfl h38 rfl ?_)
          refine o_v rfl (v_and_f h38 rfl) ?_
          refine o_nil ?_
          refine q_then ?_
          refine c_false rfl ?_
          refine c_skip ?_
          refine q_then ?_
          exact q_cut ⟨rfl, rfl, rfl, rfl, rfl, trivial⟩ rfl rfl
      · skip
        refine c_seq ?_
        refine c_region ?_
        refine o_v rfl (v_assign rfl) ?_
        refine o_nil ?_
        refine q_then ?_
        refine c_block ?_
        refine c_loop (α := Nat) 0 (fun i => I22)
          (fun i => [(0, .slice A0 l.length c0), (3, .bool true), (4, .slice A4 (sortF l).length c4), (5, .int .i64 ((a + cntD l (Day.day (sortF l)[a]) i : Nat) : Int)), (6, .int .i64 (Day.day (sortF l)[a])), (7, .int .i64 ((i : Nat) : Int))])
          (fun i => [])
          (fun i => i ≤ l.length)
          (fun i => l.length - i) (Nat.zero_le _) rfl ⟨rfl, rfl, rfl, congrArg (fun z : Int => some (Value.int .i64 z)) (by rw [cnt_zero]; simp), rfl, rfl, trivial⟩ rfl ?_
        intro i hi
        refine c_seq ?_
        refine c_seq ?_
        refine c_region ?_
        refine o_v rfl (v_move rfl) ?_
        refine o_v rfl (v_move rfl) ?_
        refine o_v rfl (v_len_slice T.und_22 rfl) ?_
        refine o_v rfl (v_lss rfl rfl) ?_
        refine o_nil ?_
        refine q_then ?_
        refine c_cond rfl (fun h51 => ?_) (fun h51 => ?_)
        · have p51 := h51
          try simp only [decide_eq_true_eq, decide_eq_false_iff_not, Bool.not_eq_true', Bool.not_eq_false', Bool.and_eq_true, Bool.or_eq_true, Bool.or_eq_false_iff] at p51
          have hli : i < l.length := by omega
          refine c_skip ?_
          refine q_then ?_
          refine c_seq ?_
          refine c_block ?_
          refine c_seq ?_
          refine c_seq ?_
          refine c_region ?_
          refine o_v rfl (v_move rfl) ?_
          refine o_v rfl (v_move rfl) ?_
          obtain ⟨b56, o56, w56, e56, c56, r56⟩ := RdA.at_ hA (i := i) hli
          obtain rfl := r56
          refine o_v rfl (v_idx T.elt_22 rfl rfl e56 (i) (by omega) hli) ?_
          refine o_v rfl (v_fieldAddr T.fld_32_1 rfl) ?_
          refine o_v rfl (v_ldI T.ty_3 rfl (c56 1 _ rfl)) ?_
          refine o_v rfl (v_move rfl) ?_
          refine o_v rfl (v_neq rfl rfl) ?_
          refine o_nil ?_
          refine q_then ?_
          refine c_cond rfl (fun h60 => ?_) (fun h60 => ?_)
          · have p60 := h60
            try simp only [decide_eq_true_eq, decide_eq_false_iff_not, Bool.not_eq_true', Bool.not_eq_false', Bool.and_eq_true, Bool.or_eq_true, Bool.or_eq_false_iff] at p60
            have hne : ¬ Day.day l[i] = Day.day (sortF l)[a] := (show ¬ l[i].day = _ from by simpa using h60)
            have hst := cnt_skip hli hne
            refine c_exit ?_
            refine q_then_exit ?_
            refine q_block_eq ?_
            refine q_then ?_
            refine c_region ?_
            refine o_v rfl (v_move rfl) ?_
            refine o_v rfl (v_add rfl rfl ⟨by omega, by omega⟩) ?_
            refine o_v rfl (v_assign rfl) ?_
            refine o_nil ?_
            refine q_then ?_
            exact q_next (i + 1) (by omega) (by omega) rfl ⟨rfl, rfl, rfl, congrArg (fun z : Int => some (Value.int .i64 z)) (by rw [hst]), rfl, rfl, trivial⟩ rfl
          · have p60 := h60
            try simp only [decide_eq_true_eq, decide_eq_false_iff_not, Bool.not_eq_true', Bool.not_eq_false', Bool.and_eq_true, Bool.or_eq_true, Bool.or_eq_false_iff] at p60
            have hd : Day.day l[i] = Day.day (sortF l)[a] := (show l[i].day = _ from by simpa using h60)
            have hat := ord_at hb hlt hli hd
            have hk : a + cntD l (Day.day (sortF l)[a]) i < (sortF l).length := (List.getElem?_eq_some_iff.1 hat).1
            have hst := cnt_step hli hd
            refine c_skip ?_
            refine q_then ?_
            refine c_seq ?_
            refine c_seq ?_
            refine d_startH T.mixed ?_
            refine d_takeC 0 rfl rfl (by kernel_rfl) (by kernel_rfl) (by kernel_rfl) rfl (fun _ m => m.keeps .slnil) (y_v rfl (v_move rfl)) ?_
            refine d_takeC 1 rfl rfl (by kernel_rfl) (by kernel_rfl) (by kernel_rfl) rfl (fun _ m => m.keeps .slnil) (y_v rfl (v_move rfl)) ?_
            refine d_takeC 2 rfl rfl (by kernel_rfl) (by kernel_rfl) (by kernel_rfl) rfl (fun _ m => m.keeps .slnil) (y_v rfl (v_len_slice T.und_22 rfl)) ?_
            refine d_takeC 3 rfl rfl (by kernel_rfl) (by kernel_rfl) (by kernel_rfl) rfl (fun _ m => m.keeps .slnil) (y_v rfl (OV.cast (u := .bool false) (v_geq rfl rfl) (congrArg Value.bool (decide_eq_false (by omega))))) ?_
            refine d_takeC 4 rfl rfl (by kernel_rfl) (by kernel_rfl) (by kernel_rfl) rfl (fun _ m => m.keeps .slnil) (y_v rfl (v_move rfl)) ?_
            refine d_takeC 5 rfl rfl (by kernel_rfl) (by kernel_rfl) (by kernel_rfl) rfl (fun _ m => m.keeps .slnil) (y_yes rfl rfl rfl (v_move rfl)) ?_
            refine d_takeC 6 rfl rfl (by kernel_rfl) (by kernel_rfl) (by kernel_rfl) rfl (fun _ m => m.keeps .slnil) (y_yes rfl rfl rfl (v_move rfl)) ?_
            obtain ⟨b68, o68, w68, e68, c68, r68⟩ := RdA.at_ hA4 (i := a + cntD l (Day.day (sortF l)[a]) i) hk
            obtain rfl := r68
            refine d_takeC 7 rfl rfl (by kernel_rfl) (by kernel_rfl) (by kernel_rfl) rfl (fun _ m => m.keeps .slnil) (y_yes rfl rfl rfl (v_idx T.elt_22 rfl rfl e68 (a + cntD l (Day.day (sortF l)[a]) i) (by omega) hk)) ?_
            refine d_takeC 8 rfl rfl (by kernel_rfl) (by kernel_rfl) (by kernel_rfl) rfl (fun _ m => m.keeps .slnil) (y_yes rfl rfl rfl (v_ldIa T.ty_32 rfl c68 rfl)) ?_
            refine d_takeC 9 rfl rfl (by kernel_rfl) (by kernel_rfl) (by kernel_rfl) rfl (fun _ m => m.keeps .slnil) (y_yes rfl rfl rfl (v_move rfl)) ?_
            refine d_takeC 10 rfl rfl (by kernel_rfl) (by kernel_rfl) (by kernel_rfl) rfl (fun _ m => m.keeps .slnil) (y_yes rfl rfl rfl (v_move rfl)) ?_
            obtain ⟨b72, o72, w72, e72, c72, r72⟩ := RdA.at_ hA (i := i) hli
            obtain rfl := r72
            refine d_takeC 11 rfl rfl (by kernel_rfl) (by kernel_rfl) (by kernel_rfl) rfl (fun _ m => m.keeps .slnil) (y_yes rfl rfl rfl (v_idx T.elt_22 rfl rfl e72 (i) (by omega) hli)) ?_
            refine d_takeC 12 rfl rfl (by kernel_rfl) (by kernel_rfl) (by kernel_rfl) rfl (fun _ m => m.keeps .slnil) (y_yes rfl rfl rfl (v_ldIa T.ty_32 rfl c72 rfl)) ?_
            refine d_takeC 13 rfl rfl (by kernel_rfl) (by kernel_rfl) (by kernel_rfl) rfl (fun _ m => m.keeps .slnil) (y_yes rfl rfl rfl (OV.cast (u := .bool false) (v_stneq T.eqg_32 (eqS_Evt _ _) rfl rfl) (congrArg Value.bool (by have := (List.getElem?_eq_some_iff.1 hat).2; rw [this]; simp)))) ?_
            refine d_takeC 14 rfl rfl (by kernel_rfl) (by kernel_rfl) (by kernel_rfl) rfl (fun _ m => m.keeps .slnil) (y_v rfl (v_or_f rfl rfl rfl)) ?_
            refine d_done (by kernel_rfl) ?_
            refine q_then ?_
            refine c_false rfl ?_
            refine c_skip ?_
            refine q_then ?_
            refine c_region ?_
            refine o_v rfl (v_move rfl) ?_
            refine o_v rfl (OV.cast (u := .int .i64 ((a + (cntD l (Day.day (sortF l)[a]) i + 1) : Nat) : Int)) (v_add rfl rfl ⟨by omega, by omega⟩) (congrArg (Value.int .i64) (by omega))) ?_
            refine o_v rfl (v_assign rfl) ?_
            refine o_nil ?_
            refine q_block ?_
            refine q_then ?_
            refine c_region ?_
            refine o_v rfl (v_move rfl) ?_
            refine o_v rfl (v_add rfl rfl ⟨by omega, by omega⟩) ?_
            refine o_v rfl (v_assign rfl) ?_
            refine o_nil ?_
            refine q_then ?_
            exact q_next (i + 1) (by omega) (by omega) rfl ⟨rfl, rfl, rfl, congrArg (fun z : Int => some (Value.int .i64 z)) (by rw [hst]), rfl, rfl, trivial⟩ rfl
        · have p51 := h51
          try simp only [decide_eq_true_eq, decide_eq_false_iff_not, Bool.not_eq_true', Bool.not_eq_false', Bool.and_eq_true, Bool.or_eq_true, Bool.or_eq_false_iff] at p51
          obtain rfl : i = l.length := by omega
          refine c_exit ?_
          refine q_then_exit ?_
          refine q_then_exit ?_
          refine q_block_eq ?_
          refine q_block ?_
          refine q_then ?_
          exact q_next (a + cntD l (Day.day (sortF l)[a]) l.length) ⟨hn2, hn1⟩ (by omega) rfl ⟨rfl, rfl, rfl, rfl, trivial⟩ rfl
    · have p30 := h30
      try simp only [decide_eq_true_eq, decide_eq_false_iff_not, Bool.not_eq_true', Bool.not_eq_false', Bool.and_eq_true, Bool.or_eq_true, Bool.or_eq_false_iff] at p30
      refine c_exit ?_
      refine q_then_exit ?_
      refine q_then_exit ?_
      refine q_block_eq ?_
      refine q_then ?_
      refine c_seq ?_
      refine c_region ?_
      refine o_v rfl (v_move rfl) ?_
      refine o_v rfl (v_assign rfl) ?_
      refine o_nil ?_
      refine q_then ?_
      refine c_ret ?_
      refine fin1 rfl rfl ?_
      exact q_vI rfl

end Go.Proofs.Ytechmdlbpbpkdaa
