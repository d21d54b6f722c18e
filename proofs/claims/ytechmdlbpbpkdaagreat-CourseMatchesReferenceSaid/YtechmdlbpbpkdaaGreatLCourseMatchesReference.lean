/- Walks, printed by a program out of the code of the functions: each theorem is a contract of one function. -/
import Derived.Test.YtechmdlbpbpkdaaGreatW21
import Derived.Test.YtechmdlbpbpkdaaGreatM14
import Derived.Test.YtechmdlbpbpkdaaGreatSxOpen
namespace Go.Proofs.YtechmdlbpbpkdaaGreat
open Go Go.Sx
set_option linter.all false
set_option maxRecDepth 20000
set_option maxHeartbeats 4000000
theorem lawMatches (I : IMap) (vc : Value) (c : List Kind) (hvc : RdS I vc c) (hoc : ∀ x ∈ c, OkKd x) (v : Value) (l : List Evt) (hv : RdS I v l) (hok : ∀ x ∈ l, OkE x) (day : Int) (wd : (Lit.int .i64 day).wf = true) :
    FnV Tryz.prog 3 #[.agg #[vc], v, .int .i64 day] I (.bool true) := by
 have hv0 := hv
 obtain ⟨A0, c0, rfl, hA, hc, hm⟩ := hv
 refine enter Tryz.func3 Tryz.call3 rfl Tryz.ntmps3 rfl (fun w0 => ?_)
 refine c_seq ?_
 refine c_region ?_
 refine o_cons ?_
 refine o_box _ rfl rfl rfl (fun g3 => ?_)
 refine o_v rfl (v_assign rfl) ?_
 refine o_nil ?_
 refine q_then ?_
 refine c_seq ?_
 refine c_region ?_
 refine o_cons ?_
 refine o_callV (head11 _) rfl rfl ?_
 refine o_v rfl (v_assign rfl) ?_
 refine o_nil ?_
 refine q_then ?_
 refine c_seq ?_
 refine c_seq ?_
 refine c_region ?_
 refine o_v rfl (v_ldw m0 T.ty_24 rfl rfl) ?_
 refine o_v rfl (v_move rfl) ?_
 refine o_cons ?_
 refine o_callV (few11 _ vc c hvc _ l hv0) rfl rfl ?_
 refine o_v rfl (v_not rfl) ?_
 refine o_nil ?_
 refine q_then ?_
 refine c_cond rfl (fun h24 => ?_) (fun h24 => ?_)
 ·have p24 := h24
  try simp only [bO] at p24
  refine c_seq ?_
  refine c_region ?_
  refine o_v rfl (v_move rfl) ?_
  refine o_v rfl (v_assign rfl) ?_
  refine o_nil ?_
  refine q_then ?_
  refine c_ret ?_
  refine q_then_ret ?_
  refine fin1 rfl rfl ?_
  exact q_vI rfl
 ·have p24 := h24
  try simp only [bO] at p24
  have hf : fewC c = true ∧ fewE l 60 = true := by simpa using h24
  obtain ⟨hse, hl⟩ := fewE_sm hf.2
  have hsc := fewC_sm hf.1
  have hl6 : l.length ≤ 1000000 := by omega
  refine c_skip ?_
  refine q_then ?_
  refine c_seq ?_
  refine c_region ?_
  refine o_v rfl (v_ldw m0 T.ty_24 rfl rfl) ?_
  refine o_v rfl (v_move rfl) ?_
  refine o_cons ?_
  refine o_call (cRun _ vc c hvc hsc _ l hv0 hl6 hse) rfl rfl (fun v29 I29 j29 q29 => ?_)
  have hvc := hvc.le j29
  have hv0 := hv0.le j29
  obtain ⟨w8, rfl, hw8⟩ := q29
  refine o_v rfl (v_move rfl) ?_
  refine o_v rfl (v_extract rfl rfl) ?_
  refine o_v rfl (v_extract rfl rfl) ?_
  refine o_v rfl (v_extract rfl rfl) ?_
  refine o_cons ?_
  refine o_alloc T.zero_30 rfl (fun g8 => ?_)
  refine o_cons ?_
  refine o_stw _ T.ty_30 rfl rfl rfl rfl rfl (by simp [hw8.one]) ?_
  refine o_v rfl (v_assign rfl) ?_
  refine o_v rfl (v_assign rfl) ?_
  refine o_nil ?_
  refine q_then ?_
  refine c_seq ?_
  refine c_region ?_
  refine o_v rfl (v_ldw m1 T.ty_24 rfl rfl) ?_
  refine o_v rfl (v_move rfl) ?_
  refine o_cons ?_
  refine o_call (ref11Run _ vc c hvc hsc _ l hv0 hl6 hse) rfl rfl (fun v36 I36 j36 q36 => ?_)
  have hvc := hvc.le j36
  have hv0 := hv0.le j36
  have hw8 := hw8.le j36
  obtain ⟨w11, rfl, hw11⟩ := q36
  refine o_v rfl (v_move rfl) ?_
  refine o_v rfl (v_extract rfl rfl) ?_
  refine o_v rfl (v_extract rfl rfl) ?_
  refine o_v rfl (v_extract rfl rfl) ?_
  refine o_cons ?_
  refine o_alloc T.zero_30 rfl (fun g11 => ?_)
  refine o_cons ?_
  refine o_stw _ T.ty_30 rfl rfl rfl rfl rfl (by simp [hw11.one]) ?_
  refine o_v rfl (v_assign rfl) ?_
  refine o_v rfl (v_assign rfl) ?_
  refine o_nil ?_
  refine q_then ?_
  refine c_seq ?_
  refine c_region ?_
  refine o_v rfl (v_ldw m2 T.ty_24 rfl rfl) ?_
  refine o_v rfl (v_move rfl) ?_
  refine o_v rfl (v_move rfl) ?_
  refine o_cons ?_
  refine o_call (cAt _ vc c hvc hsc _ l hv0 hl6 hse day) rfl rfl (fun v44 I44 j44 q44 => ?_)
  have hvc := hvc.le j44
  have hv0 := hv0.le j44
  have hw8 := hw8.le j44
  have hw11 := hw11.le j44
  obtain ⟨w14, rfl, hw14⟩ := q44
  refine o_v rfl (v_move rfl) ?_
  refine o_v rfl (v_extract rfl rfl) ?_
  refine o_v rfl (v_extract rfl rfl) ?_
  refine o_v rfl (v_extract rfl rfl) ?_
  refine o_cons ?_
  refine o_alloc T.zero_30 rfl (fun g14 => ?_)
  refine o_cons ?_
  refine o_stw _ T.ty_30 rfl rfl rfl rfl rfl (by simp [hw14.one]) ?_
  refine o_v rfl (v_assign rfl) ?_
  refine o_v rfl (v_assign rfl) ?_
  refine o_nil ?_
  refine q_then ?_
  refine c_seq ?_
  refine c_region ?_
  refine o_v rfl (v_ldw m3 T.ty_24 rfl rfl) ?_
  refine o_v rfl (v_move rfl) ?_
  refine o_v rfl (v_move rfl) ?_
  refine o_cons ?_
  refine o_call (ref11At _ vc c hvc hsc _ l hv0 hl6 hse day) rfl rfl (fun v52 I52 j52 q52 => ?_)
  have hvc := hvc.le j52
  have hv0 := hv0.le j52
  have hw8 := hw8.le j52
  have hw11 := hw11.le j52
  have hw14 := hw14.le j52
  obtain ⟨w17, rfl, hw17⟩ := q52
  refine o_v rfl (v_move rfl) ?_
  refine o_v rfl (v_extract rfl rfl) ?_
  refine o_v rfl (v_extract rfl rfl) ?_
  refine o_v rfl (v_extract rfl rfl) ?_
  refine o_cons ?_
  refine o_alloc T.zero_30 rfl (fun g17 => ?_)
  refine o_cons ?_
  refine o_stw _ T.ty_30 rfl rfl rfl rfl rfl (by simp [hw17.one]) ?_
  refine o_v rfl (v_assign rfl) ?_
  refine o_v rfl (v_assign rfl) ?_
  refine o_nil ?_
  refine q_then ?_
  refine c_seq ?_
  refine c_region ?_
  refine o_v rfl (v_move rfl) ?_
  refine o_v rfl (v_move rfl) ?_
  refine o_cons (o_yes rfl rfl rfl (o_val rfl (v_move rfl) ?_))
  refine o_cons ?_
  refine o_yes rfl rfl rfl (o_call (cSort _ _ l hv0 hl6) rfl rfl (fun v59 I59 j59 q59 => ?_))
  have hv0 := hv0.le j59
  have hw8 := hw8.le j59
  have hw11 := hw11.le j59
  have hw14 := hw14.le j59
  have hw17 := hw17.le j59
  refine o_cons (o_yes rfl rfl rfl (o_val rfl (v_move rfl) ?_))
  refine o_cons ?_
  refine o_yes rfl rfl rfl (o_call (ref11Sort _ _ l hv0 hl6) rfl rfl (fun v61 I61 j61 q61 => ?_))
  have q59 := q59.le j61
  have hw8 := hw8.le j61
  have hw11 := hw11.le j61
  have hw14 := hw14.le j61
  have hw17 := hw17.le j61
  refine o_cons ?_
  refine o_yes rfl rfl rfl (o_callV (sameE_t _ _ _ q59 _ _ q61 rfl) rfl rfl ?_)
  refine o_v rfl (v_and_t rfl rfl rfl) ?_
  refine o_v rfl (v_move rfl) ?_
  refine o_cons (o_yes rfl rfl rfl (o_val rfl (v_ldw m3 T.ty_30 rfl rfl) ?_))
  refine o_cons (o_yes rfl rfl rfl (o_val rfl (v_ldw m2 T.ty_30 rfl rfl) ?_))
  refine o_cons ?_
  refine o_yes rfl rfl rfl (o_callV (sameSt_t _ _ _ hw8 _ _ hw11 rfl) rfl rfl ?_)
  refine o_v rfl (v_and_t rfl rfl rfl) ?_
  refine o_v rfl (v_move rfl) ?_
  refine o_cons (o_yes rfl rfl rfl (o_val rfl (v_move rfl) ?_))
  refine o_cons (o_yes rfl rfl rfl (o_val rfl (v_move rfl) ?_))
  refine o_cons (o_yes rfl rfl rfl (o_val rfl (OV.cast (u := .bool true) (v_eql rfl rfl) (congrArg Value.bool (decide_eq_true (rfl)))) ?_))
  refine o_v rfl (v_and_t rfl rfl rfl) ?_
  refine o_v rfl (v_move rfl) ?_
  refine o_cons (o_yes rfl rfl rfl (o_val rfl (v_move rfl) ?_))
  refine o_cons (o_yes rfl rfl rfl (o_val rfl (v_move rfl) ?_))
  refine o_cons (o_yes rfl rfl rfl (o_val rfl (OV.cast (u := .bool true) (v_eql rfl rfl) (congrArg Value.bool (decide_eq_true (rfl)))) ?_))
  refine o_v rfl (v_and_t rfl rfl rfl) ?_
  refine o_v rfl (v_move rfl) ?_
  refine o_cons (o_yes rfl rfl rfl (o_val rfl (v_ldw m1 T.ty_30 rfl rfl) ?_))
  refine o_cons (o_yes rfl rfl rfl (o_val rfl (v_ldw m0 T.ty_30 rfl rfl) ?_))
  refine o_cons ?_
  refine o_yes rfl rfl rfl (o_callV (sameSt_t _ _ _ hw14 _ _ hw17 rfl) rfl rfl ?_)
  refine o_v rfl (v_and_t rfl rfl rfl) ?_
  refine o_v rfl (v_move rfl) ?_
  refine o_cons (o_yes rfl rfl rfl (o_val rfl (v_move rfl) ?_))
  refine o_cons (o_yes rfl rfl rfl (o_val rfl (v_move rfl) ?_))
  refine o_cons (o_yes rfl rfl rfl (o_val rfl (OV.cast (u := .bool true) (v_eql rfl rfl) (congrArg Value.bool (decide_eq_true (rfl)))) ?_))
  refine o_v rfl (v_and_t rfl rfl rfl) ?_
  refine o_v rfl (v_move rfl) ?_
  refine o_cons (o_yes rfl rfl rfl (o_val rfl (v_move rfl) ?_))
  refine o_cons (o_yes rfl rfl rfl (o_val rfl (v_move rfl) ?_))
  refine o_cons (o_yes rfl rfl rfl (o_val rfl (OV.cast (u := .bool true) (v_eql rfl rfl) (congrArg Value.bool (decide_eq_true (rfl)))) ?_))
  refine o_v rfl (v_and_t rfl rfl rfl) ?_
  refine o_v rfl (v_assign rfl) ?_
  refine o_nil ?_
  refine q_then ?_
  refine c_ret ?_
  refine fin1 rfl rfl ?_
  exact q_vI rfl

end Go.Proofs.YtechmdlbpbpkdaaGreat
