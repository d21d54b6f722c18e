/- Walks, printed by a program out of the code of the functions: each theorem is a contract of one function. -/
import Derived.Test.YtechmdlbpbpkdaaGreatW12
import Derived.Test.YtechmdlbpbpkdaaGreatM13
namespace Go.Proofs.YtechmdlbpbpkdaaGreat
open Go Go.Sx
set_option linter.all false
set_option maxRecDepth 20000
set_option maxHeartbeats 4000000
theorem T.eqg_45 : Tryz.prog.eqGuardType Tryz.prog.depth 45 = false := by kernel_rfl
theorem T.eqg_85 : Tryz.prog.eqGuardType Tryz.prog.depth 85 = false := by kernel_rfl
theorem samePart (I : IMap) (x y : Part) (vx vy : Value) (hx : RdS I vx x.props) (hy : RdS I vy y.props) :
    FnV Tryz.prog 28 #[.agg (x.cells vx).toArray, .agg (y.cells vy).toArray] I (.bool (decide (x = y))) := by
 obtain ⟨A, c, rfl, hA, _, _⟩ := hx
 obtain ⟨B, d, rfl, hB, _, _⟩ := hy
 refine enter Tryz.func28 Tryz.call28 rfl Tryz.ntmps28 rfl (fun w0 => ?_)
 refine c_seq ?_
 refine c_region ?_
 refine o_cons ?_
 refine o_box _ rfl rfl rfl (fun g2 => ?_)
 refine o_cons ?_
 refine o_box _ rfl rfl rfl (fun g3 => ?_)
 refine o_v rfl (v_assign rfl) ?_
 refine o_nil ?_
 refine q_then ?_
 refine c_seq ?_
 refine c_seq ?_
 refine c_region ?_
 refine o_v rfl (v_fieldAddr T.fld_47_0 rfl) ?_
 refine o_v rfl (v_ld m1 T.ty_9 rfl rfl) ?_
 refine o_v rfl (v_fieldAddr T.fld_47_0 rfl) ?_
 refine o_v rfl (v_ld m0 T.ty_9 rfl rfl) ?_
 refine o_v rfl (v_sneq rfl rfl) ?_
 refine o_v rfl (v_move rfl) ?_
 refine sx_split 11 rfl (fun h11 => ?_) (fun h11 => ?_)
 ·have p11 := h11
  try simp only [bO] at p11
  refine o_cons (o_no rfl rfl h11 rfl ?_)
  refine o_cons (o_no rfl rfl h11 rfl ?_)
  refine o_cons (o_no rfl rfl h11 rfl ?_)
  refine o_cons (o_no rfl rfl h11 rfl ?_)
  refine o_cons (o_no rfl rfl h11 rfl ?_)
  refine o_v rfl (v_or_t h11 rfl) ?_
  refine o_v rfl (v_move rfl) ?_
  refine o_cons (o_no rfl rfl rfl rfl ?_)
  refine o_cons (o_no rfl rfl rfl rfl ?_)
  refine o_cons (o_no rfl rfl rfl rfl ?_)
  refine o_cons (o_no rfl rfl rfl rfl ?_)
  refine o_cons (o_no rfl rfl rfl rfl ?_)
  refine o_v rfl (v_or_t rfl rfl) ?_
  refine o_v rfl (v_move rfl) ?_
  refine o_cons (o_no rfl rfl rfl rfl ?_)
  refine o_cons (o_no rfl rfl rfl rfl ?_)
  refine o_cons (o_no rfl rfl rfl rfl ?_)
  refine o_cons (o_no rfl rfl rfl rfl ?_)
  refine o_cons (o_no rfl rfl rfl rfl ?_)
  refine o_v rfl (v_or_t rfl rfl) ?_
  refine o_v rfl (v_move rfl) ?_
  refine o_cons (o_no rfl rfl rfl rfl ?_)
  refine o_cons (o_no rfl rfl rfl rfl ?_)
  refine o_cons (o_no rfl rfl rfl rfl ?_)
  refine o_cons (o_no rfl rfl rfl rfl ?_)
  refine o_cons (o_no rfl rfl rfl rfl ?_)
  refine o_v rfl (v_or_t rfl rfl) ?_
  refine o_v rfl (v_move rfl) ?_
  refine o_cons (o_no rfl rfl rfl rfl ?_)
  refine o_cons (o_no rfl rfl rfl rfl ?_)
  refine o_cons (o_no rfl rfl rfl rfl ?_)
  refine o_cons (o_no rfl rfl rfl rfl ?_)
  refine o_cons (o_no rfl rfl rfl rfl ?_)
  refine o_v rfl (v_or_t rfl rfl) ?_
  refine o_v rfl (v_move rfl) ?_
  refine o_cons (o_no rfl rfl rfl rfl ?_)
  refine o_cons (o_no rfl rfl rfl rfl ?_)
  refine o_cons (o_no rfl rfl rfl rfl ?_)
  refine o_cons (o_no rfl rfl rfl rfl ?_)
  refine o_cons (o_no rfl rfl rfl rfl ?_)
  refine o_v rfl (v_or_t rfl rfl) ?_
  refine o_v rfl (v_move rfl) ?_
  refine o_cons (o_no rfl rfl rfl rfl ?_)
  refine o_cons (o_no rfl rfl rfl rfl ?_)
  refine o_cons (o_no rfl rfl rfl rfl ?_)
  refine o_cons (o_no rfl rfl rfl rfl ?_)
  refine o_cons (o_no rfl rfl rfl rfl ?_)
  refine o_v rfl (v_or_t rfl rfl) ?_
  refine o_v rfl (v_move rfl) ?_
  refine o_cons (o_no rfl rfl rfl rfl ?_)
  refine o_cons (o_no rfl rfl rfl rfl ?_)
  refine o_cons (o_no rfl rfl rfl rfl ?_)
  refine o_cons (o_no rfl rfl rfl rfl ?_)
  refine o_cons (o_no rfl rfl rfl rfl ?_)
  refine o_cons (o_no rfl rfl rfl rfl ?_)
  refine o_cons (o_no rfl rfl rfl rfl ?_)
  refine o_v rfl (v_or_t rfl rfl) ?_
  refine o_nil ?_
  refine q_then ?_
  refine c_true rfl ?_
  refine c_seq ?_
  refine c_region ?_
  refine o_v rfl (v_assign rfl) ?_
  refine o_nil ?_
  refine q_then ?_
  refine c_ret ?_
  refine q_then_ret ?_
  refine fin1 rfl rfl ?_
  exact q_v (congrArg Value.bool (decide_eq_false (by intro e; subst e; simp_all)).symm)
 ·have p11 := h11
  try simp only [bO] at p11
  refine o_cons (o_yes rfl rfl h11 (o_val rfl (v_fieldAddr T.fld_47_1 rfl) ?_))
  refine o_cons (o_yes rfl rfl h11 (o_val rfl (v_ld m1 T.ty_9 rfl rfl) ?_))
  refine o_cons (o_yes rfl rfl h11 (o_val rfl (v_fieldAddr T.fld_47_1 rfl) ?_))
  refine o_cons (o_yes rfl rfl h11 (o_val rfl (v_ld m0 T.ty_9 rfl rfl) ?_))
  refine o_cons (o_yes rfl rfl h11 (o_val rfl (v_sneq rfl rfl) ?_))
  refine o_v rfl (v_or_f h11 rfl rfl) ?_
  refine o_v rfl (v_move rfl) ?_
  refine sx_split 18 rfl (fun h18 => ?_) (fun h18 => ?_)
  ·have p18 := h18
   try simp only [bO] at p18
   refine o_cons (o_no rfl rfl h18 rfl ?_)
   refine o_cons (o_no rfl rfl h18 rfl ?_)
   refine o_cons (o_no rfl rfl h18 rfl ?_)
   refine o_cons (o_no rfl rfl h18 rfl ?_)
   refine o_cons (o_no rfl rfl h18 rfl ?_)
   refine o_v rfl (v_or_t h18 rfl) ?_
   refine o_v rfl (v_move rfl) ?_
   refine o_cons (o_no rfl rfl rfl rfl ?_)
   refine o_cons (o_no rfl rfl rfl rfl ?_)
   refine o_cons (o_no rfl rfl rfl rfl ?_)
   refine o_cons (o_no rfl rfl rfl rfl ?_)
   refine o_cons (o_no rfl rfl rfl rfl ?_)
   refine o_v rfl (v_or_t rfl rfl) ?_
   refine o_v rfl (v_move rfl) ?_
   refine o_cons (o_no rfl rfl rfl rfl ?_)
   refine o_cons (o_no rfl rfl rfl rfl ?_)
   refine o_cons (o_no rfl rfl rfl rfl ?_)
   refine o_cons (o_no rfl rfl rfl rfl ?_)
   refine o_cons (o_no rfl rfl rfl rfl ?_)
   refine o_v rfl (v_or_t rfl rfl) ?_
   refine o_v rfl (v_move rfl) ?_
   refine o_cons (o_no rfl rfl rfl rfl ?_)
   refine o_cons (o_no rfl rfl rfl rfl ?_)
   refine o_cons (o_no rfl rfl rfl rfl ?_)
   refine o_cons (o_no rfl rfl rfl rfl ?_)
   refine o_cons (o_no rfl rfl rfl rfl ?_)
   refine o_v rfl (v_or_t rfl rfl) ?_
   refine o_v rfl (v_move rfl) ?_
   refine o_cons (o_no rfl rfl rfl rfl ?_)
   refine o_cons (o_no rfl rfl rfl rfl ?_)
   refine o_cons (o_no rfl rfl rfl rfl ?_)
   refine o_cons (o_no rfl rfl rfl rfl ?_)
   refine o_cons (o_no rfl rfl rfl rfl ?_)
   refine o_v rfl (v_or_t rfl rfl) ?_
   refine o_v rfl (v_move rfl) ?_
   refine o_cons (o_no rfl rfl rfl rfl ?_)
   refine o_cons (o_no rfl rfl rfl rfl ?_)
   refine o_cons (o_no rfl rfl rfl rfl ?_)
   refine o_cons (o_no rfl rfl rfl rfl ?_)
   refine o_cons (o_no rfl rfl rfl rfl ?_)
   refine o_v rfl (v_or_t rfl rfl) ?_
   refine o_v rfl (v_move rfl) ?_
   refine o_cons (o_no rfl rfl rfl rfl ?_)
   refine o_cons (o_no rfl rfl rfl rfl ?_)
   refine o_cons (o_no rfl rfl rfl rfl ?_)
   refine o_cons (o_no rfl rfl rfl rfl ?_)
   refine o_cons (o_no rfl rfl rfl rfl ?_)
   refine o_cons (o_no rfl rfl rfl rfl ?_)
   refine o_cons (o_no rfl rfl rfl rfl ?_)
   refine o_v rfl (v_or_t rfl rfl) ?_
   refine o_nil ?_
   refine q_then ?_
   refine c_true rfl ?_
   refine c_seq ?_
   refine c_region ?_
   refine o_v rfl (v_assign rfl) ?_
   refine o_nil ?_
   refine q_then ?_
   refine c_ret ?_
   refine q_then_ret ?_
   refine fin1 rfl rfl ?_
   exact q_v (congrArg Value.bool (decide_eq_false (by intro e; subst e; simp_all)).symm)
  ·have p18 := h18
   try simp only [bO] at p18
   refine o_cons (o_yes rfl rfl h18 (o_val rfl (v_fieldAddr T.fld_47_2 rfl) ?_))
   refine o_cons (o_yes rfl rfl h18 (o_val rfl (v_ld m1 T.ty_9 rfl rfl) ?_))
   refine o_cons (o_yes rfl rfl h18 (o_val rfl (v_fieldAddr T.fld_47_2 rfl) ?_))
   refine o_cons (o_yes rfl rfl h18 (o_val rfl (v_ld m0 T.ty_9 rfl rfl) ?_))
   refine o_cons (o_yes rfl rfl h18 (o_val rfl (v_sneq rfl rfl) ?_))
   refine o_v rfl (v_or_f h18 rfl rfl) ?_
   refine o_v rfl (v_move rfl) ?_
   refine sx_split 25 rfl (fun h25 => ?_) (fun h25 => ?_)
   ·have p25 := h25
    try simp only [bO] at p25
    refine o_cons (o_no rfl rfl h25 rfl ?_)
    refine o_cons (o_no rfl rfl h25 rfl ?_)
    refine o_cons (o_no rfl rfl h25 rfl ?_)
    refine o_cons (o_no rfl rfl h25 rfl ?_)
    refine o_cons (o_no rfl rfl h25 rfl ?_)
    refine o_v rfl (v_or_t h25 rfl) ?_
    refine o_v rfl (v_move rfl) ?_
    refine o_cons (o_no rfl rfl rfl rfl ?_)
    refine o_cons (o_no rfl rfl rfl rfl ?_)
    refine o_cons (o_no rfl rfl rfl rfl ?_)
    refine o_cons (o_no rfl rfl rfl rfl ?_)
    refine o_cons (o_no rfl rfl rfl rfl ?_)
    refine o_v rfl (v_or_t rfl rfl) ?_
    refine o_v rfl (v_move rfl) ?_
    refine o_cons (o_no rfl rfl rfl rfl ?_)
    refine o_cons (o_no rfl rfl rfl rfl ?_)
    refine o_cons (o_no rfl rfl rfl rfl ?_)
    refine o_cons (o_no rfl rfl rfl rfl ?_)
    refine o_cons (o_no rfl rfl rfl rfl ?_)
    refine o_v rfl (v_or_t rfl rfl) ?_
    refine o_v rfl (v_move rfl) ?_
    refine o_cons (o_no rfl rfl rfl rfl ?_)
    refine o_cons (o_no rfl rfl rfl rfl ?_)
    refine o_cons (o_no rfl rfl rfl rfl ?_)
    refine o_cons (o_no rfl rfl rfl rfl ?_)
    refine o_cons (o_no rfl rfl rfl rfl ?_)
    refine o_v rfl (v_or_t rfl rfl) ?_
    refine o_v rfl (v_move rfl) ?_
    refine o_cons (o_no rfl rfl rfl rfl ?_)
    refine o_cons (o_no rfl rfl rfl rfl ?_)
    refine o_cons (o_no rfl rfl rfl rfl ?_)
    refine o_cons (o_no rfl rfl rfl rfl ?_)
    refine o_cons (o_no rfl rfl rfl rfl ?_)
    refine o_v rfl (v_or_t rfl rfl) ?_
    refine o_v rfl (v_move rfl) ?_
    refine o_cons (o_no rfl rfl rfl rfl ?_)
    refine o_cons (o_no rfl rfl rfl rfl ?_)
    refine o_cons (o_no rfl rfl rfl rfl ?_)
    refine o_cons (o_no rfl rfl rfl rfl ?_)
    refine o_cons (o_no rfl rfl rfl rfl ?_)
    refine o_cons (o_no rfl rfl rfl rfl ?_)
    refine o_cons (o_no rfl rfl rfl rfl ?_)
    refine o_v rfl (v_or_t rfl rfl) ?_
    refine o_nil ?_
    refine q_then ?_
    refine c_true rfl ?_
    refine c_seq ?_
    refine c_region ?_
    refine o_v rfl (v_assign rfl) ?_
    refine o_nil ?_
    refine q_then ?_
    refine c_ret ?_
    refine q_then_ret ?_
    refine fin1 rfl rfl ?_
    exact q_v (congrArg Value.bool (decide_eq_false (by intro e; subst e; simp_all)).symm)
   ·have p25 := h25
    try simp only [bO] at p25
    refine o_cons (o_yes rfl rfl h25 (o_val rfl (v_fieldAddr T.fld_47_3 rfl) ?_))
    refine o_cons (o_yes rfl rfl h25 (o_val rfl (v_ld m1 T.ty_9 rfl rfl) ?_))
    refine o_cons (o_yes rfl rfl h25 (o_val rfl (v_fieldAddr T.fld_47_3 rfl) ?_))
    refine o_cons (o_yes rfl rfl h25 (o_val rfl (v_ld m0 T.ty_9 rfl rfl) ?_))
    refine o_cons (o_yes rfl rfl h25 (o_val rfl (v_sneq rfl rfl) ?_))
    refine o_v rfl (v_or_f h25 rfl rfl) ?_
    refine o_v rfl (v_move rfl) ?_
    refine sx_split 32 rfl (fun h32 => ?_) (fun h32 => ?_)
    ·have p32 := h32
     try simp only [bO] at p32
     refine o_cons (o_no rfl rfl h32 rfl ?_)
     refine o_cons (o_no rfl rfl h32 rfl ?_)
     refine o_cons (o_no rfl rfl h32 rfl ?_)
     refine o_cons (o_no rfl rfl h32 rfl ?_)
     refine o_cons (o_no rfl rfl h32 rfl ?_)
     refine o_v rfl (v_or_t h32 rfl) ?_
     refine o_v rfl (v_move rfl) ?_
     refine o_cons (o_no rfl rfl rfl rfl ?_)
     refine o_cons (o_no rfl rfl rfl rfl ?_)
     refine o_cons (o_no rfl rfl rfl rfl ?_)
     refine o_cons (o_no rfl rfl rfl rfl ?_)
     refine o_cons (o_no rfl rfl rfl rfl ?_)
     refine o_v rfl (v_or_t rfl rfl) ?_
     refine o_v rfl (v_move rfl) ?_
     refine o_cons (o_no rfl rfl rfl rfl ?_)
     refine o_cons (o_no rfl rfl rfl rfl ?_)
     refine o_cons (o_no rfl rfl rfl rfl ?_)
     refine o_cons (o_no rfl rfl rfl rfl ?_)
     refine o_cons (o_no rfl rfl rfl rfl ?_)
     refine o_v rfl (v_or_t rfl rfl) ?_
     refine o_v rfl (v_move rfl) ?_
     refine o_cons (o_no rfl rfl rfl rfl ?_)
     refine o_cons (o_no rfl rfl rfl rfl ?_)
     refine o_cons (o_no rfl rfl rfl rfl ?_)
     refine o_cons (o_no rfl rfl rfl rfl ?_)
     refine o_cons (o_no rfl rfl rfl rfl ?_)
     refine o_v rfl (v_or_t rfl rfl) ?_
     refine o_v rfl (v_move rfl) ?_
     refine o_cons (o_no rfl rfl rfl rfl ?_)
     refine o_cons (o_no rfl rfl rfl rfl ?_)
     refine o_cons (o_no rfl rfl rfl rfl ?_)
     refine o_cons (o_no rfl rfl rfl rfl ?_)
     refine o_cons (o_no rfl rfl rfl rfl ?_)
     refine o_cons (o_no rfl rfl rfl rfl ?_)
     refine o_cons (o_no rfl rfl rfl rfl ?_)
     refine o_v rfl (v_or_t rfl rfl) ?_
     refine o_nil ?_
     refine q_then ?_
     refine c_true rfl ?_
     refine c_seq ?_
     refine c_region ?_
     refine o_v rfl (v_assign rfl) ?_
     refine o_nil ?_
     refine q_then ?_
     refine c_ret ?_
     refine q_then_ret ?_
     refine fin1 rfl rfl ?_
     exact q_v (congrArg Value.bool (decide_eq_false (by intro e; subst e; simp_all)).symm)
    ·have p32 := h32
     try simp only [bO] at p32
     refine o_cons (o_yes rfl rfl h32 (o_val rfl (v_fieldAddr T.fld_47_4 rfl) ?_))
     refine o_cons (o_yes rfl rfl h32 (o_val rfl (v_ld m1 T.ty_3 rfl rfl) ?_))
     refine o_cons (o_yes rfl rfl h32 (o_val rfl (v_fieldAddr T.fld_47_4 rfl) ?_))
     refine o_cons (o_yes rfl rfl h32 (o_val rfl (v_ld m0 T.ty_3 rfl rfl) ?_))
     refine o_cons (o_yes rfl rfl h32 (o_val rfl (v_neq rfl rfl) ?_))
     refine o_v rfl (v_or_f h32 rfl rfl) ?_
     refine o_v rfl (v_move rfl) ?_
     refine sx_split 39 rfl (fun h39 => ?_) (fun h39 => ?_)
     ·have p39 := h39
      try simp only [bO] at p39
      refine o_cons (o_no rfl rfl h39 rfl ?_)
      refine o_cons (o_no rfl rfl h39 rfl ?_)
      refine o_cons (o_no rfl rfl h39 rfl ?_)
      refine o_cons (o_no rfl rfl h39 rfl ?_)
      refine o_cons (o_no rfl rfl h39 rfl ?_)
      refine o_v rfl (v_or_t h39 rfl) ?_
      refine o_v rfl (v_move rfl) ?_
      refine o_cons (o_no rfl rfl rfl rfl ?_)
      refine o_cons (o_no rfl rfl rfl rfl ?_)
      refine o_cons (o_no rfl rfl rfl rfl ?_)
      refine o_cons (o_no rfl rfl rfl rfl ?_)
      refine o_cons (o_no rfl rfl rfl rfl ?_)
      refine o_v rfl (v_or_t rfl rfl) ?_
      refine o_v rfl (v_move rfl) ?_
      refine o_cons (o_no rfl rfl rfl rfl ?_)
      refine o_cons (o_no rfl rfl rfl rfl ?_)
      refine o_cons (o_no rfl rfl rfl rfl ?_)
      refine o_cons (o_no rfl rfl rfl rfl ?_)
      refine o_cons (o_no rfl rfl rfl rfl ?_)
      refine o_v rfl (v_or_t rfl rfl) ?_
      refine o_v rfl (v_move rfl) ?_
      refine o_cons (o_no rfl rfl rfl rfl ?_)
      refine o_cons (o_no rfl rfl rfl rfl ?_)
      refine o_cons (o_no rfl rfl rfl rfl ?_)
      refine o_cons (o_no rfl rfl rfl rfl ?_)
      refine o_cons (o_no rfl rfl rfl rfl ?_)
      refine o_cons (o_no rfl rfl rfl rfl ?_)
      refine o_cons (o_no rfl rfl rfl rfl ?_)
      refine o_v rfl (v_or_t rfl rfl) ?_
      refine o_nil ?_
      refine q_then ?_
      refine c_true rfl ?_
      refine c_seq ?_
      refine c_region ?_
      refine o_v rfl (v_assign rfl) ?_
      refine o_nil ?_
      refine q_then ?_
      refine c_ret ?_
      refine q_then_ret ?_
      refine fin1 rfl rfl ?_
      exact q_v (congrArg Value.bool (decide_eq_false (by intro e; subst e; simp_all)).symm)
     ·have p39 := h39
      try simp only [bO] at p39
      refine o_cons (o_yes rfl rfl h39 (o_val rfl (v_fieldAddr T.fld_47_5 rfl) ?_))
      refine o_cons (o_yes rfl rfl h39 (o_val rfl (v_ld m1 T.ty_3 rfl rfl) ?_))
      refine o_cons (o_yes rfl rfl h39 (o_val rfl (v_fieldAddr T.fld_47_5 rfl) ?_))
      refine o_cons (o_yes rfl rfl h39 (o_val rfl (v_ld m0 T.ty_3 rfl rfl) ?_))
      refine o_cons (o_yes rfl rfl h39 (o_val rfl (v_neq rfl rfl) ?_))
      refine o_v rfl (v_or_f h39 rfl rfl) ?_
      refine o_v rfl (v_move rfl) ?_
      refine sx_split 46 rfl (fun h46 => ?_) (fun h46 => ?_)
      ·have p46 := h46
       try simp only [bO] at p46
       refine o_cons (o_no rfl rfl h46 rfl ?_)
       refine o_cons (o_no rfl rfl h46 rfl ?_)
       refine o_cons (o_no rfl rfl h46 rfl ?_)
       refine o_cons (o_no rfl rfl h46 rfl ?_)
       refine o_cons (o_no rfl rfl h46 rfl ?_)
       refine o_v rfl (v_or_t h46 rfl) ?_
       refine o_v rfl (v_move rfl) ?_
       refine o_cons (o_no rfl rfl rfl rfl ?_)
       refine o_cons (o_no rfl rfl rfl rfl ?_)
       refine o_cons (o_no rfl rfl rfl rfl ?_)
       refine o_cons (o_no rfl rfl rfl rfl ?_)
       refine o_cons (o_no rfl rfl rfl rfl ?_)
       refine o_v rfl (v_or_t rfl rfl) ?_
       refine o_v rfl (v_move rfl) ?_
       refine o_cons (o_no rfl rfl rfl rfl ?_)
       refine o_cons (o_no rfl rfl rfl rfl ?_)
       refine o_cons (o_no rfl rfl rfl rfl ?_)
       refine o_cons (o_no rfl rfl rfl rfl ?_)
       refine o_cons (o_no rfl rfl rfl rfl ?_)
       refine o_cons (o_no rfl rfl rfl rfl ?_)
       refine o_cons (o_no rfl rfl rfl rfl ?_)
       refine o_v rfl (v_or_t rfl rfl) ?_
       refine o_nil ?_
       refine q_then ?_
       refine c_true rfl ?_
       refine c_seq ?_
       refine c_region ?_
       refine o_v rfl (v_assign rfl) ?_
       refine o_nil ?_
       refine q_then ?_
       refine c_ret ?_
       refine q_then_ret ?_
       refine fin1 rfl rfl ?_
       exact q_v (congrArg Value.bool (decide_eq_false (by intro e; subst e; simp_all)).symm)
      ·have p46 := h46
       try simp only [bO] at p46
       refine o_cons (o_yes rfl rfl h46 (o_val rfl (v_fieldAddr T.fld_47_6 rfl) ?_))
       refine o_cons (o_yes rfl rfl h46 (o_val rfl (v_ld m1 T.ty_4 rfl rfl) ?_))
       refine o_cons (o_yes rfl rfl h46 (o_val rfl (v_fieldAddr T.fld_47_6 rfl) ?_))
       refine o_cons (o_yes rfl rfl h46 (o_val rfl (v_ld m0 T.ty_4 rfl rfl) ?_))
       refine o_cons (o_yes rfl rfl h46 (o_val rfl (v_bneq T.und_4 rfl rfl) ?_))
       refine o_v rfl (v_or_f h46 rfl rfl) ?_
       refine o_v rfl (v_move rfl) ?_
       refine sx_split 53 rfl (fun h53 => ?_) (fun h53 => ?_)
       ·have p53 := h53
        try simp only [bO] at p53
        refine o_cons (o_no rfl rfl h53 rfl ?_)
        refine o_cons (o_no rfl rfl h53 rfl ?_)
        refine o_cons (o_no rfl rfl h53 rfl ?_)
        refine o_cons (o_no rfl rfl h53 rfl ?_)
        refine o_cons (o_no rfl rfl h53 rfl ?_)
        refine o_v rfl (v_or_t h53 rfl) ?_
        refine o_v rfl (v_move rfl) ?_
        refine o_cons (o_no rfl rfl rfl rfl ?_)
        refine o_cons (o_no rfl rfl rfl rfl ?_)
        refine o_cons (o_no rfl rfl rfl rfl ?_)
        refine o_cons (o_no rfl rfl rfl rfl ?_)
        refine o_cons (o_no rfl rfl rfl rfl ?_)
        refine o_cons (o_no rfl rfl rfl rfl ?_)
        refine o_cons (o_no rfl rfl rfl rfl ?_)
        refine o_v rfl (v_or_t rfl rfl) ?_
        refine o_nil ?_
        refine q_then ?_
        refine c_true rfl ?_
        refine c_seq ?_
        refine c_region ?_
        refine o_v rfl (v_assign rfl) ?_
        refine o_nil ?_
        refine q_then ?_
        refine c_ret ?_
        refine q_then_ret ?_
        refine fin1 rfl rfl ?_
        exact q_v (congrArg Value.bool (decide_eq_false (by intro e; subst e; simp_all)).symm)
       ·have p53 := h53
        try simp only [bO] at p53
        refine o_cons (o_yes rfl rfl h53 (o_val rfl (v_fieldAddr T.fld_47_8 rfl) ?_))
        refine o_cons (o_yes rfl rfl h53 (o_val rfl (v_ldp (x.life.cells) m1 T.ty_45 rfl rfl rfl) ?_))
        refine o_cons (o_yes rfl rfl h53 (o_val rfl (v_fieldAddr T.fld_47_8 rfl) ?_))
        refine o_cons (o_yes rfl rfl h53 (o_val rfl (v_ldp (y.life.cells) m0 T.ty_45 rfl rfl rfl) ?_))
        refine o_cons (o_yes rfl rfl h53 (o_val rfl (v_stneq T.eqg_45 (eqS_Life x.life y.life) rfl rfl) ?_))
        refine o_v rfl (v_or_f h53 rfl rfl) ?_
        refine o_v rfl (v_move rfl) ?_
        refine sx_split 60 rfl (fun h60 => ?_) (fun h60 => ?_)
        ·have p60 := h60
         try simp only [bO] at p60
         refine o_cons (o_no rfl rfl h60 rfl ?_)
         refine o_cons (o_no rfl rfl h60 rfl ?_)
         refine o_cons (o_no rfl rfl h60 rfl ?_)
         refine o_cons (o_no rfl rfl h60 rfl ?_)
         refine o_cons (o_no rfl rfl h60 rfl ?_)
         refine o_cons (o_no rfl rfl h60 rfl ?_)
         refine o_cons (o_no rfl rfl h60 rfl ?_)
         refine o_v rfl (v_or_t h60 rfl) ?_
         refine o_nil ?_
         refine q_then ?_
         refine c_true rfl ?_
         refine c_seq ?_
         refine c_region ?_
         refine o_v rfl (v_assign rfl) ?_
         refine o_nil ?_
         refine q_then ?_
         refine c_ret ?_
         refine q_then_ret ?_
         refine fin1 rfl rfl ?_
         exact q_v (congrArg Value.bool (decide_eq_false (by intro e; subst e; simp_all)).symm)
        ·have p60 := h60
         try simp only [bO] at p60
         refine o_cons (o_yes rfl rfl h60 (o_val rfl (v_fieldAddr T.fld_47_7 rfl) ?_))
         refine o_cons (o_yes rfl rfl h60 (o_val rfl (v_ld m1 T.ty_41 rfl rfl) ?_))
         refine o_cons (o_yes rfl rfl h60 (o_val rfl (v_len_slice T.und_41 rfl) ?_))
         refine o_cons (o_yes rfl rfl h60 (o_val rfl (v_fieldAddr T.fld_47_7 rfl) ?_))
         refine o_cons (o_yes rfl rfl h60 (o_val rfl (v_ld m0 T.ty_41 rfl rfl) ?_))
         refine o_cons (o_yes rfl rfl h60 (o_val rfl (v_len_slice T.und_41 rfl) ?_))
         refine o_cons (o_yes rfl rfl h60 (o_val rfl (v_neq rfl rfl) ?_))
         refine o_v rfl (v_or_f h60 rfl rfl) ?_
         refine o_nil ?_
         refine q_then ?_
         refine c_cond rfl (fun h68 => ?_) (fun h68 => ?_)
         ·have p68 := h68
          try simp only [bO] at p68
          refine c_seq ?_
          refine c_region ?_
          refine o_v rfl (v_assign rfl) ?_
          refine o_nil ?_
          refine q_then ?_
          refine c_ret ?_
          refine q_then_ret ?_
          refine fin1 rfl rfl ?_
          exact q_v (congrArg Value.bool (decide_eq_false (by intro e; subst e; simp_all)).symm)
         ·have p68 := h68
          try simp only [bO] at p68
          have hpl : x.props.length = y.props.length := by omega
          refine c_skip ?_
          refine q_then ?_
          refine c_seq ?_
          refine c_seq ?_
          refine c_region ?_
          refine o_v rfl (v_assign rfl) ?_
          refine o_nil ?_
          refine q_then ?_
          refine c_block ?_
          refine c_loop (α := Nat) 0 (fun i => I)
           (fun i => [(2, .pointer (some ⟨g2, 0, none⟩)), (3, .pointer (some ⟨g3, 0, none⟩)), (5, .int .i64 ((i : Nat) : Int))])
           (fun i => [.blk g3 47 (y.cells (.slice B y.props.length d)), .blk g2 47 (x.cells (.slice A x.props.length c))])
           (fun i => i ≤ x.props.length ∧ x.props.take i = y.props.take i)
           (fun i => x.props.length - i) ⟨Nat.zero_le _, rfl⟩ rfl ⟨rfl, rfl, rfl, trivial⟩ rfl ?_
          intro i ⟨hi, hn⟩
          refine c_seq ?_
          refine c_seq ?_
          refine c_region ?_
          refine o_v rfl (v_move rfl) ?_
          refine o_v rfl (v_fieldAddr T.fld_47_7 rfl) ?_
          refine o_v rfl (v_ld m1 T.ty_41 rfl rfl) ?_
          refine o_v rfl (v_len_slice T.und_41 rfl) ?_
          refine o_v rfl (v_lss rfl rfl) ?_
          refine o_nil ?_
          refine q_then ?_
          refine c_cond rfl (fun h73 => ?_) (fun h73 => ?_)
          ·have p73 := h73
           try simp only [bO] at p73
           have hlt : i < x.props.length := by omega
           refine c_skip ?_
           refine q_then ?_
           refine c_seq ?_
           refine c_block ?_
           refine c_seq ?_
           refine d_startH T.mixed ?_
           refine d_tv 0 rfl rfl (by kernel_rfl) rfl (.refl _) rfl (v_fieldAddr T.fld_47_7 rfl) ?_
           refine d_tv 1 rfl rfl (by kernel_rfl) rfl (.refl _) rfl (v_ld m1 T.ty_41 rfl rfl) ?_
           refine d_tv 2 rfl rfl (by kernel_rfl) rfl (.refl _) rfl (v_move rfl) ?_
           obtain ⟨b79, o79, w79, e79, c79, r79⟩ := RdA.at_ hA (i := i) hlt
           obtain rfl := r79
           refine d_tv 3 rfl rfl (by kernel_rfl) rfl (.refl _) rfl (v_idx T.elt_41 rfl rfl e79 (i) (by omega) hlt) ?_
           refine d_tv 4 rfl rfl (by kernel_rfl) rfl (.refl _) rfl (v_ldIa T.ty_85 rfl c79 rfl) ?_
           refine d_tv 5 rfl rfl (by kernel_rfl) rfl (.refl _) rfl (v_fieldAddr T.fld_47_7 rfl) ?_
           refine d_tv 6 rfl rfl (by kernel_rfl) rfl (.refl _) rfl (v_ld m0 T.ty_41 rfl rfl) ?_
           refine d_tv 7 rfl rfl (by kernel_rfl) rfl (.refl _) rfl (v_move rfl) ?_
           obtain ⟨b84, o84, w84, e84, c84, r84⟩ := RdA.at_ hB (i := i) (by omega)
           obtain rfl := r84
           refine d_tv 8 rfl rfl (by kernel_rfl) rfl (.refl _) rfl (v_idx T.elt_41 rfl rfl e84 (i) (by omega) (by omega)) ?_
           refine d_tv 9 rfl rfl (by kernel_rfl) rfl (.refl _) rfl (v_ldIa T.ty_85 rfl c84 rfl) ?_
           refine d_tv 10 rfl rfl (by kernel_rfl) rfl (.refl _) rfl (v_stneq T.eqg_85 (eqS_Prp x.props[i] y.props[i]) rfl rfl) ?_
           refine d_done (by kernel_rfl) ?_
           refine q_then ?_
           refine c_cond rfl (fun h86 => ?_) (fun h86 => ?_)
           ·have p86 := h86
            try simp only [bO] at p86
            refine c_seq ?_
            refine c_region ?_
            refine o_v rfl (v_assign rfl) ?_
            refine o_nil ?_
            refine q_then ?_
            refine c_ret ?_
            refine q_block_ret ?_
            refine q_then_ret ?_
            refine q_then_ret ?_
            refine q_block_ret ?_
            refine q_then_ret ?_
            refine fin1 rfl rfl ?_
            have hne := same_no hlt (by omega) (show decide (x.props[i] = y.props[i]) = false by simpa using h86)
            exact q_v (congrArg Value.bool (decide_eq_false (by intro e; subst e; simp at hne)).symm)
           ·have p86 := h86
            try simp only [bO] at p86
            refine c_skip ?_
            refine q_block ?_
            refine q_then ?_
            refine c_region ?_
            refine o_v rfl (v_move rfl) ?_
            refine o_v rfl (v_add rfl rfl ⟨by omega, by omega⟩) ?_
            refine o_v rfl (v_assign rfl) ?_
            refine o_nil ?_
            refine q_then ?_
            exact q_next (i + 1) ⟨by omega, same_next hlt (by omega) hn (by simpa using h86)⟩ (by omega) rfl ⟨rfl, rfl, rfl, trivial⟩ rfl
          ·have p73 := h73
           try simp only [bO] at p73
           refine c_exit ?_
           refine q_then_exit ?_
           refine q_then_exit ?_
           refine q_block_eq ?_
           refine q_then ?_
           refine c_seq ?_
           refine c_region ?_
           refine o_v rfl (v_assign rfl) ?_
           refine o_nil ?_
           refine q_then ?_
           refine c_ret ?_
           refine fin1 rfl rfl ?_
           have hpe := same_end hpl (by omega) hn
           exact q_v (congrArg Value.bool (decide_eq_true (by cases x; cases y; simp_all)).symm)

theorem sameSt (I : IMap) (v : Value) (l : List Part) (hv : RdS I v l) (v2 : Value) (m : List Part) (hv2 : RdS I v2 m) :
    FnV Tryz.prog 13 #[.agg #[v], .agg #[v2]] I (.bool (decide (l = m))) := by
 obtain ⟨A, c0, rfl, hA, hc, hm⟩ := hv
 obtain ⟨B, c1, rfl, hB, hc1, hm1⟩ := hv2
 refine enter Tryz.func13 Tryz.call13 rfl Tryz.ntmps13 rfl (fun w0 => ?_)
 refine c_seq ?_
 refine c_region ?_
 refine o_cons ?_
 refine o_box _ rfl rfl rfl (fun g2 => ?_)
 refine o_cons ?_
 refine o_box _ rfl rfl rfl (fun g3 => ?_)
 refine o_v rfl (v_assign rfl) ?_
 refine o_nil ?_
 refine q_then ?_
 refine c_seq ?_
 refine c_seq ?_
 refine c_region ?_
 refine o_v rfl (v_fieldAddr T.fld_30_0 rfl) ?_
 refine o_v rfl (v_ld m1 T.ty_28 rfl rfl) ?_
 refine o_v rfl (v_len_slice T.und_28 rfl) ?_
 refine o_v rfl (v_fieldAddr T.fld_30_0 rfl) ?_
 refine o_v rfl (v_ld m0 T.ty_28 rfl rfl) ?_
 refine o_v rfl (v_len_slice T.und_28 rfl) ?_
 refine o_v rfl (v_neq rfl rfl) ?_
 refine o_nil ?_
 refine q_then ?_
 refine c_cond rfl (fun h12 => ?_) (fun h12 => ?_)
 ·have p12 := h12
  try simp only [bO] at p12
  refine c_seq ?_
  refine c_region ?_
  refine o_v rfl (v_assign rfl) ?_
  refine o_nil ?_
  refine q_then ?_
  refine c_ret ?_
  refine q_then_ret ?_
  refine fin1 rfl rfl ?_
  exact q_v (congrArg Value.bool (decide_eq_false (by rintro rfl; revert h12; simp)).symm)
 ·have p12 := h12
  try simp only [bO] at p12
  have hlm : l.length = m.length := by revert h12; simp; omega
  refine c_skip ?_
  refine q_then ?_
  refine c_seq ?_
  refine c_seq ?_
  refine c_region ?_
  refine o_v rfl (v_assign rfl) ?_
  refine o_nil ?_
  refine q_then ?_
  refine c_block ?_
  refine c_loop (α := Nat) 0 (fun i => I)
   (fun i => [(2, .pointer (some ⟨g2, 0, none⟩)), (3, .pointer (some ⟨g3, 0, none⟩)), (5, .int .i64 ((i : Nat) : Int))])
   (fun i => [.blk g3 30 [.slice B m.length c1], .blk g2 30 [.slice A l.length c0]])
   (fun i => i ≤ l.length ∧ l.take i = m.take i)
   (fun i => l.length - i) ⟨Nat.zero_le _, rfl⟩ rfl ⟨rfl, rfl, rfl, trivial⟩ rfl ?_
  intro i ⟨hi, hn⟩
  refine c_seq ?_
  refine c_seq ?_
  refine c_region ?_
  refine o_v rfl (v_move rfl) ?_
  refine o_v rfl (v_fieldAddr T.fld_30_0 rfl) ?_
  refine o_v rfl (v_ld m1 T.ty_28 rfl rfl) ?_
  refine o_v rfl (v_len_slice T.und_28 rfl) ?_
  refine o_v rfl (v_lss rfl rfl) ?_
  refine o_nil ?_
  refine q_then ?_
  refine c_cond rfl (fun h17 => ?_) (fun h17 => ?_)
  ·have p17 := h17
   try simp only [bO] at p17
   have hlt : i < l.length := by omega
   refine c_skip ?_
   refine q_then ?_
   refine c_seq ?_
   refine c_block ?_
   refine c_seq ?_
   refine d_startH T.mixed ?_
   refine d_tv 0 rfl rfl (by kernel_rfl) rfl (.refl _) rfl (v_fieldAddr T.fld_30_0 rfl) ?_
   refine d_tv 1 rfl rfl (by kernel_rfl) rfl (.refl _) rfl (v_ld m1 T.ty_28 rfl rfl) ?_
   refine d_tv 2 rfl rfl (by kernel_rfl) rfl (.refl _) rfl (v_move rfl) ?_
   obtain ⟨b23, o23, w23, e23, c23, r23⟩ := RdA.at_ hA (i := i) hlt
   obtain ⟨vx, rfl, hvx⟩ := r23
   refine d_tv 3 rfl rfl (by kernel_rfl) rfl (.refl _) rfl (v_idx T.elt_28 rfl rfl e23 (i) (by omega) hlt) ?_
   refine d_tv 4 rfl rfl (by kernel_rfl) rfl (.refl _) rfl (v_ldIa T.ty_47 rfl c23 rfl) ?_
   refine d_tv 5 rfl rfl (by kernel_rfl) rfl (.refl _) rfl (v_fieldAddr T.fld_30_0 rfl) ?_
   refine d_tv 6 rfl rfl (by kernel_rfl) rfl (.refl _) rfl (v_ld m0 T.ty_28 rfl rfl) ?_
   refine d_tv 7 rfl rfl (by kernel_rfl) rfl (.refl _) rfl (v_move rfl) ?_
   obtain ⟨b28, o28, w28, e28, c28, r28⟩ := RdA.at_ hB (i := i) (by omega)
   obtain ⟨vy, rfl, hvy⟩ := r28
   refine d_tv 8 rfl rfl (by kernel_rfl) rfl (.refl _) rfl (v_idx T.elt_28 rfl rfl e28 (i) (by omega) (by omega)) ?_
   refine d_tv 9 rfl rfl (by kernel_rfl) rfl (.refl _) rfl (v_ldIa T.ty_47 rfl c28 rfl) ?_
   refine d_one 10 (by kernel_rfl) rfl ?_
   refine o_callV (samePart _ l[i] (m[i]'(by omega)) vx vy hvx hvy) rfl rfl ?_
   refine d_on (fun _ m => m.keeps (.refl _)) ?_
   refine d_tv 11 rfl rfl (by kernel_rfl) rfl (.refl _) rfl (v_not rfl) ?_
   refine d_done (by kernel_rfl) ?_
   refine q_then ?_
   refine c_cond rfl (fun h31 => ?_) (fun h31 => ?_)
   ·have p31 := h31
    try simp only [bO] at p31
    refine c_seq ?_
    refine c_region ?_
    refine o_v rfl (v_assign rfl) ?_
    refine o_nil ?_
    refine q_then ?_
    refine c_ret ?_
    refine q_block_ret ?_
    refine q_then_ret ?_
    refine q_then_ret ?_
    refine q_block_ret ?_
    refine q_then_ret ?_
    refine fin1 rfl rfl ?_
    exact q_v (congrArg Value.bool (same_no hlt (by omega) (by simpa using h31)).symm)
   ·have p31 := h31
    try simp only [bO] at p31
    refine c_skip ?_
    refine q_block ?_
    refine q_then ?_
    refine c_region ?_
    refine o_v rfl (v_move rfl) ?_
    refine o_v rfl (v_add rfl rfl ⟨by omega, by omega⟩) ?_
    refine o_v rfl (v_assign rfl) ?_
    refine o_nil ?_
    refine q_then ?_
    exact q_next (i + 1) ⟨by omega, same_next hlt (by omega) hn (by simpa using h31)⟩ (by omega) rfl ⟨rfl, rfl, rfl, trivial⟩ rfl
  ·have p17 := h17
   try simp only [bO] at p17
   refine c_exit ?_
   refine q_then_exit ?_
   refine q_then_exit ?_
   refine q_block_eq ?_
   refine q_then ?_
   refine c_seq ?_
   refine c_region ?_
   refine o_v rfl (v_assign rfl) ?_
   refine o_nil ?_
   refine q_then ?_
   refine c_ret ?_
   refine fin1 rfl rfl ?_
   exact q_v (congrArg Value.bool (decide_eq_true (same_end hlm (by omega) hn)).symm)

theorem sameSt_t (I : IMap) (v : Value) (l : List Part) (hv : RdS I v l) (v2 : Value) (m : List Part) (hv2 : RdS I v2 m) (h : l = m) : FnV Tryz.prog 13 #[.agg #[v], .agg #[v2]] I (.bool true) := by
  have := sameSt I v l hv v2 m hv2
  rwa [decide_eq_true h] at this
theorem sameE_t (I : IMap) (v : Value) (l : List Evt) (hv : RdS I v l) (v2 : Value) (m : List Evt) (hv2 : RdS I v2 m) (h : l = m) : FnV Tryz.prog 10 #[v, v2] I (.bool true) := by
  have := refSameE I v l hv v2 m hv2
  rwa [decide_eq_true h] at this

theorem sample11 (I : IMap) (day : Int) :
    FnI Tryz.prog 14 #[.int .i64 day] I (fun u J => ∃ vc v, u = .tuple #[.agg #[vc], v] ∧ RdS J vc smpC ∧ RdS J v (smpL day)) := by
 refine enter Tryz.func14 Tryz.call14 rfl Tryz.ntmps14 rfl (fun w0 => ?_)
 refine c_seq ?_
 refine c_region ?_
 refine o_cons ?_
 refine o_alloc T.zero_24 rfl (fun g2 => ?_)
 refine o_v rfl (v_assign rfl) ?_
 refine o_nil ?_
 refine q_then ?_
 refine c_seq ?_
 refine c_region ?_
 refine o_cons ?_
 refine o_val rfl (v_build (pl := [(0, 1), (1, 1), (2, 1)]) T.zero_68 T.pl_68 rfl rfl) ?_
 refine o_cons ?_
 refine o_buildSlice T.elt_69 T.zero_9 rfl rfl rfl rfl rfl rfl rfl (fun v6 => ?_)
 refine sx_pubrow (l := [nMotor]) rfl rfl (.one rfl) (fun I6 j6 R6 => ?_)
 have R6s := R6
 obtain ⟨A6, c6, rfl, _⟩ := R6s
 refine o_cons ?_
 refine o_val rfl (v_build (pl := [(0, 1), (1, 1), (2, 1)]) T.zero_71 T.pl_71 rfl rfl) ?_
 refine o_cons ?_
 refine o_buildSlice T.elt_66 T.zero_71 rfl rfl rfl rfl rfl rfl rfl (fun v8 => ?_)
 refine sx_pubrow (l := [(⟨nM, [nMotor], 1⟩ : Slot)]) rfl rfl (.one ⟨_, rfl, R6⟩) (fun I8 j8 R8 => ?_)
 have R6 := R6.le j8
 have R8s := R8
 obtain ⟨A8, c8, rfl, _⟩ := R8s
 refine o_cons ?_
 refine o_val rfl (v_build (pl := [(0, 1), (1, 1), (2, 1)]) T.zero_68 T.pl_68 rfl rfl) ?_
 refine o_cons ?_
 refine o_buildSlice T.elt_22 T.zero_68 rfl rfl rfl rfl rfl rfl rfl (fun v10 => ?_)
 refine sx_pubrow (l := smpC) rfl rfl (.cons ⟨_, rfl, RdS.nil'⟩ (.one ⟨_, rfl, R8⟩)) (fun I10 j10 R10 => ?_)
 have R8 := R8.le j10
 have R10s := R10
 obtain ⟨A10, c10, rfl, _⟩ := R10s
 refine o_cons ?_
 refine o_val rfl (v_build (pl := [(0, 1)]) T.zero_24 T.pl_24 rfl rfl) ?_
 refine o_cons ?_
 refine o_alloc T.zero_24 rfl (fun g4 => ?_)
 refine o_cons ?_
 refine o_stw _ T.ty_24 rfl rfl rfl rfl rfl rfl ?_
 refine o_nil ?_
 refine q_then ?_
 refine c_seq ?_
 refine c_region ?_
 refine o_v rfl (v_ldw m0 T.ty_24 rfl rfl) ?_
 refine o_v rfl (v_move rfl) ?_
 refine o_cons ?_
 refine o_val rfl (v_build (pl := [(0, 1), (1, 1), (2, 1), (3, 1), (4, 1), (5, 1), (6, 1), (7, 1), (8, 6)]) T.zero_58 T.pl_58 rfl rfl) ?_
 refine o_cons ?_
 refine o_val rfl (v_build (pl := [(0, 1), (1, 1), (2, 1), (3, 1), (4, 1), (5, 1), (6, 1), (7, 1), (8, 6)]) T.zero_58 T.pl_58 rfl rfl) ?_
 refine o_cons ?_
 refine o_val rfl (v_build (pl := [(0, 1), (1, 1), (2, 1), (3, 1), (4, 1), (5, 1), (6, 1), (7, 1), (8, 6)]) T.zero_58 T.pl_58 rfl rfl) ?_
 refine o_cons ?_
 refine o_buildSlice T.elt_25 T.zero_58 rfl rfl rfl rfl rfl rfl rfl (fun v17 => ?_)
 refine sx_roweq (ys := (evCh (smpL day)).flatten) (rfl) ?_
 refine sx_pubrow (l := smpL day) rfl rfl ((evCh_flat _).flat) (fun I17 j17 R17 => ?_)
 have R10 := R10.le j17
 refine o_cons ?_
 refine bring1 ?_
 refine o_stw _ T.ty_24 rfl rfl rfl rfl rfl rfl ?_
 refine o_v rfl (v_assign rfl) ?_
 refine o_nil ?_
 refine q_then ?_
 refine c_ret ?_
 refine fin2 rfl ⟨_, _, _, rfl, m0, .inr ⟨_, T.ty_24, rfl, rfl⟩⟩ rfl ?_
 exact q_i ⟨_, _, rfl, R10, R17⟩

theorem run5_smp (I : IMap) (vc : Value) (hvc : RdS I vc smpC) (v : Value) (hv : RdS I v (smpL 5)) : FnI Tryz.prog 6 #[.agg #[vc], v] I (fun u J => ∃ w, u = .tuple #[.agg #[w], .int .i64 (-1), .int .i64 0] ∧ RdS J w smpA) := by
  have h := cRun I vc smpC hvc smp_smC v (smpL 5) hv (by simp [smpL]) (smp_smE 5)
  refine h.mono fun u J H' hJ ⟨⟨w, h1, h2⟩, h3⟩ => ⟨⟨w, ?_, ?_⟩, h3⟩
  · rw [h1, smp_run5]
  · rw [smp_run5] at h2; exact h2

theorem run1_smp (I : IMap) (vc : Value) (hvc : RdS I vc smpC) (v : Value) (hv : RdS I v (smpL 1)) : FnI Tryz.prog 6 #[.agg #[vc], v] I (fun u J => ∃ w, u = .tuple #[.agg #[w], .int .i64 0, .int .i64 2] ∧ RdS J w ([] : List Part)) := by
  have h := cRun I vc smpC hvc smp_smC v (smpL 1) hv (by simp [smpL]) (smp_smE 1)
  refine h.mono fun u J H' hJ ⟨⟨w, h1, h2⟩, h3⟩ => ⟨⟨w, ?_, ?_⟩, h3⟩
  · rw [h1, smp_run1]
  · rw [smp_run1] at h2; exact h2

theorem at4_smp (I : IMap) (vc : Value) (hvc : RdS I vc smpC) (v : Value) (hv : RdS I v (smpL 5)) : FnI Tryz.prog 8 #[.agg #[vc], v, .int .i64 4] I (fun u J => ∃ w, u = .tuple #[.agg #[w], .int .i64 (-1), .int .i64 0] ∧ RdS J w smpB) := by
  have h := cAt I vc smpC hvc smp_smC v (smpL 5) hv (by simp [smpL]) (smp_smE 5) 4
  refine h.mono fun u J H' hJ ⟨⟨w, h1, h2⟩, h3⟩ => ⟨⟨w, ?_, ?_⟩, h3⟩
  · rw [h1, smp_at4]
  · rw [smp_at4] at h2; exact h2

theorem head11 (I : IMap) :
    FnV Tryz.prog 4 #[] I (.bool true) := by
 refine enter Tryz.func4 Tryz.call4 rfl Tryz.ntmps4 rfl (fun w0 => ?_)
 refine c_seq ?_
 refine c_region ?_
 refine o_v rfl (v_assign rfl) ?_
 refine o_nil ?_
 refine q_then ?_
 refine c_seq ?_
 refine c_region ?_
 refine o_cons ?_
 refine o_call (sample11 _ 5) rfl rfl (fun v15 I15 j15 q15 => ?_)
 obtain ⟨vc, v, rfl, hvc, hv⟩ := q15
 refine o_v rfl (v_move rfl) ?_
 refine o_v rfl (v_extract rfl rfl) ?_
 refine o_v rfl (v_extract rfl rfl) ?_
 refine o_cons ?_
 refine o_alloc T.zero_24 rfl (fun g1 => ?_)
 refine o_cons ?_
 refine o_stw _ T.ty_24 rfl rfl rfl rfl rfl (by simp [hvc.one]) ?_
 refine o_v rfl (v_assign rfl) ?_
 refine o_nil ?_
 refine q_then ?_
 refine c_seq ?_
 refine c_region ?_
 refine o_cons ?_
 refine o_call (sample11 _ 1) rfl rfl (fun v19 I19 j19 q19 => ?_)
 have hvc := hvc.le j19
 have hv := hv.le j19
 obtain ⟨vc1, v1, rfl, hvc1, hv1⟩ := q19
 refine o_v rfl (v_move rfl) ?_
 refine o_v rfl (v_extract rfl rfl) ?_
 refine o_v rfl (v_extract rfl rfl) ?_
 refine o_cons ?_
 refine o_alloc T.zero_24 rfl (fun g3 => ?_)
 refine o_cons ?_
 refine o_stw _ T.ty_24 rfl rfl rfl rfl rfl (by simp [hvc1.one]) ?_
 refine o_v rfl (v_assign rfl) ?_
 refine o_nil ?_
 refine q_then ?_
 refine c_seq ?_
 refine c_region ?_
 refine o_v rfl (v_ldw m1 T.ty_24 rfl rfl) ?_
 refine o_v rfl (v_move rfl) ?_
 refine o_cons ?_
 refine o_call (run5_smp _ vc hvc v hv) rfl rfl (fun v25 I25 j25 q25 => ?_)
 have hvc := hvc.le j25
 have hv := hv.le j25
 have hvc1 := hvc1.le j25
 have hv1 := hv1.le j25
 obtain ⟨w5, rfl, hw5⟩ := q25
 refine o_v rfl (v_move rfl) ?_
 refine o_v rfl (v_extract rfl rfl) ?_
 refine o_v rfl (v_extract rfl rfl) ?_
 refine o_v rfl (v_extract rfl rfl) ?_
 refine o_cons ?_
 refine o_alloc T.zero_30 rfl (fun g5 => ?_)
 refine o_cons ?_
 refine o_stw _ T.ty_30 rfl rfl rfl rfl rfl (by simp [hw5.one]) ?_
 refine o_v rfl (v_assign rfl) ?_
 refine o_v rfl (v_assign rfl) ?_
 refine o_nil ?_
 refine q_then ?_
 refine c_seq ?_
 refine c_region ?_
 refine o_v rfl (v_ldw m2 T.ty_24 rfl rfl) ?_
 refine o_v rfl (v_move rfl) ?_
 refine o_cons ?_
 refine o_call (run1_smp _ vc hvc v1 hv1) rfl rfl (fun v32 I32 j32 q32 => ?_)
 have hvc := hvc.le j32
 have hv := hv.le j32
 have hw5 := hw5.le j32
 obtain ⟨w8, rfl, hw8⟩ := q32
 refine o_v rfl (v_move rfl) ?_
 refine o_v rfl (v_extract rfl rfl) ?_
 refine o_v rfl (v_extract rfl rfl) ?_
 refine o_v rfl (v_extract rfl rfl) ?_
 refine o_cons ?_
 refine o_alloc T.zero_30 rfl (fun g8 => ?_)
 refine o_cons ?_
 refine o_stw _ T.ty_30 rfl rfl rfl rfl rfl (by simp [hw8.one]) ?_
 refine o_v rfl (v_assign rfl) ?_
 refine o_v rfl (v_assign rfl) ?_
 refine o_nil ?_
 refine q_then ?_
 refine c_seq ?_
 refine c_region ?_
 refine o_v rfl (v_ldw m3 T.ty_24 rfl rfl) ?_
 refine o_v rfl (v_move rfl) ?_
 refine o_cons ?_
 refine o_call (at4_smp _ vc hvc v hv) rfl rfl (fun v39 I39 j39 q39 => ?_)
 have hw5 := hw5.le j39
 obtain ⟨w11, rfl, hw11⟩ := q39
 obtain ⟨A5, c5, rfl, hA5, _, _⟩ := hw5
 obtain ⟨A11, c11, rfl, hA11, _, _⟩ := hw11
 refine o_v rfl (v_move rfl) ?_
 refine o_v rfl (v_extract rfl rfl) ?_
 refine o_v rfl (v_extract rfl rfl) ?_
 refine o_v rfl (v_extract rfl rfl) ?_
 refine o_cons ?_
 refine o_alloc T.zero_30 rfl (fun g11 => ?_)
 refine o_cons ?_
 refine o_stw _ T.ty_30 rfl rfl rfl rfl rfl (by rfl) ?_
 refine o_v rfl (v_assign rfl) ?_
 refine o_v rfl (v_assign rfl) ?_
 refine o_nil ?_
 refine q_then ?_
 refine c_seq ?_
 refine c_seq ?_
 refine c_region ?_
 refine o_v rfl (v_move rfl) ?_
 refine o_v rfl (OV.cast (u := .bool false) (v_neq rfl rfl) rfl) ?_
 refine o_v rfl (v_move rfl) ?_
 refine o_cons (o_yes rfl rfl rfl (o_val rfl (v_move rfl) ?_))
 refine o_cons (o_yes rfl rfl rfl (o_val rfl (OV.cast (u := .bool false) (v_neq rfl rfl) rfl) ?_))
 refine o_v rfl (v_or_f rfl rfl rfl) ?_
 refine o_v rfl (v_move rfl) ?_
 refine o_cons (o_yes rfl rfl rfl (o_val rfl (v_fieldAddr T.fld_30_0 rfl) ?_))
 refine o_cons (o_yes rfl rfl rfl (o_val rfl (v_ld m2 T.ty_28 rfl rfl) ?_))
 refine o_cons (o_yes rfl rfl rfl (o_val rfl (v_len_slice T.und_28 rfl) ?_))
 refine o_cons (o_yes rfl rfl rfl (o_val rfl (OV.cast (u := .bool false) (v_neq rfl rfl) rfl) ?_))
 refine o_v rfl (v_or_f rfl rfl rfl) ?_
 refine o_v rfl (v_move rfl) ?_
 refine o_cons (o_yes rfl rfl rfl (o_val rfl (v_fieldAddr T.fld_30_0 rfl) ?_))
 refine o_cons (o_yes rfl rfl rfl (o_val rfl (v_ld m0 T.ty_28 rfl rfl) ?_))
 refine o_cons (o_yes rfl rfl rfl (o_val rfl (v_len_slice T.und_28 rfl) ?_))
 refine o_cons (o_yes rfl rfl rfl (o_val rfl (OV.cast (u := .bool false) (v_neq rfl rfl) rfl) ?_))
 refine o_v rfl (v_or_f rfl rfl rfl) ?_
 refine o_nil ?_
 refine q_then ?_
 refine c_false rfl ?_
 refine c_skip ?_
 refine q_then ?_
 refine c_seq ?_
 refine c_region ?_
 refine o_v rfl (v_move rfl) ?_
 refine o_v rfl (OV.cast (u := .bool true) (v_eql rfl rfl) rfl) ?_
 refine o_v rfl (v_move rfl) ?_
 refine o_cons (o_yes rfl rfl rfl (o_val rfl (v_move rfl) ?_))
 refine o_cons (o_yes rfl rfl rfl (o_val rfl (OV.cast (u := .bool true) (v_eql rfl rfl) rfl) ?_))
 refine o_v rfl (v_and_t rfl rfl rfl) ?_
 refine o_v rfl (v_move rfl) ?_
 refine o_cons (o_yes rfl rfl rfl (o_val rfl (v_move rfl) ?_))
 refine o_cons (o_yes rfl rfl rfl (o_val rfl (OV.cast (u := .bool true) (v_eql rfl rfl) rfl) ?_))
 refine o_v rfl (v_and_t rfl rfl rfl) ?_
 refine o_v rfl (v_move rfl) ?_
 refine o_cons (o_yes rfl rfl rfl (o_val rfl (v_move rfl) ?_))
 refine o_cons (o_yes rfl rfl rfl (o_val rfl (OV.cast (u := .bool true) (v_eql rfl rfl) rfl) ?_))
 refine o_v rfl (v_and_t rfl rfl rfl) ?_
 refine o_v rfl (v_move rfl) ?_
 refine o_cons (o_yes rfl rfl rfl (o_val rfl (v_fieldAddr T.fld_30_0 rfl) ?_))
 refine o_cons (o_yes rfl rfl rfl (o_val rfl (v_ld m2 T.ty_28 rfl rfl) ?_))
 obtain ⟨b78, o78, w78, e78, c78, r78⟩ := RdA.at_ hA5 (i := 0) (by decide)
 obtain ⟨_, rfl, _⟩ := r78
 refine o_cons (o_yes rfl rfl rfl (o_val rfl (v_idx T.elt_28 rfl rfl e78 0 rfl (by decide)) ?_))
 refine o_cons (o_yes rfl rfl rfl (o_val rfl (v_fieldAddr T.fld_47_2 rfl) ?_))
 refine o_cons (o_yes rfl rfl rfl (o_val rfl (v_ldI T.ty_9 rfl (c78 2 _ rfl)) ?_))
 refine o_cons (o_yes rfl rfl rfl (o_val rfl (OV.cast (u := .bool true) (v_seql rfl rfl) rfl) ?_))
 refine o_v rfl (v_and_t rfl rfl rfl) ?_
 refine o_v rfl (v_move rfl) ?_
 refine o_cons (o_yes rfl rfl rfl (o_val rfl (v_fieldAddr T.fld_30_0 rfl) ?_))
 refine o_cons (o_yes rfl rfl rfl (o_val rfl (v_ld m2 T.ty_28 rfl rfl) ?_))
 obtain ⟨b86, o86, w86, e86, c86, r86⟩ := RdA.at_ hA5 (i := 0) (by decide)
 obtain ⟨_, rfl, _⟩ := r86
 refine o_cons (o_yes rfl rfl rfl (o_val rfl (v_idx T.elt_28 rfl rfl e86 0 rfl (by decide)) ?_))
 refine o_cons (o_yes rfl rfl rfl (o_val rfl (v_fieldAddr T.fld_47_3 rfl) ?_))
 refine o_cons (o_yes rfl rfl rfl (o_val rfl (v_ldI T.ty_9 rfl (c86 3 _ rfl)) ?_))
 refine o_cons (o_yes rfl rfl rfl (o_val rfl (OV.cast (u := .bool true) (v_seql rfl rfl) rfl) ?_))
 refine o_v rfl (v_and_t rfl rfl rfl) ?_
 refine o_v rfl (v_move rfl) ?_
 refine o_cons (o_yes rfl rfl rfl (o_val rfl (v_fieldAddr T.fld_30_0 rfl) ?_))
 refine o_cons (o_yes rfl rfl rfl (o_val rfl (v_ld m0 T.ty_28 rfl rfl) ?_))
 obtain ⟨b94, o94, w94, e94, c94, r94⟩ := RdA.at_ hA11 (i := 0) (by decide)
 obtain ⟨_, rfl, _⟩ := r94
 refine o_cons (o_yes rfl rfl rfl (o_val rfl (v_idx T.elt_28 rfl rfl e94 0 rfl (by decide)) ?_))
 refine o_cons (o_yes rfl rfl rfl (o_val rfl (v_fieldAddr T.fld_47_2 rfl) ?_))
 refine o_cons (o_yes rfl rfl rfl (o_val rfl (v_ldI T.ty_9 rfl (c94 2 _ rfl)) ?_))
 refine o_cons (o_yes rfl rfl rfl (o_val rfl (OV.cast (u := .bool true) (v_seql rfl rfl) rfl) ?_))
 refine o_v rfl (v_and_t rfl rfl rfl) ?_
 refine o_v rfl (v_assign rfl) ?_
 refine o_nil ?_
 refine q_then ?_
 refine c_ret ?_
 refine fin1 rfl rfl ?_
 exact q_vI rfl

theorem few11 (I : IMap) (vc : Value) (c : List Kind) (hvc : RdS I vc c) (v : Value) (l : List Evt) (hv : RdS I v l) :
    FnV Tryz.prog 5 #[.agg #[vc], v] I (.bool (fewC c && fewE l 60)) := by
 refine enter Tryz.func5 Tryz.call5 rfl Tryz.ntmps5 rfl (fun w0 => ?_)
 refine c_seq ?_
 refine c_region ?_
 refine o_cons ?_
 refine o_box _ rfl rfl rfl (fun g2 => ?_)
 refine o_v rfl (v_assign rfl) ?_
 refine o_nil ?_
 refine q_then ?_
 refine c_seq ?_
 refine c_region ?_
 refine o_v rfl (v_ldw m0 T.ty_24 rfl rfl) ?_
 refine o_cons ?_
 refine o_callV (refFew _ vc c hvc) rfl rfl ?_
 refine o_v rfl (v_move rfl) ?_
 refine sx_split 7 rfl (fun h7 => ?_) (fun h7 => ?_)
 ·have p7 := h7
  try simp only [bO] at p7
  refine o_cons (o_yes rfl rfl h7 (o_val rfl (v_move rfl) ?_))
  refine o_cons ?_
  refine o_yes rfl rfl h7 (o_callV (refFewE _ v l hv 60) rfl rfl ?_)
  refine o_v rfl (v_and_t h7 rfl rfl) ?_
  refine o_v rfl (v_assign rfl) ?_
  refine o_nil ?_
  refine q_then ?_
  refine c_ret ?_
  refine fin1 rfl rfl ?_
  exact q_v (congrArg Value.bool (by simp only [h7, bS]))
 ·have p7 := h7
  try simp only [bO] at p7
  refine o_cons (o_no rfl rfl h7 rfl ?_)
  refine o_cons (o_no rfl rfl h7 rfl ?_)
  refine o_v rfl (v_and_f h7 rfl) ?_
  refine o_v rfl (v_assign rfl) ?_
  refine o_nil ?_
  refine q_then ?_
  refine c_ret ?_
  refine fin1 rfl rfl ?_
  exact q_v (congrArg Value.bool (by simp only [h7, bS]))

end Go.Proofs.YtechmdlbpbpkdaaGreat
