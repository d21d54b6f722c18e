/- Walks, printed by a program out of the code of the functions: each theorem is a contract of one function. -/
import Derived.Test.YtkmdojpfccjnoaaGreatChecked
import Derived.Test.YtkmdojpfccjnoaaGreatSxKey
import Derived.Test.YtkmdojpfccjnoaaGreatSxKey
import Derived.Test.YtkmdojpfccjnoaaGreatDom
namespace Go.Proofs.YtkmdojpfccjnoaaGreat
open Go Go.Sx
set_option linter.all false
set_option maxRecDepth 20000
set_option maxHeartbeats 4000000
theorem T.arr_142 : arrK Tryz.prog 142 = some (256, 5, 1) := by kernel_rfl
theorem T.elt_57 : eltK Tryz.prog 57 = some (9, 1) := by kernel_rfl
theorem T.ty_142 : tyK Tryz.prog 142 = some (true, 256) := by kernel_rfl
theorem T.ty_5 : tyK Tryz.prog 5 = some (false, 1) := by kernel_rfl
theorem T.ty_9 : tyK Tryz.prog 9 = some (false, 1) := by kernel_rfl
theorem T.und_3 : Tryz.prog.underlying 3 = some (.int .i64) := by kernel_rfl
theorem T.und_5 : Tryz.prog.underlying 5 = some (.int .u8) := by kernel_rfl
theorem T.und_57 : Tryz.prog.underlying 57 = some (.slice 9) := by kernel_rfl
theorem T.und_9 : Tryz.prog.underlying 9 = some (.string) := by kernel_rfl
theorem T.zero_142 : zeroK Tryz.prog 142 = some [.int .u8 0, .int .u8 0, .int .u8 0, .int .u8 0, .int .u8 0, .int .u8 0, .int .u8 0, .int .u8 0, .int .u8 0, .int .u8 0, .int .u8 0, .int .u8 0, .int .u8 0, .int .u8 0, .int .u8 0, .int .u8 0, .int .u8 0, .int .u8 0, .int .u8 0, .int .u8 0, .int .u8 0, .int .u8 0, .int .u8 0, .int .u8 0, .int .u8 0, .int .u8 0, .int .u8 0, .int .u8 0, .int .u8 0, .int .u8 0, .int .u8 0, .int .u8 0, .int .u8 0, .int .u8 0, .int .u8 0, .int .u8 0, .int .u8 0, .int .u8 0, .int .u8 0, .int .u8 0, .int .u8 0, .int .u8 0, .int .u8 0, .int .u8 0, .int .u8 0, .int .u8 0, .int .u8 0, .int .u8 0, .int .u8 0, .int .u8 0, .int .u8 0, .int .u8 0, .int .u8 0, .int .u8 0, .int .u8 0, .int .u8 0, .int .u8 0, .int .u8 0, .int .u8 0, .int .u8 0, .int .u8 0, .int .u8 0, .int .u8 0, .int .u8 0, .int .u8 0, .int .u8 0, .int .u8 0, .int .u8 0, .int .u8 0, .int .u8 0, .int .u8 0, .int .u8 0, .int .u8 0, .int .u8 0, .int .u8 0, .int .u8 0, .int .u8 0, .int .u8 0, .int .u8 0, .int .u8 0, .int .u8 0, .int .u8 0, .int .u8 0, .int .u8 0, .int .u8 0, .int .u8 0, .int .u8 0, .int .u8 0, .int .u8 0, .int .u8 0, .int .u8 0, .int .u8 0, .int .u8 0, .int .u8 0, .int .u8 0, .int .u8 0, .int .u8 0, .int .u8 0, .int .u8 0, .int .u8 0, .int .u8 0, .int .u8 0, .int .u8 0, .int .u8 0, .int .u8 0, .int .u8 0, .int .u8 0, .int .u8 0, .int .u8 0, .int .u8 0, .int .u8 0, .int .u8 0, .int .u8 0, .int .u8 0, .int .u8 0, .int .u8 0, .int .u8 0, .int .u8 0, .int .u8 0, .int .u8 0, .int .u8 0, .int .u8 0, .int .u8 0, .int .u8 0, .int .u8 0, .int .u8 0, .int .u8 0, .int .u8 0, .int .u8 0, .int .u8 0, .int .u8 0, .int .u8 0, .int .u8 0, .int .u8 0, .int .u8 0, .int .u8 0, .int .u8 0, .int .u8 0, .int .u8 0, .int .u8 0, .int .u8 0, .int .u8 0, .int .u8 0, .int .u8 0, .int .u8 0, .int .u8 0, .int .u8 0, .int .u8 0, .int .u8 0, .int .u8 0, .int .u8 0, .int .u8 0, .int .u8 0, .int .u8 0, .int .u8 0, .int .u8 0, .int .u8 0, .int .u8 0, .int .u8 0, .int .u8 0, .int .u8 0, .int .u8 0, .int .u8 0, .int .u8 0, .int .u8 0, .int .u8 0, .int .u8 0, .int .u8 0, .int .u8 0, .int .u8 0, .int .u8 0, .int .u8 0, .int .u8 0, .int .u8 0, .int .u8 0, .int .u8 0, .int .u8 0, .int .u8 0, .int .u8 0, .int .u8 0, .int .u8 0, .int .u8 0, .int .u8 0, .int .u8 0, .int .u8 0, .int .u8 0, .int .u8 0, .int .u8 0, .int .u8 0, .int .u8 0, .int .u8 0, .int .u8 0, .int .u8 0, .int .u8 0, .int .u8 0, .int .u8 0, .int .u8 0, .int .u8 0, .int .u8 0, .int .u8 0, .int .u8 0, .int .u8 0, .int .u8 0, .int .u8 0, .int .u8 0, .int .u8 0, .int .u8 0, .int .u8 0, .int .u8 0, .int .u8 0, .int .u8 0, .int .u8 0, .int .u8 0, .int .u8 0, .int .u8 0, .int .u8 0, .int .u8 0, .int .u8 0, .int .u8 0, .int .u8 0, .int .u8 0, .int .u8 0, .int .u8 0, .int .u8 0, .int .u8 0, .int .u8 0, .int .u8 0, .int .u8 0, .int .u8 0, .int .u8 0, .int .u8 0, .int .u8 0, .int .u8 0, .int .u8 0, .int .u8 0, .int .u8 0, .int .u8 0, .int .u8 0, .int .u8 0, .int .u8 0, .int .u8 0, .int .u8 0, .int .u8 0, .int .u8 0, .int .u8 0, .int .u8 0, .int .u8 0, .int .u8 0, .int .u8 0, .int .u8 0, .int .u8 0, .int .u8 0, .int .u8 0, .int .u8 0, .int .u8 0, .int .u8 0] := by kernel_rfl
theorem letter05 (I : IMap) (c : UInt8) :
    FnV Tryz.prog 87 #[.int .u8 (c.toNat : Int)] I (.bool (isLetter c)) := by
 refine enter Tryz.func87 Tryz.call87 rfl Tryz.ntmps87 rfl (fun w0 => ?_)
 refine c_seq ?_
 refine c_region ?_
 refine o_v rfl (v_assign rfl) ?_
 refine o_nil ?_
 refine q_then ?_
 refine c_seq ?_
 refine c_region ?_
 refine o_v rfl (v_move rfl) ?_
 refine o_v rfl (v_geq rfl rfl) ?_
 refine o_v rfl (v_move rfl) ?_
 refine sx_split 5 rfl (fun h5 => ?_) (fun h5 => ?_)
 ·have p5 := h5
  try simp only [bO] at p5
  refine o_cons (o_yes rfl rfl h5 (o_val rfl (v_move rfl) ?_))
  refine o_cons (o_yes rfl rfl h5 (o_val rfl (v_leq rfl rfl) ?_))
  refine o_v rfl (v_and_t h5 rfl rfl) ?_
  refine o_v rfl (v_move rfl) ?_
  refine sx_split 9 rfl (fun h9 => ?_) (fun h9 => ?_)
  ·have p9 := h9
   try simp only [bO] at p9
   refine o_cons (o_no rfl rfl h9 rfl ?_)
   refine o_cons (o_no rfl rfl h9 rfl ?_)
   refine o_cons (o_no rfl rfl h9 rfl ?_)
   refine o_cons (o_nou rfl rfl rfl ?_)
   refine o_cons (o_nou rfl rfl rfl ?_)
   refine o_cons (o_no rfl rfl h9 rfl ?_)
   refine o_v rfl (v_or_t h9 rfl) ?_
   refine o_v rfl (v_assign rfl) ?_
   refine o_nil ?_
   refine q_then ?_
   refine c_ret ?_
   refine fin1 rfl rfl ?_
   exact q_v (by simp [isLetter, h5, h9])
  ·have p9 := h9
   try simp only [bO] at p9
   refine o_cons (o_yes rfl rfl h9 (o_val rfl (v_move rfl) ?_))
   refine o_cons (o_yes rfl rfl h9 (o_val rfl (v_geq rfl rfl) ?_))
   refine o_cons (o_yes rfl rfl h9 (o_val rfl (v_move rfl) ?_))
   refine sx_split 12 rfl (fun h12 => ?_) (fun h12 => ?_)
   ·have p12 := h12
    try simp only [bO] at p12
    refine o_cons (o_yes rfl rfl h12 (o_val rfl (v_move rfl) ?_))
    refine o_cons (o_yes rfl rfl h12 (o_val rfl (v_leq rfl rfl) ?_))
    refine o_cons (o_yes rfl rfl h9 (o_val rfl (v_and_t h12 rfl rfl) ?_))
    refine o_v rfl (v_or_f h9 rfl rfl) ?_
    refine o_v rfl (v_assign rfl) ?_
    refine o_nil ?_
    refine q_then ?_
    refine c_ret ?_
    refine fin1 rfl rfl ?_
    exact q_v (by simp [isLetter, h5, h9, h12])
   ·have p12 := h12
    try simp only [bO] at p12
    refine o_cons (o_no rfl rfl h12 rfl ?_)
    refine o_cons (o_no rfl rfl h12 rfl ?_)
    refine o_cons (o_yes rfl rfl h9 (o_val rfl (v_and_f h12 rfl) ?_))
    refine o_v rfl (v_or_f h9 rfl rfl) ?_
    refine o_v rfl (v_assign rfl) ?_
    refine o_nil ?_
    refine q_then ?_
    refine c_ret ?_
    refine fin1 rfl rfl ?_
    exact q_v (by simp [isLetter, h5, h9, h12])
 ·have p5 := h5
  try simp only [bO] at p5
  refine o_cons (o_no rfl rfl h5 rfl ?_)
  refine o_cons (o_no rfl rfl h5 rfl ?_)
  refine o_v rfl (v_and_f h5 rfl) ?_
  refine o_v rfl (v_move rfl) ?_
  refine o_cons (o_yes rfl rfl rfl (o_val rfl (v_move rfl) ?_))
  refine o_cons (o_yes rfl rfl rfl (o_val rfl (v_geq rfl rfl) ?_))
  refine o_cons (o_yes rfl rfl rfl (o_val rfl (v_move rfl) ?_))
  refine sx_split 12 rfl (fun h12 => ?_) (fun h12 => ?_)
  ·have p12 := h12
   try simp only [bO] at p12
   refine o_cons (o_yes rfl rfl h12 (o_val rfl (v_move rfl) ?_))
   refine o_cons (o_yes rfl rfl h12 (o_val rfl (v_leq rfl rfl) ?_))
   refine o_cons (o_yes rfl rfl rfl (o_val rfl (v_and_t h12 rfl rfl) ?_))
   refine o_v rfl (v_or_f rfl rfl rfl) ?_
   refine o_v rfl (v_assign rfl) ?_
   refine o_nil ?_
   refine q_then ?_
   refine c_ret ?_
   refine fin1 rfl rfl ?_
   exact q_v (by simp [isLetter, h5, h12])
  ·have p12 := h12
   try simp only [bO] at p12
   refine o_cons (o_no rfl rfl h12 rfl ?_)
   refine o_cons (o_no rfl rfl h12 rfl ?_)
   refine o_cons (o_yes rfl rfl rfl (o_val rfl (v_and_f h12 rfl) ?_))
   refine o_v rfl (v_or_f rfl rfl rfl) ?_
   refine o_v rfl (v_assign rfl) ?_
   refine o_nil ?_
   refine q_then ?_
   refine c_ret ?_
   refine fin1 rfl rfl ?_
   exact q_v (by simp [isLetter, h5, h12])

theorem digit05 (I : IMap) (c : UInt8) :
    FnV Tryz.prog 119 #[.int .u8 (c.toNat : Int)] I (.bool (isDigit c)) := by
 refine enter Tryz.func119 Tryz.call119 rfl Tryz.ntmps119 rfl (fun w0 => ?_)
 refine c_seq ?_
 refine c_region ?_
 refine o_v rfl (v_assign rfl) ?_
 refine o_nil ?_
 refine q_then ?_
 refine c_seq ?_
 refine c_region ?_
 refine o_v rfl (v_move rfl) ?_
 refine o_v rfl (v_geq rfl rfl) ?_
 refine o_v rfl (v_move rfl) ?_
 refine sx_split 5 rfl (fun h5 => ?_) (fun h5 => ?_)
 ·have p5 := h5
  try simp only [bO] at p5
  refine o_cons (o_yes rfl rfl h5 (o_val rfl (v_move rfl) ?_))
  refine o_cons (o_yes rfl rfl h5 (o_val rfl (v_leq rfl rfl) ?_))
  refine o_v rfl (v_and_t h5 rfl rfl) ?_
  refine o_v rfl (v_assign rfl) ?_
  refine o_nil ?_
  refine q_then ?_
  refine c_ret ?_
  refine fin1 rfl rfl ?_
  exact q_v (by simp [isDigit, h5])
 ·have p5 := h5
  try simp only [bO] at p5
  refine o_cons (o_no rfl rfl h5 rfl ?_)
  refine o_cons (o_no rfl rfl h5 rfl ?_)
  refine o_v rfl (v_and_f h5 rfl) ?_
  refine o_v rfl (v_assign rfl) ?_
  refine o_nil ?_
  refine q_then ?_
  refine c_ret ?_
  refine fin1 rfl rfl ?_
  exact q_v (by simp [isDigit, h5])

theorem word05 (I : IMap) (c : UInt8) :
    FnV Tryz.prog 86 #[.int .u8 (c.toNat : Int)] I (.bool (isWord c)) := by
 refine enter Tryz.func86 Tryz.call86 rfl Tryz.ntmps86 rfl (fun w0 => ?_)
 refine c_seq ?_
 refine c_region ?_
 refine o_v rfl (v_assign rfl) ?_
 refine o_nil ?_
 refine q_then ?_
 refine c_seq ?_
 refine c_region ?_
 refine o_v rfl (v_move rfl) ?_
 refine o_cons ?_
 refine o_callV (letter05 _ c) rfl rfl ?_
 refine o_v rfl (v_move rfl) ?_
 refine sx_split 5 rfl (fun h5 => ?_) (fun h5 => ?_)
 ·have p5 := h5
  try simp only [bO] at p5
  refine o_cons (o_no rfl rfl h5 rfl ?_)
  refine o_cons (o_no rfl rfl h5 rfl ?_)
  refine o_v rfl (v_or_t h5 rfl) ?_
  refine o_v rfl (v_move rfl) ?_
  refine o_cons (o_no rfl rfl rfl rfl ?_)
  refine o_cons (o_no rfl rfl rfl rfl ?_)
  refine o_v rfl (v_or_t rfl rfl) ?_
  refine o_v rfl (v_assign rfl) ?_
  refine o_nil ?_
  refine q_then ?_
  refine c_ret ?_
  refine fin1 rfl rfl ?_
  exact q_v (by simp [isWord, h5])
 ·have p5 := h5
  try simp only [bO] at p5
  refine o_cons (o_yes rfl rfl h5 (o_val rfl (v_move rfl) ?_))
  refine o_cons ?_
  refine o_yes rfl rfl h5 (o_callV (digit05 _ c) rfl rfl ?_)
  refine o_v rfl (v_or_f h5 rfl rfl) ?_
  refine o_v rfl (v_move rfl) ?_
  refine sx_split 9 rfl (fun h9 => ?_) (fun h9 => ?_)
  ·have p9 := h9
   try simp only [bO] at p9
   refine o_cons (o_no rfl rfl h9 rfl ?_)
   refine o_cons (o_no rfl rfl h9 rfl ?_)
   refine o_v rfl (v_or_t h9 rfl) ?_
   refine o_v rfl (v_assign rfl) ?_
   refine o_nil ?_
   refine q_then ?_
   refine c_ret ?_
   refine fin1 rfl rfl ?_
   exact q_v (by simp [isWord, h5, h9])
  ·have p9 := h9
   try simp only [bO] at p9
   refine o_cons (o_yes rfl rfl h9 (o_val rfl (v_move rfl) ?_))
   refine o_cons (o_yes rfl rfl h9 (o_val rfl (v_eql rfl rfl) ?_))
   refine o_v rfl (v_or_f h9 rfl rfl) ?_
   refine o_v rfl (v_assign rfl) ?_
   refine o_nil ?_
   refine q_then ?_
   refine c_ret ?_
   refine fin1 rfl rfl ?_
   exact q_v (by simp [isWord, h5, h9])

theorem name05 (I : IMap) (s : ByteArray) (hs : s.size ≤ 9223372036854775807) :
    FnV Tryz.prog 56 #[.string s] I (.bool (nameRef s)) := by
 refine enter Tryz.func56 Tryz.call56 rfl Tryz.ntmps56 rfl (fun w0 => ?_)
 refine c_seq ?_
 refine c_region ?_
 refine o_v rfl (v_assign rfl) ?_
 refine o_nil ?_
 refine q_then ?_
 refine c_seq ?_
 refine c_seq ?_
 refine c_region ?_
 refine o_v rfl (v_assign rfl) ?_
 refine o_nil ?_
 refine q_then ?_
 refine c_block ?_
 refine c_loop (α := Nat) 0 (fun i => I)
  (fun i => [(0, .string s), (3, .int .i64 (i : Int))])
  (fun i => [])
  (fun i => i ≤ s.size ∧ wordsTo s i = true)
  (fun i => s.size - i) ⟨Nat.zero_le _, rfl⟩ rfl ⟨rfl, rfl, trivial⟩ rfl ?_
 intro i ⟨hi, hn⟩
 refine c_seq ?_
 refine c_seq ?_
 refine c_region ?_
 refine o_v rfl (v_move rfl) ?_
 refine o_v rfl (v_move rfl) ?_
 refine o_v rfl (v_len_str T.und_9 rfl) ?_
 refine o_v rfl (v_lss rfl rfl) ?_
 refine o_nil ?_
 refine q_then ?_
 refine c_cond rfl (fun h7 => ?_) (fun h7 => ?_)
 ·have p7 := h7
  try simp only [bO] at p7
  refine c_skip ?_
  refine q_then ?_
  refine c_seq ?_
  refine c_block ?_
  refine c_seq ?_
  refine c_region ?_
  refine o_v rfl (v_move rfl) ?_
  refine o_v rfl (v_move rfl) ?_
  refine o_v rfl (v_sidx T.und_9 rfl rfl i (by omega) (by omega)) ?_
  refine o_cons ?_
  refine o_callV (word05 _ _) rfl rfl ?_
  refine o_v rfl (v_not rfl) ?_
  refine o_nil ?_
  refine q_then ?_
  refine c_cond rfl (fun h14 => ?_) (fun h14 => ?_)
  ·have p14 := h14
   try simp only [bO] at p14
   refine c_seq ?_
   refine c_region ?_
   refine o_v rfl (v_assign rfl) ?_
   refine o_nil ?_
   refine q_then ?_
   refine c_ret ?_
   refine q_block_ret ?_
   refine q_then_ret ?_
   refine q_then_ret ?_
   refine q_block_ret ?_
   refine q_then_ret ?_
   refine fin1 rfl rfl ?_
   exact q_v (by simp [nameRef, words_not (show i < s.size by omega) p14])
  ·have p14 := h14
   try simp only [bO] at p14
   refine c_skip ?_
   refine q_block ?_
   refine q_then ?_
   refine c_region ?_
   refine o_v rfl (v_move rfl) ?_
   refine o_v rfl (v_add rfl rfl ⟨by omega, by omega⟩) ?_
   refine o_v rfl (v_assign rfl) ?_
   refine o_nil ?_
   refine q_then ?_
   exact q_next (i + 1) ⟨by omega, words_succ hn p14⟩ (by omega) rfl ⟨rfl, rfl, trivial⟩ rfl
 ·have p7 := h7
  try simp only [bO] at p7
  refine c_exit ?_
  refine q_then_exit ?_
  refine q_then_exit ?_
  refine q_block_eq ?_
  refine q_then ?_
  refine c_seq ?_
  refine c_region ?_
  refine o_v rfl (v_move rfl) ?_
  refine o_v rfl (v_len_str T.und_9 rfl) ?_
  refine o_v rfl (v_gtr rfl rfl) ?_
  refine o_v rfl (v_move rfl) ?_
  refine sx_split 18 rfl (fun h18 => ?_) (fun h18 => ?_)
  ·have p18 := h18
   try simp only [bO] at p18
   refine o_cons (o_yes rfl rfl h18 (o_val rfl (v_move rfl) ?_))
   refine o_cons (o_yes rfl rfl h18 (o_val rfl (v_len_str T.und_9 rfl) ?_))
   refine o_cons (o_yes rfl rfl h18 (o_val rfl (v_leq rfl rfl) ?_))
   refine o_v rfl (v_and_t h18 rfl rfl) ?_
   refine o_v rfl (v_move rfl) ?_
   refine sx_split 23 rfl (fun h23 => ?_) (fun h23 => ?_)
   ·have p23 := h23
    try simp only [bO] at p23
    refine o_cons (o_yes rfl rfl h23 (o_val rfl (v_move rfl) ?_))
    refine o_cons (o_yes rfl rfl h23 (o_val rfl (v_sidx T.und_9 rfl rfl 0 (by omega) (by omega)) ?_))
    refine o_cons ?_
    refine o_yes rfl rfl h23 (o_callV (letter05 _ _) rfl rfl ?_)
    refine o_v rfl (v_and_t h23 rfl rfl) ?_
    refine o_v rfl (v_assign rfl) ?_
    refine o_nil ?_
    refine q_then ?_
    refine c_ret ?_
    refine fin1 rfl rfl ?_
    exact q_v (by have e : i = s.size := (by omega); subst e; simp only [nameRef, hn, h7, h18, h23, bS])
   ·have p23 := h23
    try simp only [bO] at p23
    refine o_cons (o_no rfl rfl h23 rfl ?_)
    refine o_cons (o_no rfl rfl h23 rfl ?_)
    refine o_cons (o_no rfl rfl h23 rfl ?_)
    refine o_v rfl (v_and_f h23 rfl) ?_
    refine o_v rfl (v_assign rfl) ?_
    refine o_nil ?_
    refine q_then ?_
    refine c_ret ?_
    refine fin1 rfl rfl ?_
    exact q_v (by have e : i = s.size := (by omega); subst e; simp only [nameRef, hn, h7, h18, h23, bS])
  ·have p18 := h18
   try simp only [bO] at p18
   refine o_cons (o_no rfl rfl h18 rfl ?_)
   refine o_cons (o_no rfl rfl h18 rfl ?_)
   refine o_cons (o_no rfl rfl h18 rfl ?_)
   refine o_v rfl (v_and_f h18 rfl) ?_
   refine o_v rfl (v_move rfl) ?_
   refine o_cons (o_no rfl rfl rfl rfl ?_)
   refine o_cons (o_no rfl rfl rfl rfl ?_)
   refine o_cons (o_no rfl rfl rfl rfl ?_)
   refine o_v rfl (v_and_f rfl rfl) ?_
   refine o_v rfl (v_assign rfl) ?_
   refine o_nil ?_
   refine q_then ?_
   refine c_ret ?_
   refine fin1 rfl rfl ?_
   exact q_v (by have e : i = s.size := (by omega); subst e; simp only [nameRef, hn, h7, h18, bS])

theorem in08 (I : IMap) (v : Value) (l : List ByteArray) (s : ByteArray) (hv : RdS I v l) :
    FnV Tryz.prog 58 #[v, .string s] I (.bool (decide (s ∈ l))) := by
 obtain ⟨A, c, rfl, hA, hc, hm⟩ := hv
 refine enter Tryz.func58 Tryz.call58 rfl Tryz.ntmps58 rfl (fun w0 => ?_)
 refine c_seq ?_
 refine c_region ?_
 refine o_v rfl (v_assign rfl) ?_
 refine o_nil ?_
 refine q_then ?_
 refine c_seq ?_
 refine c_seq ?_
 refine c_region ?_
 refine o_v rfl (v_assign rfl) ?_
 refine o_nil ?_
 refine q_then ?_
 refine c_block ?_
 refine c_loop (α := Nat) 0 (fun i => I)
  (fun i => [(0, .slice A l.length c), (1, .string s), (5, .int .i64 (i : Int))])
  (fun i => [])
  (fun i => i ≤ l.length ∧ ∀ j, j < i → l[j]? ≠ some s)
  (fun i => l.length - i) ⟨Nat.zero_le _, fun j hj => absurd hj (Nat.not_lt_zero j)⟩ rfl ⟨rfl, rfl, rfl, trivial⟩ rfl ?_
 intro i ⟨hi, hn⟩
 refine c_seq ?_
 refine c_seq ?_
 refine c_region ?_
 refine o_v rfl (v_move rfl) ?_
 refine o_v rfl (v_move rfl) ?_
 refine o_v rfl (v_len_slice T.und_57 rfl) ?_
 refine o_v rfl (v_lss rfl rfl) ?_
 refine o_nil ?_
 refine q_then ?_
 refine c_cond rfl (fun h9 => ?_) (fun h9 => ?_)
 ·have p9 := h9
  try simp only [bO] at p9
  have hlt : i < l.length := by omega
  refine c_skip ?_
  refine q_then ?_
  refine c_seq ?_
  refine c_block ?_
  refine c_seq ?_
  refine c_region ?_
  refine o_v rfl (v_move rfl) ?_
  refine o_v rfl (v_move rfl) ?_
  obtain ⟨b14, o14, w14, e14, c14, r14⟩ := RdA.at_ hA (i := i) hlt
  obtain rfl := r14
  refine o_v rfl (v_idx T.elt_57 rfl rfl e14 (i) (by omega) hlt) ?_
  refine o_v rfl (v_ldI T.ty_9 rfl (c14 0 _ rfl)) ?_
  refine o_v rfl (v_move rfl) ?_
  refine o_v rfl (v_seql rfl rfl) ?_
  refine o_nil ?_
  refine q_then ?_
  refine c_cond rfl (fun h17 => ?_) (fun h17 => ?_)
  ·have p17 := h17
   try simp only [bO] at p17
   refine c_seq ?_
   refine c_region ?_
   refine o_v rfl (v_assign rfl) ?_
   refine o_nil ?_
   refine q_then ?_
   refine c_ret ?_
   refine q_block_ret ?_
   refine q_then_ret ?_
   refine q_then_ret ?_
   refine q_block_ret ?_
   refine q_then_ret ?_
   refine fin1 rfl rfl ?_
   exact q_v (by rw [← p17]; simp)
  ·have p17 := h17
   try simp only [bO] at p17
   refine c_skip ?_
   refine q_block ?_
   refine q_then ?_
   refine c_region ?_
   refine o_v rfl (v_move rfl) ?_
   refine o_v rfl (v_add rfl rfl ⟨by omega, by omega⟩) ?_
   refine o_v rfl (v_assign rfl) ?_
   refine o_nil ?_
   refine q_then ?_
   exact q_next (i + 1) ⟨by omega, fun j hj => sx_next hn hlt p17 j hj⟩ (by omega) rfl ⟨rfl, rfl, rfl, trivial⟩ rfl
 ·have p9 := h9
  try simp only [bO] at p9
  refine c_exit ?_
  refine q_then_exit ?_
  refine q_then_exit ?_
  refine q_block_eq ?_
  refine q_then ?_
  refine c_seq ?_
  refine c_region ?_
  refine o_v rfl (v_assign rfl) ?_
  refine o_nil ?_
  refine q_then ?_
  refine c_ret ?_
  refine fin1 rfl rfl ?_
  exact q_v (by simp only [sx_not_mem l s (fun j hj => hn j (by omega))])

theorem ext_IndexByteString (args : Array Value) (w : World) : (callFunc 161 args).run Tryz.prog w = ((Extern.BytealgIndexByte.indexByte args).run Tryz.prog w).andThen fun v w' => .ok (.value v) w' := by
  have h1 : Extern.findNext Tryz.f161 = none := by kernel_rfl
  have h2 : Extern.find Tryz.f161 = some Extern.BytealgIndexByte.indexByte := by kernel_rfl
  have h3 : (Tryz.f161.name == "runtime.NumGoroutine") = false := by kernel_rfl
  have h4 : Tryz.f161.body.isNone = true := rfl
  simp only [callFunc, Sem.run_bind, run_program, Result.andThen_ok, Tryz.func161, h3, h4, h1, h2]
  simp
theorem indexByteString (I : IMap) (s : ByteArray) (c : UInt8) : FnV Tryz.prog 161 #[.string s, .int .u8 (c.toNat : Int)] I (.int .i64 (Lib.indexByte s.data.toList c)) := by
  refine ⟨fun w m => ?_⟩
  unfold After
  rw [ext_IndexByteString, Lib.run_indexByteString]
  exact ⟨_, I, [], rfl, m, by simp, rfl, rfl⟩

theorem indexByteLite (I : IMap) (s : ByteArray) (c : UInt8) :
    FnV Tryz.prog 150 #[.string s, .int .u8 (c.toNat : Int)] I (.int .i64 (Lib.indexByte s.data.toList c)) := by
 refine enter Tryz.func150 Tryz.call150 rfl Tryz.ntmps150 rfl (fun w0 => ?_)
 refine c_seq ?_
 refine c_region ?_
 refine o_v rfl (v_assign rfl) ?_
 refine o_nil ?_
 refine q_then ?_
 refine c_seq ?_
 refine c_region ?_
 refine o_v rfl (v_move rfl) ?_
 refine o_v rfl (v_move rfl) ?_
 refine o_cons ?_
 refine o_callV (indexByteString I s c) rfl rfl ?_
 refine o_v rfl (v_assign rfl) ?_
 refine o_nil ?_
 refine q_then ?_
 refine c_ret ?_
 refine fin1 rfl rfl ?_
 exact q_v rfl

theorem indexByte (I : IMap) (s : ByteArray) (c : UInt8) :
    FnV Tryz.prog 121 #[.string s, .int .u8 (c.toNat : Int)] I (.int .i64 (Lib.indexByte s.data.toList c)) := by
 refine enter Tryz.func121 Tryz.call121 rfl Tryz.ntmps121 rfl (fun w0 => ?_)
 refine c_seq ?_
 refine c_region ?_
 refine o_v rfl (v_assign rfl) ?_
 refine o_nil ?_
 refine q_then ?_
 refine c_seq ?_
 refine c_region ?_
 refine o_v rfl (v_move rfl) ?_
 refine o_v rfl (v_move rfl) ?_
 refine o_cons ?_
 refine o_callV (indexByteLite I s c) rfl rfl ?_
 refine o_v rfl (v_assign rfl) ?_
 refine o_nil ?_
 refine q_then ?_
 refine c_ret ?_
 refine fin1 rfl rfl ?_
 exact q_v rfl

theorem classes (I : IMap) :
    FnV Tryz.prog 89 #[] I (.agg clsTab.toArray) := by
 refine enter Tryz.func89 Tryz.call89 rfl Tryz.ntmps89 rfl (fun w0 => ?_)
 refine c_seq ?_
 refine c_region ?_
 refine o_cons ?_
 refine o_alloc T.zero_142 rfl (fun g0 => ?_)
 refine o_nil ?_
 refine q_then ?_
 refine c_seq ?_
 refine c_region ?_
 refine o_cons ?_
 refine o_alloc T.zero_142 rfl (fun g1 => ?_)
 refine o_nil ?_
 refine q_then ?_
 refine c_seq ?_
 refine c_seq ?_
 refine c_region ?_
 refine o_v rfl (v_move rfl) ?_
 refine o_nil ?_
 refine q_then ?_
 refine c_block ?_
 refine c_loop (α := Nat) 0 (fun i => I)
  (fun i => [(1, .pointer (some ⟨g1, 0, none⟩)), (0, .pointer (some ⟨g0, 0, none⟩)), (4, .int .i64 (i : Int))])
  (fun i => [.blk g1 142 (clsRow i), .blk g0 142 (clsRow 0)])
  (fun i => i ≤ 256)
  (fun i => 256 - i) (by omega) rfl ⟨rfl, rfl, rfl, trivial⟩ rfl ?_
 intro i hi
 refine c_seq ?_
 refine c_region ?_
 refine o_v rfl (v_lss rfl rfl) ?_
 refine o_nil ?_
 refine q_then ?_
 refine c_seq ?_
 refine c_cond rfl (fun h5 => ?_) (fun h5 => ?_)
 ·have p5 := h5
  try simp only [bO] at p5
  have hlt : i < 256 := by omega
  have hb : ((i.toUInt8.toNat : Nat) : Int) = (i : Int) := by simp; omega
  refine c_skip ?_
  refine q_then ?_
  refine c_seq ?_
  refine c_cut (I' := I) (L' := [(1, .pointer (some ⟨g1, 0, none⟩)), (0, .pointer (some ⟨g0, 0, none⟩)), (4, .int .i64 (i : Int))]) (H' := [.blk g1 142 (clsRow (i + 1)), .blk g0 142 (clsRow 0)]) ?_ ?_
  ·refine c_block ?_
   refine c_seq ?_
   refine c_region ?_
   refine o_v rfl (v_move rfl) ?_
   refine o_v rfl (v_assign rfl) ?_
   refine o_nil ?_
   refine q_then ?_
   refine c_seq ?_
   refine c_region ?_
   refine o_v rfl (v_move rfl) ?_
   refine o_v rfl (v_conv T.und_3 T.und_5 rfl (m := ((i.toUInt8.toNat : Nat) : Int)) (by rw [hb]; exact wrap_u8 i hlt)) ?_
   refine o_v rfl (v_assign rfl) ?_
   refine o_nil ?_
   refine q_then ?_
   refine c_block ?_
   refine c_seq ?_
   refine c_cutL (L' := [(1, .pointer (some ⟨g1, 0, none⟩)), (0, .pointer (some ⟨g0, 0, none⟩)), (4, .int .i64 (i : Int)), (2, .int .i64 (i : Int)), (3, .int .u8 (i.toUInt8.toNat : Int)), (9, .bool (clsLow i.toUInt8 || clsUp i.toUInt8))]) ?_ ?_
   ·refine c_seq ?_
    refine c_cutL (L' := [(1, .pointer (some ⟨g1, 0, none⟩)), (0, .pointer (some ⟨g0, 0, none⟩)), (4, .int .i64 (i : Int)), (2, .int .i64 (i : Int)), (3, .int .u8 (i.toUInt8.toNat : Int)), (9, .bool (clsLow i.toUInt8))]) ?_ ?_
    ·refine c_region ?_
     refine o_v rfl (v_move rfl) ?_
     refine o_v rfl (v_leq rfl rfl) ?_
     refine o_v rfl (v_move rfl) ?_
     refine sx_split 12 rfl (fun h12 => ?_) (fun h12 => ?_)
     ·have p12 := h12
      try simp only [bO] at p12
      refine o_cons (o_yes rfl rfl h12 (o_val rfl (v_move rfl) ?_))
      refine o_cons (o_yes rfl rfl h12 (o_val rfl (v_leq rfl rfl) ?_))
      refine o_v rfl (v_and_t h12 rfl rfl) ?_
      refine o_v rfl (v_assign rfl) ?_
      refine o_nil ?_
      refine q_then ?_
      exact q_cut ⟨rfl, rfl, rfl, rfl, rfl, (congrArg (fun b => some (Value.bool b)) (by simp only [clsLow, h5, h12, bS])), trivial⟩ rfl rfl
     ·have p12 := h12
      try simp only [bO] at p12
      refine o_cons (o_no rfl rfl h12 rfl ?_)
      refine o_cons (o_no rfl rfl h12 rfl ?_)
      refine o_v rfl (v_and_f h12 rfl) ?_
      refine o_v rfl (v_assign rfl) ?_
      refine o_nil ?_
      refine q_then ?_
      exact q_cut ⟨rfl, rfl, rfl, rfl, rfl, (congrArg (fun b => some (Value.bool b)) (by simp only [clsLow, h5, h12, bS])), trivial⟩ rfl rfl
    ·refine c_cond rfl (fun h9 => ?_) (fun h9 => ?_)
     ·have p9 := h9
      try simp only [bO] at p9
      refine c_skip ?_
      refine q_then ?_
      exact q_cut ⟨rfl, rfl, rfl, rfl, rfl, (congrArg (fun b => some (Value.bool b)) (by simp only [clsUp, h9, bS])), trivial⟩ rfl rfl
     ·have p9 := h9
      try simp only [bO] at p9
      refine c_region ?_
      refine o_v rfl (v_move rfl) ?_
      refine o_v rfl (v_leq rfl rfl) ?_
      refine o_v rfl (v_move rfl) ?_
      refine sx_split 18 rfl (fun h18 => ?_) (fun h18 => ?_)
      ·have p18 := h18
       try simp only [bO] at p18
       refine o_cons (o_yes rfl rfl h18 (o_val rfl (v_move rfl) ?_))
       refine o_cons (o_yes rfl rfl h18 (o_val rfl (v_leq rfl rfl) ?_))
       refine o_v rfl (v_and_t h18 rfl rfl) ?_
       refine o_v rfl (v_assign rfl) ?_
       refine o_nil ?_
       refine q_then ?_
       exact q_cut ⟨rfl, rfl, rfl, rfl, rfl, (congrArg (fun b => some (Value.bool b)) (by simp only [clsUp, h9, h18, bS])), trivial⟩ rfl rfl
      ·have p18 := h18
       try simp only [bO] at p18
       refine o_cons (o_no rfl rfl h18 rfl ?_)
       refine o_cons (o_no rfl rfl h18 rfl ?_)
       refine o_v rfl (v_and_f h18 rfl) ?_
       refine o_v rfl (v_assign rfl) ?_
       refine o_nil ?_
       refine q_then ?_
       exact q_cut ⟨rfl, rfl, rfl, rfl, rfl, (congrArg (fun b => some (Value.bool b)) (by simp only [clsUp, h9, h18, bS])), trivial⟩ rfl rfl
   ·refine c_cond rfl (fun h9 => ?_) (fun h9 => ?_)
    ·have p9 := h9
     try simp only [bO] at p9
     refine c_region ?_
     refine o_v rfl (v_move rfl) ?_
     refine o_v rfl (v_aidx T.arr_142 rfl rfl i (by omega) (by omega)) ?_
     refine o_cons ?_
     refine o_st1 T.ty_5 rfl rfl rfl (by rw [clsRow_len, Nat.blt_eq]; omega) ?_
     refine o_nil ?_
     refine q_block ?_
     refine q_block ?_
     refine q_then ?_
     exact q_cut ⟨rfl, rfl, rfl, trivial⟩ (congrArg (fun r => [Res.blk g1 _ r, _]) (clsRow_st i hlt _ (clsOf_3 h9))) rfl
    ·have p9 := h9
     try simp only [bO] at p9
     refine c_seq ?_
     refine c_cutL (L' := [(1, .pointer (some ⟨g1, 0, none⟩)), (0, .pointer (some ⟨g0, 0, none⟩)), (4, .int .i64 (i : Int)), (2, .int .i64 (i : Int)), (3, .int .u8 (i.toUInt8.toNat : Int)), (24, .bool (isDigit i.toUInt8))]) ?_ ?_
     ·refine c_region ?_
      refine o_v rfl (v_move rfl) ?_
      refine o_v rfl (v_leq rfl rfl) ?_
      refine o_v rfl (v_move rfl) ?_
      refine sx_split 27 rfl (fun h27 => ?_) (fun h27 => ?_)
      ·have p27 := h27
       try simp only [bO] at p27
       refine o_cons (o_yes rfl rfl h27 (o_val rfl (v_move rfl) ?_))
       refine o_cons (o_yes rfl rfl h27 (o_val rfl (v_leq rfl rfl) ?_))
       refine o_v rfl (v_and_t h27 rfl rfl) ?_
       refine o_v rfl (v_assign rfl) ?_
       refine o_nil ?_
       refine q_then ?_
       exact q_cut ⟨rfl, rfl, rfl, rfl, rfl, (congrArg (fun b => some (Value.bool b)) (by simp only [isDigit, h9, h27, bS])), trivial⟩ rfl rfl
      ·have p27 := h27
       try simp only [bO] at p27
       refine o_cons (o_no rfl rfl h27 rfl ?_)
       refine o_cons (o_no rfl rfl h27 rfl ?_)
       refine o_v rfl (v_and_f h27 rfl) ?_
       refine o_v rfl (v_assign rfl) ?_
       refine o_nil ?_
       refine q_then ?_
       exact q_cut ⟨rfl, rfl, rfl, rfl, rfl, (congrArg (fun b => some (Value.bool b)) (by simp only [isDigit, h9, h27, bS])), trivial⟩ rfl rfl
     ·refine c_cond rfl (fun h24 => ?_) (fun h24 => ?_)
      ·have p24 := h24
       try simp only [bO] at p24
       refine c_region ?_
       refine o_v rfl (v_move rfl) ?_
       refine o_v rfl (v_aidx T.arr_142 rfl rfl i (by omega) (by omega)) ?_
       refine o_cons ?_
       refine o_st1 T.ty_5 rfl rfl rfl (by rw [clsRow_len, Nat.blt_eq]; omega) ?_
       refine o_nil ?_
       refine q_block ?_
       refine q_block ?_
       refine q_then ?_
       exact q_cut ⟨rfl, rfl, rfl, trivial⟩ (congrArg (fun r => [Res.blk g1 _ r, _]) (clsRow_st i hlt _ (clsOf_4 h9 h24))) rfl
      ·have p24 := h24
       try simp only [bO] at p24
       refine c_seq ?_
       refine c_region ?_
       refine o_v rfl (v_move rfl) ?_
       refine o_cons ?_
       refine o_callV (indexByte I _ i.toUInt8) rfl rfl ?_
       refine o_v rfl (v_geq rfl rfl) ?_
       refine o_v rfl (v_assign rfl) ?_
       refine o_nil ?_
       refine q_then ?_
       refine c_cond rfl (fun h33 => ?_) (fun h33 => ?_)
       ·have p33 := h33
        try simp only [bO] at p33
        refine c_region ?_
        refine o_v rfl (v_move rfl) ?_
        refine o_v rfl (v_aidx T.arr_142 rfl rfl i (by omega) (by omega)) ?_
        refine o_cons ?_
        refine o_st1 T.ty_5 rfl rfl rfl (by rw [clsRow_len, Nat.blt_eq]; omega) ?_
        refine o_nil ?_
        refine q_block ?_
        refine q_block ?_
        refine q_then ?_
        exact q_cut ⟨rfl, rfl, rfl, trivial⟩ (congrArg (fun r => [Res.blk g1 _ r, _]) (clsRow_st i hlt _ (clsOf_1 h9 h24 h33))) rfl
       ·have p33 := h33
        try simp only [bO] at p33
        refine c_seq ?_
        refine c_region ?_
        refine o_v rfl (v_move rfl) ?_
        refine o_cons ?_
        refine o_callV (indexByte I _ i.toUInt8) rfl rfl ?_
        refine o_v rfl (v_geq rfl rfl) ?_
        refine o_v rfl (v_assign rfl) ?_
        refine o_nil ?_
        refine q_then ?_
        refine c_cond rfl (fun h39 => ?_) (fun h39 => ?_)
        ·have p39 := h39
         try simp only [bO] at p39
         refine c_region ?_
         refine o_v rfl (v_move rfl) ?_
         refine o_v rfl (v_aidx T.arr_142 rfl rfl i (by omega) (by omega)) ?_
         refine o_cons ?_
         refine o_st1 T.ty_5 rfl rfl rfl (by rw [clsRow_len, Nat.blt_eq]; omega) ?_
         refine o_nil ?_
         refine q_block ?_
         refine q_block ?_
         refine q_then ?_
         exact q_cut ⟨rfl, rfl, rfl, trivial⟩ (congrArg (fun r => [Res.blk g1 _ r, _]) (clsRow_st i hlt _ (clsOf_6 h9 h24 h33 h39))) rfl
        ·have p39 := h39
         try simp only [bO] at p39
         refine c_skip ?_
         refine q_block ?_
         refine q_block ?_
         refine q_then ?_
         exact q_cut ⟨rfl, rfl, rfl, trivial⟩ (congrArg (fun r => [Res.blk g1 _ r, _]) (clsRow_skip i hlt (clsOf_0 h9 h24 h33 h39)).symm) rfl
  ·refine c_region ?_
   refine o_v rfl (v_add rfl rfl ⟨by omega, by omega⟩) ?_
   refine o_v rfl (v_move rfl) ?_
   refine o_nil ?_
   refine q_then ?_
   exact q_next (i + 1) (by omega) (by omega) rfl ⟨rfl, rfl, rfl, trivial⟩ rfl
 ·have p5 := h5
  try simp only [bO] at p5
  refine c_exit ?_
  refine q_then_exit ?_
  refine q_then_exit ?_
  refine q_block_eq ?_
  refine q_then ?_
  refine c_seq ?_
  refine c_region ?_
  refine o_v rfl (v_aidx T.arr_142 rfl rfl 35 rfl (by omega)) ?_
  refine o_cons ?_
  refine o_st1 T.ty_5 rfl rfl rfl (by simp only [List.length_set, clsRow_len]; rfl) ?_
  refine o_v rfl (v_aidx T.arr_142 rfl rfl 95 rfl (by omega)) ?_
  refine o_cons ?_
  refine o_st1 T.ty_5 rfl rfl rfl (by simp only [List.length_set, clsRow_len]; rfl) ?_
  refine o_v rfl (v_aidx T.arr_142 rfl rfl 34 rfl (by omega)) ?_
  refine o_cons ?_
  refine o_st1 T.ty_5 rfl rfl rfl (by simp only [List.length_set, clsRow_len]; rfl) ?_
  refine o_nil ?_
  refine q_then ?_
  refine c_seq ?_
  refine c_region ?_
  refine o_v rfl (v_ldw m0 T.ty_142 rfl rfl) ?_
  refine o_cons ?_
  refine bring1 ?_
  refine o_stw _ T.ty_142 rfl rfl rfl rfl rfl rfl ?_
  refine o_nil ?_
  refine q_then ?_
  refine c_ret ?_
  refine fin1 rfl ⟨_, _, _, rfl, m0, .inr ⟨_, T.ty_142, rfl, rfl⟩⟩ ?_
  have e : i = 256 := (by omega)
  subst e
  exact q_v rfl

theorem lexName (I : IMap) (s : ByteArray) (hs : s.size ≤ 9223372036854775807) :
    FnV Tryz.prog 61 #[.string s] I (.bool (nameOk s)) := by
 refine enter Tryz.func61 Tryz.call61 rfl Tryz.ntmps61 rfl (fun w0 => ?_)
 refine c_seq ?_
 refine c_region ?_
 refine o_v rfl (v_assign rfl) ?_
 refine o_nil ?_
 refine q_then ?_
 refine c_seq ?_
 refine c_region ?_
 refine o_cons ?_
 refine o_callV (classes _) rfl rfl ?_
 refine o_cons ?_
 refine o_alloc T.zero_142 rfl (fun g3 => ?_)
 refine o_cons ?_
 refine o_stw _ T.ty_142 rfl rfl rfl rfl rfl rfl ?_
 refine o_nil ?_
 refine q_then ?_
 refine c_seq ?_
 refine c_seq ?_
 refine c_region ?_
 refine o_v rfl (v_move rfl) ?_
 refine o_v rfl (v_len_str T.und_9 rfl) ?_
 refine o_v rfl (v_move rfl) ?_
 refine o_nil ?_
 refine q_then ?_
 refine c_block ?_
 refine c_loop (α := Nat) 0 (fun i => I)
  (fun i => [(0, .string s), (3, .pointer (some ⟨g3, 0, none⟩)), (8, .int .i64 (s.size : Int)), (9, .int .i64 (i : Int))])
  (fun i => [.blk g3 142 clsTab])
  (fun i => i ≤ s.size ∧ charsTo s i = true)
  (fun i => s.size - i) ⟨Nat.zero_le _, rfl⟩ rfl ⟨rfl, rfl, rfl, rfl, trivial⟩ rfl ?_
 intro i ⟨hi, hn⟩
 refine c_seq ?_
 refine c_region ?_
 refine o_v rfl (v_lss rfl rfl) ?_
 refine o_nil ?_
 refine q_then ?_
 refine c_seq ?_
 refine c_cond rfl (fun h10 => ?_) (fun h10 => ?_)
 ·have p10 := h10
  try simp only [bO] at p10
  refine c_skip ?_
  refine q_then ?_
  refine c_seq ?_
  refine c_block ?_
  refine c_seq ?_
  refine c_region ?_
  refine o_v rfl (v_move rfl) ?_
  refine o_v rfl (v_assign rfl) ?_
  refine o_nil ?_
  refine q_then ?_
  refine c_seq ?_
  refine c_region ?_
  refine o_v rfl (v_move rfl) ?_
  refine o_v rfl (v_move rfl) ?_
  refine o_v rfl (v_sidx T.und_9 rfl rfl i (by omega) (by omega)) ?_
  refine o_v rfl (v_aidx T.arr_142 rfl rfl (s[i]!).toNat rfl (s[i]!).toNat_lt) ?_
  refine o_v rfl (v_ld m0 T.ty_5 rfl (by rw [show 0 + (s[i]!).toNat * 1 = (s[i]!).toNat from by omega]; exact clsTab_at _)) ?_
  refine o_v rfl (v_assign rfl) ?_
  refine o_nil ?_
  refine q_then ?_
  refine c_seq ?_
  refine c_region ?_
  refine o_v rfl (v_move rfl) ?_
  refine o_v rfl (v_neq rfl rfl) ?_
  refine o_v rfl (v_move rfl) ?_
  refine sx_split 19 rfl (fun h19 => ?_) (fun h19 => ?_)
  ·have p19 := h19
   try simp only [bO] at p19
   refine o_cons (o_yes rfl rfl h19 (o_val rfl (v_move rfl) ?_))
   refine o_cons (o_yes rfl rfl h19 (o_val rfl (v_eql rfl rfl) ?_))
   refine o_cons (o_yes rfl rfl h19 (o_val rfl (v_move rfl) ?_))
   refine sx_split 22 rfl (fun h22 => ?_) (fun h22 => ?_)
   ·have p22 := h22
    try simp only [bO] at p22
    refine o_cons (o_no rfl rfl h22 rfl ?_)
    refine o_cons (o_no rfl rfl h22 rfl ?_)
    refine o_cons (o_no rfl rfl h22 rfl ?_)
    refine o_cons (o_nou rfl rfl rfl ?_)
    refine o_cons (o_nou rfl rfl rfl ?_)
    refine o_cons (o_no rfl rfl h22 rfl ?_)
    refine o_cons (o_yes rfl rfl h19 (o_val rfl (v_or_t h22 rfl) ?_))
    refine o_v rfl (v_and_t h19 rfl rfl) ?_
    refine o_nil ?_
    refine q_then ?_
    refine c_true rfl ?_
    refine c_seq ?_
    refine c_region ?_
    refine o_v rfl (v_assign rfl) ?_
    refine o_nil ?_
    refine q_then ?_
    refine c_ret ?_
    refine q_block_ret ?_
    refine q_then_ret ?_
    refine q_then_ret ?_
    refine q_block_ret ?_
    refine q_then_ret ?_
    refine fin1 rfl rfl ?_
    exact q_v (by simp only [nameOk, chars_not (show i < s.size by omega) (show nameChar s i = false by simp only [nameChar, ← (cls_is _).1, ← (cls_is _).2.1, ← (cls_is _).2.2]; simp_all), bS])
   ·have p22 := h22
    try simp only [bO] at p22
    refine o_cons (o_yes rfl rfl h22 (o_val rfl (v_move rfl) ?_))
    refine o_cons (o_yes rfl rfl h22 (o_val rfl (v_neq rfl rfl) ?_))
    refine o_cons (o_yes rfl rfl h22 (o_val rfl (v_move rfl) ?_))
    refine sx_split 25 rfl (fun h25 => ?_) (fun h25 => ?_)
    ·have p25 := h25
     try simp only [bO] at p25
     refine o_cons (o_yes rfl rfl h25 (o_val rfl (v_move rfl) ?_))
     refine o_cons (o_yes rfl rfl h25 (o_val rfl (v_neq rfl rfl) ?_))
     refine o_cons (o_yes rfl rfl h22 (o_val rfl (v_and_t h25 rfl rfl) ?_))
     refine o_cons (o_yes rfl rfl h19 (o_val rfl (v_or_f h22 rfl rfl) ?_))
     refine o_v rfl (v_and_t h19 rfl rfl) ?_
     refine o_nil ?_
     refine q_then ?_
     refine c_cond rfl (fun h30 => ?_) (fun h30 => ?_)
     ·have p30 := h30
      try simp only [bO] at p30
      refine c_seq ?_
      refine c_region ?_
      refine o_v rfl (v_assign rfl) ?_
      refine o_nil ?_
      refine q_then ?_
      refine c_ret ?_
      refine q_block_ret ?_
      refine q_then_ret ?_
      refine q_then_ret ?_
      refine q_block_ret ?_
      refine q_then_ret ?_
      refine fin1 rfl rfl ?_
      exact q_v (by simp only [nameOk, chars_not (show i < s.size by omega) (show nameChar s i = false by simp only [nameChar, ← (cls_is _).1, ← (cls_is _).2.1, ← (cls_is _).2.2]; simp_all), bS])
     ·have p30 := h30
      try simp only [bO] at p30
      refine c_skip ?_
      refine q_block ?_
      refine q_then ?_
      refine c_region ?_
      refine o_v rfl (v_add rfl rfl ⟨by omega, by omega⟩) ?_
      refine o_v rfl (v_move rfl) ?_
      refine o_nil ?_
      refine q_then ?_
      exact q_next (i + 1) ⟨by omega, chars_succ hn (by simp only [nameChar, ← (cls_is _).1, ← (cls_is _).2.1, ← (cls_is _).2.2]; simp_all)⟩ (by omega) rfl ⟨rfl, rfl, rfl, rfl, trivial⟩ rfl
    ·have p25 := h25
     try simp only [bO] at p25
     refine o_cons (o_no rfl rfl h25 rfl ?_)
     refine o_cons (o_no rfl rfl h25 rfl ?_)
     refine o_cons (o_yes rfl rfl h22 (o_val rfl (v_and_f h25 rfl) ?_))
     refine o_cons (o_yes rfl rfl h19 (o_val rfl (v_or_f h22 rfl rfl) ?_))
     refine o_v rfl (v_and_t h19 rfl rfl) ?_
     refine o_nil ?_
     refine q_then ?_
     refine c_false rfl ?_
     refine c_skip ?_
     refine q_block ?_
     refine q_then ?_
     refine c_region ?_
     refine o_v rfl (v_add rfl rfl ⟨by omega, by omega⟩) ?_
     refine o_v rfl (v_move rfl) ?_
     refine o_nil ?_
     refine q_then ?_
     exact q_next (i + 1) ⟨by omega, chars_succ hn (by simp only [nameChar, ← (cls_is _).1, ← (cls_is _).2.1, ← (cls_is _).2.2]; simp_all)⟩ (by omega) rfl ⟨rfl, rfl, rfl, rfl, trivial⟩ rfl
  ·have p19 := h19
   try simp only [bO] at p19
   refine o_cons (o_no rfl rfl h19 rfl ?_)
   refine o_cons (o_no rfl rfl h19 rfl ?_)
   refine o_cons (o_no rfl rfl h19 rfl ?_)
   refine o_cons (o_nou rfl rfl rfl ?_)
   refine o_cons (o_nou rfl rfl rfl ?_)
   refine o_cons (o_nou rfl rfl rfl ?_)
   refine o_cons (o_nou rfl rfl rfl ?_)
   refine o_cons (o_nou rfl rfl rfl ?_)
   refine o_cons (o_nou rfl rfl rfl ?_)
   refine o_cons (o_no rfl rfl h19 rfl ?_)
   refine o_v rfl (v_and_f h19 rfl) ?_
   refine o_nil ?_
   refine q_then ?_
   refine c_false rfl ?_
   refine c_skip ?_
   refine q_block ?_
   refine q_then ?_
   refine c_region ?_
   refine o_v rfl (v_add rfl rfl ⟨by omega, by omega⟩) ?_
   refine o_v rfl (v_move rfl) ?_
   refine o_nil ?_
   refine q_then ?_
   exact q_next (i + 1) ⟨by omega, chars_succ hn (by simp only [nameChar, ← (cls_is _).1, ← (cls_is _).2.1, ← (cls_is _).2.2]; simp_all)⟩ (by omega) rfl ⟨rfl, rfl, rfl, rfl, trivial⟩ rfl
 ·have p10 := h10
  try simp only [bO] at p10
  refine c_exit ?_
  refine q_then_exit ?_
  refine q_then_exit ?_
  refine q_block_eq ?_
  refine q_then ?_
  refine c_seq ?_
  refine c_region ?_
  refine o_v rfl (v_move rfl) ?_
  refine o_v rfl (v_sneq rfl rfl) ?_
  refine o_v rfl (v_move rfl) ?_
  refine sx_split 34 rfl (fun h34 => ?_) (fun h34 => ?_)
  ·have p34 := h34
   try simp only [bO] at p34
   refine o_cons (o_yes rfl rfl h34 (o_val rfl (v_move rfl) ?_))
   refine o_cons (o_yes rfl rfl h34 (o_val rfl (v_len_str T.und_9 rfl) ?_))
   refine o_cons (o_yes rfl rfl h34 (o_val rfl (v_leq rfl rfl) ?_))
   refine o_v rfl (v_and_t h34 rfl rfl) ?_
   refine o_v rfl (v_assign rfl) ?_
   refine o_nil ?_
   refine q_then ?_
   refine c_ret ?_
   refine fin1 rfl rfl ?_
   have e : i = s.size := (by omega)
   subst e
   exact q_v (by simp only [nameOk, hn, h10, h34, bS])
  ·have p34 := h34
   try simp only [bO] at p34
   refine o_cons (o_no rfl rfl h34 rfl ?_)
   refine o_cons (o_no rfl rfl h34 rfl ?_)
   refine o_cons (o_no rfl rfl h34 rfl ?_)
   refine o_v rfl (v_and_f h34 rfl) ?_
   refine o_v rfl (v_assign rfl) ?_
   refine o_nil ?_
   refine q_then ?_
   refine c_ret ?_
   refine fin1 rfl rfl ?_
   have e : i = s.size := (by omega)
   subst e
   exact q_v (by simp only [nameOk, hn, h10, h34, bS])

end Go.Proofs.YtkmdojpfccjnoaaGreat
