/- Walks, printed by a program out of the code of the functions: each theorem is a contract of one function. -/
import Derived.Test.YtkmdojpfccjnoaaGreatW21
import Derived.Test.YtkmdojpfccjnoaaGreatRepS
import Derived.Test.YtkmdojpfccjnoaaGreatSxKey2
namespace Go.Proofs.YtkmdojpfccjnoaaGreat
open Go Go.Sx
set_option linter.all false
set_option maxRecDepth 20000
set_option maxHeartbeats 4000000
theorem T.elt_25 : eltK Tryz.prog 25 = some (37, 2) := by kernel_rfl
theorem T.elt_26 : eltK Tryz.prog 26 = some (3, 1) := by kernel_rfl
theorem T.fld_37_0 : fldK Tryz.prog 37 0 = some (0, false, 1) := by kernel_rfl
theorem T.fld_37_1 : fldK Tryz.prog 37 1 = some (1, false, 1) := by kernel_rfl
theorem T.ty_25 : tyK Tryz.prog 25 = some (false, 1) := by kernel_rfl
theorem T.ty_26 : tyK Tryz.prog 26 = some (false, 1) := by kernel_rfl
theorem T.ty_35 : tyK Tryz.prog 35 = some (false, 1) := by kernel_rfl
theorem T.ty_37 : tyK Tryz.prog 37 = some (true, 2) := by kernel_rfl
theorem T.und_25 : Tryz.prog.underlying 25 = some (.slice 37) := by kernel_rfl
theorem T.und_26 : Tryz.prog.underlying 26 = some (.slice 3) := by kernel_rfl
theorem T.und_79 : Tryz.prog.underlying 79 = some (.map 53 4) := by kernel_rfl
theorem T.zero_37 : zeroK Tryz.prog 37 = some [.slice none 0 0, .bool false] := by kernel_rfl
theorem keyEvt : KeyOK Tryz.prog 53 encE := key_struct (cells := Evt.cells) (by kernel_rfl) (fun p q => eqS_Evt p q) (fun p => by kernel_rfl) (fun p => by simp [Evt.cells, bits_str, bits_int])

theorem repValid (I : IMap) (r : Rep) (S : Option Addr) (d : Nat) (hr : RdS I (.slice S r.options.length d) r.options) (hs : ∀ e ∈ r.options, SmE e) :
    FnV Tryz.prog 21 #[.agg (r.cells (.slice S r.options.length d)).toArray] I (.bool (validRep r)) := by
 have hSA : RdA I S r.options := (by obtain ⟨_, _, e, h, _⟩ := hr; cases e; exact h)
 have hl4 : d ≤ 9223372036854775807 := (by obtain ⟨_, _, e, h, h1, h2⟩ := hr; cases e; exact h2)
 have hl5 := hr.lenLe
 refine enter Tryz.func21 Tryz.call21 rfl Tryz.ntmps21 rfl (fun w0 => ?_)
 refine c_seq ?_
 refine c_region ?_
 refine o_cons ?_
 refine o_box _ rfl rfl rfl (fun g1 => ?_)
 refine o_v rfl (v_assign rfl) ?_
 refine o_nil ?_
 refine q_then ?_
 refine c_seq ?_
 refine c_seq ?_
 refine c_cut (I' := I) (L' := [(1, .pointer (some ⟨g1, 0, none⟩)), (15, .bool (decide (((r.options.length : Nat) : Int) = 0) || decide ((4 : Int) < (r.options.length : Nat))))]) (H' := [.blk g1 37 (r.cells (.slice S r.options.length d))]) ?_ ?_
 ·refine c_region ?_
  refine o_v rfl (v_fieldAddr T.fld_37_0 rfl) ?_
  refine o_v rfl (v_ld m0 T.ty_35 rfl rfl) ?_
  refine o_v rfl (v_len_slice T.und_35 rfl) ?_
  refine o_v rfl (v_eql rfl rfl) ?_
  refine o_v rfl (v_move rfl) ?_
  refine sx_split 10 rfl (fun h10 => ?_) (fun h10 => ?_)
  ·have p10 := h10
   try simp only [bO] at p10
   refine o_cons (o_no rfl rfl h10 rfl ?_)
   refine o_cons (o_no rfl rfl h10 rfl ?_)
   refine o_cons (o_no rfl rfl h10 rfl ?_)
   refine o_cons (o_no rfl rfl h10 rfl ?_)
   refine o_v rfl (v_or_t h10 rfl) ?_
   refine o_nil ?_
   refine q_then ?_
   exact q_cut ⟨rfl, (congrArg (fun b => some (Value.bool b)) (by simp only [h10, bS])), trivial⟩ rfl rfl
  ·have p10 := h10
   try simp only [bO] at p10
   refine o_cons (o_yes rfl rfl h10 (o_val rfl (v_fieldAddr T.fld_37_0 rfl) ?_))
   refine o_cons (o_yes rfl rfl h10 (o_val rfl (v_ld m0 T.ty_35 rfl rfl) ?_))
   refine o_cons (o_yes rfl rfl h10 (o_val rfl (v_len_slice T.und_35 rfl) ?_))
   refine o_cons (o_yes rfl rfl h10 (o_val rfl (v_gtr rfl rfl) ?_))
   refine o_v rfl (v_or_f h10 rfl rfl) ?_
   refine o_nil ?_
   refine q_then ?_
   exact q_cut ⟨rfl, (congrArg (fun b => some (Value.bool b)) (by simp only [h10, bS])), trivial⟩ rfl rfl
 ·refine c_cond rfl (fun h15 => ?_) (fun h15 => ?_)
  ·have p15 := h15
   try simp only [bO] at p15
   refine c_seq ?_
   refine c_region ?_
   refine o_v rfl (v_assign rfl) ?_
   refine o_nil ?_
   refine q_then ?_
   refine c_ret ?_
   refine q_then_ret ?_
   refine fin1 rfl rfl ?_
   exact q_v (congrArg Value.bool (by simp only [validRep, h15]; rfl))
  ·have p15 := h15
   try simp only [bO] at p15
   refine c_skip ?_
   refine q_then ?_
   refine c_seq ?_
   refine c_region ?_
   refine o_cons ?_
   refine o_map0 (encE) T.und_79 rfl (fun r16 => ?_)
   refine o_v rfl (v_assign rfl) ?_
   refine o_nil ?_
   refine q_then ?_
   refine c_seq ?_
   refine c_seq ?_
   refine c_region ?_
   refine o_v rfl (v_fieldAddr T.fld_37_0 rfl) ?_
   refine o_v rfl (v_ld m1 T.ty_35 rfl rfl) ?_
   refine o_v rfl (v_len_slice T.und_35 rfl) ?_
   refine o_v rfl (v_move rfl) ?_
   refine o_nil ?_
   refine q_then ?_
   refine c_block ?_
   refine c_loop (α := Nat) 0 (fun i => I)
    (fun i => [(1, .pointer (some ⟨g1, 0, none⟩)), (3, .map (some r16)), (18, .slice S r.options.length d), (19, .int .i64 ((r.options.length : Nat) : Int)), (20, .int .i64 ((i : Nat) : Int))])
    (fun i => [.mp r16 (emap encE (kvsOf _root_.id (fun _ => Value.bool true) (r.options.take i))), .blk g1 37 (r.cells (.slice S r.options.length d))])
    (fun i => i ≤ r.options.length ∧ allP optFine r.options i = true)
    (fun i => r.options.length - i) ⟨Nat.zero_le _, rfl⟩ rfl ⟨rfl, rfl, rfl, rfl, rfl, trivial⟩ rfl ?_
   intro i ⟨hi, hn⟩
   refine c_seq ?_
   refine c_region ?_
   refine o_v rfl (v_lss rfl rfl) ?_
   refine o_nil ?_
   refine q_then ?_
   refine c_seq ?_
   refine c_cond rfl (fun h21 => ?_) (fun h21 => ?_)
   ·have p21 := h21
    try simp only [bO] at p21
    have hlt : i < r.options.length := by omega
    refine c_skip ?_
    refine q_then ?_
    refine c_seq ?_
    refine c_block ?_
    refine c_seq ?_
    refine c_region ?_
    obtain ⟨b22, o22, w22, e22, c22, r22⟩ := RdA.at_ hSA (i := i) hlt
    obtain rfl := r22
    refine o_v rfl (v_idx T.elt_35 rfl rfl e22 (i) (by omega) hlt) ?_
    refine o_v rfl (v_ldIa T.ty_53 rfl c22 rfl) ?_
    refine o_cons ?_
    refine o_alloc T.zero_53 rfl (fun g5 => ?_)
    refine o_cons ?_
    refine o_stw _ T.ty_53 rfl rfl rfl rfl rfl rfl ?_
    refine o_nil ?_
    refine q_then ?_
    refine c_seq ?_
    refine c_seq ?_
    refine c_cut (I' := I) (L' := [(1, .pointer (some ⟨g1, 0, none⟩)), (3, .map (some r16)), (18, .slice S r.options.length d), (19, .int .i64 ((r.options.length : Nat) : Int)), (20, .int .i64 ((i : Nat) : Int)), (5, .pointer (some ⟨g5, 0, none⟩)), (31, .bool (hit _root_.id (r.options.take i) r.options[i] || !validE r.options[i]))]) (H' := [.blk g5 53 r.options[i].cells, .mp r16 (emap encE (kvsOf _root_.id (fun _ => Value.bool true) (r.options.take i))), .blk g1 37 (r.cells (.slice S r.options.length d))]) ?_ ?_
    ·refine c_region ?_
     refine o_v rfl (v_move rfl) ?_
     refine o_v rfl (v_ldw m0 T.ty_53 rfl rfl) ?_
     refine o_v rfl (v_get m1 (keyEvt) T.und_79 T.zv_4 (r.options[i]) rfl rfl (kvs_hit1 _root_.id _ _)) ?_
     refine o_v rfl (v_move rfl) ?_
     refine sx_split 27 rfl (fun h27 => ?_) (fun h27 => ?_)
     ·have p27 := h27
      try simp only [bO] at p27
      refine o_cons (o_no rfl rfl h27 rfl ?_)
      refine o_cons (o_no rfl rfl h27 rfl ?_)
      refine o_cons (o_no rfl rfl h27 rfl ?_)
      refine o_v rfl (v_or_t h27 rfl) ?_
      refine o_nil ?_
      refine q_then ?_
      exact q_cut ⟨rfl, rfl, rfl, rfl, rfl, rfl, (congrArg (fun b => some (Value.bool b)) (by simp only [h21, h27, bS])), trivial⟩ rfl rfl
     ·have p27 := h27
      try simp only [bO] at p27
      refine o_cons (o_yes rfl rfl h27 (o_val rfl (v_ldw m0 T.ty_53 rfl rfl) ?_))
      refine o_cons ?_
      refine o_yes rfl rfl h27 (o_callV (evValid _ r.options[i] (hs _ (List.getElem_mem hlt))) rfl rfl ?_)
      refine o_cons (o_yes rfl rfl h27 (o_val rfl (v_not rfl) ?_))
      refine o_v rfl (v_or_f h27 rfl rfl) ?_
      refine o_nil ?_
      refine q_then ?_
      exact q_cut ⟨rfl, rfl, rfl, rfl, rfl, rfl, (congrArg (fun b => some (Value.bool b)) (by simp only [h21, h27, bS])), trivial⟩ rfl rfl
    ·refine c_cond rfl (fun h31 => ?_) (fun h31 => ?_)
     ·have p31 := h31
      try simp only [bO] at p31
      refine c_seq ?_
      refine c_region ?_
      refine o_v rfl (v_assign rfl) ?_
      refine o_nil ?_
      refine q_then ?_
      refine c_ret ?_
      refine q_then_ret ?_
      refine q_block_ret ?_
      refine q_then_ret ?_
      refine q_then_ret ?_
      refine q_block_ret ?_
      refine q_then_ret ?_
      refine fin1 rfl rfl ?_
      exact q_v (congrArg Value.bool (by simp only [validRep, h15, allP_not hlt (show optFine (r.options.take i) r.options[i] = false from (congrArg not h31).trans rfl), bS]))
     ·have p31 := h31
      try simp only [bO] at p31
      refine c_skip ?_
      refine q_then ?_
      refine c_region ?_
      refine o_v rfl (v_move rfl) ?_
      refine o_v rfl (v_ldw m0 T.ty_53 rfl rfl) ?_
      refine o_cons ?_
      have h31n : hit _root_.id (r.options.take i) r.options[i] = false := by revert h31; cases hit _root_.id (r.options.take i) r.options[i] <;> simp
      refine bring1 ?_
      refine o_mapPut (kvsOf _root_.id (fun _ => Value.bool true) (r.options.take (i + 1))) (keyEvt) T.und_79 (r.options[i]) rfl rfl rfl ((kvs_put _root_.id (fun _ => Value.bool true) (r.options.take i) r.options[i] (hit_none h31n)).trans (by rw [take_succ_of hlt])) ?_
      refine o_nil ?_
      refine q_block ?_
      refine q_then ?_
      refine c_region ?_
      refine o_v rfl (v_add rfl rfl ⟨by omega, by omega⟩) ?_
      refine o_v rfl (v_move rfl) ?_
      refine o_nil ?_
      refine q_then ?_
      refine bring1 ?_
      refine sx_drop ?_
      exact q_next (i + 1) ⟨by omega, allP_succ hn hlt (show optFine (r.options.take i) r.options[i] = true from (congrArg not h31).trans rfl)⟩ (by omega) rfl ⟨rfl, rfl, rfl, rfl, rfl, trivial⟩ rfl
   ·have p21 := h21
    try simp only [bO] at p21
    refine c_exit ?_
    refine q_then_exit ?_
    refine q_then_exit ?_
    refine q_block_eq ?_
    refine q_then ?_
    refine c_seq ?_
    refine c_region ?_
    refine o_v rfl (v_assign rfl) ?_
    refine o_nil ?_
    refine q_then ?_
    refine c_ret ?_
    refine fin1 rfl rfl ?_
    have e : i = r.options.length := (by omega)
    subst e
    exact q_v (congrArg Value.bool (by simp only [validRep, hn, h15]; rfl))

theorem repChoices (I : IMap) (r : Rep) (S : Option Addr) (d : Nat) (hr : RdS I (.slice S r.options.length d) r.options) (hs : ∀ e ∈ r.options, SmE e) :
    FnV Tryz.prog 41 #[.agg (r.cells (.slice S r.options.length d)).toArray] I (.int .i64 (chs r)) := by
 have hl5 := hr.lenLe
 refine enter Tryz.func41 Tryz.call41 rfl Tryz.ntmps41 rfl (fun w0 => ?_)
 refine c_seq ?_
 refine c_region ?_
 refine o_cons ?_
 refine o_box _ rfl rfl rfl (fun g1 => ?_)
 refine o_v rfl (v_assign rfl) ?_
 refine o_nil ?_
 refine q_then ?_
 refine c_seq ?_
 refine c_block ?_
 refine c_seq ?_
 refine c_region ?_
 refine o_v rfl (v_ldw m0 T.ty_37 rfl rfl) ?_
 refine o_cons ?_
 refine o_callV (repValid _ r S d hr hs) rfl rfl ?_
 refine o_v rfl (v_not rfl) ?_
 refine o_v rfl (v_assign rfl) ?_
 refine o_nil ?_
 refine q_then ?_
 refine c_cond rfl (fun h3 => ?_) (fun h3 => ?_)
 ·have p3 := h3
  try simp only [bO] at p3
  refine c_seq ?_
  refine c_region ?_
  refine o_v rfl (v_assign rfl) ?_
  refine o_nil ?_
  refine q_then ?_
  refine c_ret ?_
  refine q_block_ret ?_
  refine q_then_ret ?_
  refine fin1 rfl rfl ?_
  exact q_v (congrArg (Value.int .i64) (by simp only [chs, show validRep r = false by simpa using h3, Bool.true_eq_false, Bool.false_eq_true, if_true, if_false]))
 ·have p3 := h3
  try simp only [bO] at p3
  have hl4 := validRep_len (r := r) (by simpa using h3)
  refine c_seq ?_
  refine c_region ?_
  refine o_v rfl (v_fieldAddr T.fld_37_1 rfl) ?_
  refine o_v rfl (v_ld m0 T.ty_4 rfl rfl) ?_
  refine o_v rfl (v_assign rfl) ?_
  refine o_nil ?_
  refine q_then ?_
  refine c_cond rfl (fun h7 => ?_) (fun h7 => ?_)
  ·have p7 := h7
   try simp only [bO] at p7
   refine c_seq ?_
   refine c_region ?_
   refine o_v rfl (v_fieldAddr T.fld_37_0 rfl) ?_
   refine o_v rfl (v_ld m0 T.ty_35 rfl rfl) ?_
   refine o_v rfl (v_len_slice T.und_35 rfl) ?_
   refine o_v rfl (v_add rfl rfl ⟨by omega, by have := hl4; omega⟩) ?_
   refine o_v rfl (v_assign rfl) ?_
   refine o_nil ?_
   refine q_then ?_
   refine c_ret ?_
   refine q_block_ret ?_
   refine q_then_ret ?_
   refine fin1 rfl rfl ?_
   exact q_v (congrArg (Value.int .i64) (by simp only [chs, show validRep r = true by simpa using h3, h7, Bool.true_eq_false, Bool.false_eq_true, if_true, if_false]))
  ·have p7 := h7
   try simp only [bO] at p7
   refine c_skip ?_
   refine q_block ?_
   refine q_then ?_
   refine c_seq ?_
   refine c_region ?_
   refine o_v rfl (v_fieldAddr T.fld_37_0 rfl) ?_
   refine o_v rfl (v_ld m0 T.ty_35 rfl rfl) ?_
   refine o_v rfl (v_len_slice T.und_35 rfl) ?_
   refine o_v rfl (v_assign rfl) ?_
   refine o_nil ?_
   refine q_then ?_
   refine c_ret ?_
   refine fin1 rfl rfl ?_
   exact q_v (congrArg (Value.int .i64) (by simp only [chs, show validRep r = true by simpa using h3, h7, Bool.true_eq_false, Bool.false_eq_true, if_true, if_false]))

theorem hiGiven (I : IMap) (vc : Value) (c : List Kind) (hvc : RdS I vc c) (hsc : SmC c) (v : Value) (l : List Rep) (hv : RdS I v l) (hsl : ∀ r ∈ l, ∀ e ∈ r.options, SmE e) (w : Value) (ch : List Int) (hw : RdS I w ch) (n : Int) :
    FnV Tryz.prog 27 #[.agg #[vc], v, w, .int .i64 n] I (.bool (givenF c l ch n)) := by
 obtain ⟨A, c0, rfl, hA, hc, hm⟩ := hv
 obtain ⟨B, c1, rfl, hB, hc1, hm1⟩ := hw
 refine enter Tryz.func27 Tryz.call27 rfl Tryz.ntmps27 rfl (fun w0 => ?_)
 refine c_seq ?_
 refine c_region ?_
 refine o_cons ?_
 refine o_box _ rfl rfl rfl (fun g4 => ?_)
 refine o_v rfl (v_assign rfl) ?_
 refine o_nil ?_
 refine q_then ?_
 refine c_seq ?_
 refine c_seq ?_
 refine c_cut (I' := I) (L' := [(4, .pointer (some ⟨g4, 0, none⟩)), (1, .slice A l.length c0), (2, .slice B ch.length c1), (3, .int .i64 n), (21, .bool (!validC c || !decide (((ch.length : Nat) : Int) = (l.length : Nat))))]) (H' := [.blk g4 24 [vc]]) ?_ ?_
 ·refine c_region ?_
  refine o_v rfl (v_ldw m0 T.ty_24 rfl rfl) ?_
  refine o_cons ?_
  refine o_callV (catValid _ vc c hvc hsc) rfl rfl ?_
  refine o_v rfl (v_not rfl) ?_
  refine o_v rfl (v_move rfl) ?_
  refine sx_split 15 rfl (fun h15 => ?_) (fun h15 => ?_)
  ·have p15 := h15
   try simp only [bO] at p15
   refine o_cons (o_no rfl rfl h15 rfl ?_)
   refine o_cons (o_no rfl rfl h15 rfl ?_)
   refine o_cons (o_no rfl rfl h15 rfl ?_)
   refine o_cons (o_no rfl rfl h15 rfl ?_)
   refine o_cons (o_no rfl rfl h15 rfl ?_)
   refine o_v rfl (v_or_t h15 rfl) ?_
   refine o_nil ?_
   refine q_then ?_
   exact q_cut ⟨rfl, rfl, rfl, rfl, (congrArg (fun b => some (Value.bool b)) (by simp only [h15, bS])), trivial⟩ rfl rfl
  ·have p15 := h15
   try simp only [bO] at p15
   refine o_cons (o_yes rfl rfl h15 (o_val rfl (v_move rfl) ?_))
   refine o_cons (o_yes rfl rfl h15 (o_val rfl (v_len_slice T.und_26 rfl) ?_))
   refine o_cons (o_yes rfl rfl h15 (o_val rfl (v_move rfl) ?_))
   refine o_cons (o_yes rfl rfl h15 (o_val rfl (v_len_slice T.und_25 rfl) ?_))
   refine o_cons (o_yes rfl rfl h15 (o_val rfl (v_neq rfl rfl) ?_))
   refine o_v rfl (v_or_f h15 rfl rfl) ?_
   refine o_nil ?_
   refine q_then ?_
   exact q_cut ⟨rfl, rfl, rfl, rfl, (congrArg (fun b => some (Value.bool b)) (by simp only [h15, bS])), trivial⟩ rfl rfl
 ·refine c_cond rfl (fun h21 => ?_) (fun h21 => ?_)
  ·have p21 := h21
   try simp only [bO] at p21
   refine c_seq ?_
   refine c_region ?_
   refine o_v rfl (v_assign rfl) ?_
   refine o_nil ?_
   refine q_then ?_
   refine c_ret ?_
   refine q_then_ret ?_
   refine fin1 rfl rfl ?_
   exact q_v (congrArg Value.bool (by simp only [givenF, h21]; rfl))
  ·have p21 := h21
   try simp only [bO] at p21
   have hlc : ch.length = l.length := by revert h21; simp; omega
   refine c_skip ?_
   refine q_then ?_
   refine c_seq ?_
   refine c_seq ?_
   refine c_region ?_
   refine o_v rfl (v_move rfl) ?_
   refine o_v rfl (v_len_slice T.und_25 rfl) ?_
   refine o_v rfl (v_move rfl) ?_
   refine o_nil ?_
   refine q_then ?_
   refine c_block ?_
   refine c_loop (α := Nat) 0 (fun i => I)
    (fun i => [(4, .pointer (some ⟨g4, 0, none⟩)), (1, .slice A l.length c0), (2, .slice B ch.length c1), (3, .int .i64 n), (22, .slice A l.length c0), (23, .int .i64 ((l.length : Nat) : Int)), (24, .int .i64 ((i : Nat) : Int))])
    (fun i => [.blk g4 24 [vc]])
    (fun i => i ≤ l.length ∧ allTo (chFine n) l ch i = true)
    (fun i => l.length - i) ⟨Nat.zero_le _, rfl⟩ rfl ⟨rfl, rfl, rfl, rfl, rfl, rfl, rfl, trivial⟩ rfl ?_
   intro i ⟨hi, hn⟩
   refine c_seq ?_
   refine c_region ?_
   refine o_v rfl (v_lss rfl rfl) ?_
   refine o_nil ?_
   refine q_then ?_
   refine c_seq ?_
   refine c_cond rfl (fun h25 => ?_) (fun h25 => ?_)
   ·have p25 := h25
    try simp only [bO] at p25
    have hlt : i < l.length := by omega
    have hlt2 : i < ch.length := by omega
    refine c_skip ?_
    refine q_then ?_
    refine c_seq ?_
    refine c_block ?_
    refine c_seq ?_
    refine c_region ?_
    refine o_v rfl (v_move rfl) ?_
    obtain ⟨b27, o27, w27, e27, c27, r27⟩ := RdA.at_ hA (i := i) hlt
    obtain ⟨q27, rfl, S27, d27, rfl, hS27, hd27, hm27⟩ := r27
    refine o_v rfl (v_idx T.elt_25 rfl rfl e27 (i) (by omega) hlt) ?_
    refine o_v rfl (v_ldIa T.ty_37 rfl c27 rfl) ?_
    refine o_cons ?_
    refine o_alloc T.zero_37 rfl (fun g10 => ?_)
    refine o_v rfl (v_assign rfl) ?_
    refine o_cons ?_
    refine o_stw _ T.ty_37 rfl rfl rfl rfl rfl rfl ?_
    refine o_nil ?_
    refine q_then ?_
    refine c_seq ?_
    refine c_region ?_
    refine o_v rfl (v_ldw m0 T.ty_37 rfl rfl) ?_
    refine o_cons ?_
    refine o_callV (repChoices _ l[i] S27 d27 ⟨_, _, rfl, hS27, hd27, hm27⟩ (hsl _ (List.getElem_mem hlt))) rfl rfl ?_
    refine o_v rfl (v_assign rfl) ?_
    refine o_nil ?_
    refine q_then ?_
    refine c_seq ?_
    refine c_cut (I' := I) (L' := [(4, .pointer (some ⟨g4, 0, none⟩)), (1, .slice A l.length c0), (2, .slice B ch.length c1), (3, .int .i64 n), (22, .slice A l.length c0), (23, .int .i64 ((l.length : Nat) : Int)), (24, .int .i64 ((i : Nat) : Int)), (48, .bool ((decide (chs l[i] = 0) || decide (ch[i] < n)) || decide (chs l[i] ≤ ch[i])))]) (H' := [.blk g4 24 [vc]]) ?_ ?_
    ·refine c_region ?_
     refine o_v rfl (v_move rfl) ?_
     refine o_v rfl (v_eql rfl rfl) ?_
     refine o_v rfl (v_move rfl) ?_
     refine sx_split 33 rfl (fun h33 => ?_) (fun h33 => ?_)
     ·have p33 := h33
      try simp only [bO] at p33
      refine o_cons (o_no rfl rfl h33 rfl ?_)
      refine o_cons (o_no rfl rfl h33 rfl ?_)
      refine o_cons (o_no rfl rfl h33 rfl ?_)
      refine o_cons (o_no rfl rfl h33 rfl ?_)
      refine o_cons (o_no rfl rfl h33 rfl ?_)
      refine o_cons (o_no rfl rfl h33 rfl ?_)
      refine o_v rfl (v_or_t h33 rfl) ?_
      refine o_v rfl (v_move rfl) ?_
      refine o_cons (o_no rfl rfl rfl rfl ?_)
      refine o_cons (o_no rfl rfl rfl rfl ?_)
      refine o_cons (o_no rfl rfl rfl rfl ?_)
      refine o_cons (o_no rfl rfl rfl rfl ?_)
      refine o_cons (o_no rfl rfl rfl rfl ?_)
      refine o_cons (o_no rfl rfl rfl rfl ?_)
      refine o_v rfl (v_or_t rfl rfl) ?_
      refine o_nil ?_
      refine q_then ?_
      refine sx_drop ?_
      exact q_cut ⟨rfl, rfl, rfl, rfl, rfl, rfl, rfl, (congrArg (fun b => some (Value.bool b)) (by simp only [h25, h33, bS])), trivial⟩ rfl rfl
     ·have p33 := h33
      try simp only [bO] at p33
      refine o_cons (o_yes rfl rfl h33 (o_val rfl (v_move rfl) ?_))
      refine o_cons (o_yes rfl rfl h33 (o_val rfl (v_move rfl) ?_))
      obtain ⟨b36, o36, w36, e36, c36, r36⟩ := RdA.at_ hB (i := i) hlt2
      obtain rfl := r36
      refine o_cons (o_yes rfl rfl h33 (o_val rfl (v_idx T.elt_26 rfl rfl e36 (i) (by omega) hlt2) ?_))
      refine o_cons (o_yes rfl rfl h33 (o_val rfl (v_ldI T.ty_3 rfl (c36 0 _ rfl)) ?_))
      refine o_cons (o_yes rfl rfl h33 (o_val rfl (v_move rfl) ?_))
      refine o_cons (o_yes rfl rfl h33 (o_val rfl (v_lss rfl rfl) ?_))
      refine o_v rfl (v_or_f h33 rfl rfl) ?_
      refine o_v rfl (v_move rfl) ?_
      refine sx_split 41 rfl (fun h41 => ?_) (fun h41 => ?_)
      ·have p41 := h41
       try simp only [bO] at p41
       refine o_cons (o_no rfl rfl h41 rfl ?_)
       refine o_cons (o_no rfl rfl h41 rfl ?_)
       refine o_cons (o_no rfl rfl h41 rfl ?_)
       refine o_cons (o_no rfl rfl h41 rfl ?_)
       refine o_cons (o_no rfl rfl h41 rfl ?_)
       refine o_cons (o_no rfl rfl h41 rfl ?_)
       refine o_v rfl (v_or_t h41 rfl) ?_
       refine o_nil ?_
       refine q_then ?_
       refine sx_drop ?_
       exact q_cut ⟨rfl, rfl, rfl, rfl, rfl, rfl, rfl, (congrArg (fun b => some (Value.bool b)) (by simp only [h25, h33, h41, bS])), trivial⟩ rfl rfl
      ·have p41 := h41
       try simp only [bO] at p41
       refine o_cons (o_yes rfl rfl h41 (o_val rfl (v_move rfl) ?_))
       refine o_cons (o_yes rfl rfl h41 (o_val rfl (v_move rfl) ?_))
       obtain ⟨b44, o44, w44, e44, c44, r44⟩ := RdA.at_ hB (i := i) hlt2
       obtain rfl := r44
       refine o_cons (o_yes rfl rfl h41 (o_val rfl (v_idx T.elt_26 rfl rfl e44 (i) (by omega) hlt2) ?_))
       refine o_cons (o_yes rfl rfl h41 (o_val rfl (v_ldI T.ty_3 rfl (c44 0 _ rfl)) ?_))
       refine o_cons (o_yes rfl rfl h41 (o_val rfl (v_move rfl) ?_))
       refine o_cons (o_yes rfl rfl h41 (o_val rfl (v_geq rfl rfl) ?_))
       refine o_v rfl (v_or_f h41 rfl rfl) ?_
       refine o_nil ?_
       refine q_then ?_
       refine sx_drop ?_
       exact q_cut ⟨rfl, rfl, rfl, rfl, rfl, rfl, rfl, (congrArg (fun b => some (Value.bool b)) (by simp only [h25, h33, h41, bS])), trivial⟩ rfl rfl
    ·refine c_cond rfl (fun h48 => ?_) (fun h48 => ?_)
     ·have p48 := h48
      try simp only [bO] at p48
      refine c_seq ?_
      refine c_region ?_
      refine o_v rfl (v_assign rfl) ?_
      refine o_nil ?_
      refine q_then ?_
      refine c_ret ?_
      refine q_block_ret ?_
      refine q_then_ret ?_
      refine q_then_ret ?_
      refine q_block_ret ?_
      refine q_then_ret ?_
      refine fin1 rfl rfl ?_
      exact q_v (congrArg Value.bool (by simp only [givenF, h21, allTo_not (f := chFine n) hlt hlt hlt2 (by simp only [chFine, h48]; rfl), bS]))
     ·have p48 := h48
      try simp only [bO] at p48
      refine c_skip ?_
      refine q_block ?_
      refine q_then ?_
      refine c_region ?_
      refine o_v rfl (v_add rfl rfl ⟨by omega, by omega⟩) ?_
      refine o_v rfl (v_move rfl) ?_
      refine o_nil ?_
      refine q_then ?_
      exact q_next (i + 1) ⟨by omega, allTo_succ hn hlt hlt2 (by simp only [chFine, h48]; rfl)⟩ (by omega) rfl ⟨rfl, rfl, rfl, rfl, rfl, rfl, rfl, trivial⟩ rfl
   ·have p25 := h25
    try simp only [bO] at p25
    refine c_exit ?_
    refine q_then_exit ?_
    refine q_then_exit ?_
    refine q_block_eq ?_
    refine q_then ?_
    refine c_seq ?_
    refine c_region ?_
    refine o_v rfl (v_assign rfl) ?_
    refine o_nil ?_
    refine q_then ?_
    refine c_ret ?_
    refine fin1 rfl rfl ?_
    have e : i = l.length := (by omega)
    subst e
    exact q_v (congrArg Value.bool (by simp only [givenF, hn, h21]; rfl))

theorem hiDays (I : IMap) (A B : Option Addr) (a c b d : Nat) :
    FnI Tryz.prog 34 #[.slice A a c, .slice B b d] I (fun u J => ∃ g2 g3, u = .func (.func 54) #[] #[.pointer (some ⟨g2, 0, none⟩), .pointer (some ⟨g3, 0, none⟩)] ∧ ICells J g2 0 [.slice A a c] ∧ ICells J g3 0 [.slice B b d]) := by
 refine enter Tryz.func34 Tryz.call34 rfl Tryz.ntmps34 rfl (fun w0 => ?_)
 refine c_seq ?_
 refine c_region ?_
 refine o_cons ?_
 refine o_box _ rfl rfl rfl (fun g2 => ?_)
 refine o_cons ?_
 refine o_box _ rfl rfl rfl (fun g3 => ?_)
 refine o_v rfl (v_assign rfl) ?_
 refine o_nil ?_
 refine q_then ?_
 refine c_seq ?_
 refine c_region ?_
 refine bring1 ?_
 refine sx_pub (fun Ig2 jg2 cg2 => ?_)
 refine sx_pub (fun Ig3 jg3 cg3 => ?_)
 have cg2 := (cg2).le jg3
 refine o_v rfl (v_makeFunc rfl rfl) ?_
 refine o_v rfl (v_assign rfl) ?_
 refine o_nil ?_
 refine q_then ?_
 refine c_ret ?_
 refine fin1 rfl rfl ?_
 exact q_i ⟨_, _, rfl, cg2, cg3⟩

theorem daysIt (I : IMap) (v : Value) (l : List Rep) (hv : RdS I v l) (w : Value) (ch : List Int) (hw : RdS I w ch) (hlc : ch.length = l.length) (g2 g3 : Nat) (c2 : ICells I g2 0 [v]) (c3 : ICells I g3 0 [w]) :
    FnIt Tryz.prog 54 [.pointer (some ⟨g2, 0, none⟩), .pointer (some ⟨g3, 0, none⟩)] I (fun _ vs (x : Int) => vs = [ci x]) (fun pre x => pre ++ [x] <+: openDays l ch l.length) (fun pre => pre = openDays l ch l.length) (fun _ => True) := by
 obtain ⟨A, c0, rfl, hA, hc, hm⟩ := hv
 obtain ⟨B, c1, rfl, hB, hc1, hm1⟩ := hw
 intro ly J I1 Hc hI1 hJm hY hJ0
 have hA := hA.le hI1
 have hB := hB.le hI1
 have c2 := c2.le hI1
 have c3 := c3.le hI1
 refine enter Tryz.func54 Tryz.call54 rfl Tryz.ntmps54 rfl (fun w0 => ?_)
 refine c_seq ?_
 refine c_region ?_
 refine o_v rfl (v_ldI T.ty_25 rfl (c2 0 _ rfl)) ?_
 refine o_v rfl (v_len_slice T.und_25 rfl) ?_
 refine o_v rfl (v_move rfl) ?_
 refine o_nil ?_
 refine q_then ?_
 refine c_block ?_
 refine c_loop3 ((0 : Nat)) (I1) (Hc) (fun i I2 Hc => I2)
  (fun i I2 Hc => [(0, .func (.yield ly) #[] #[]), (1, .pointer (some ⟨g2, 0, none⟩)), (2, .pointer (some ⟨g3, 0, none⟩)), (8, .slice A l.length c0), (9, .int .i64 ((l.length : Nat) : Int)), (10, .int .i64 ((i : Nat) : Int))])
  (fun i I2 Hc => Hc)
  (fun i I2 Hc => i ≤ l.length ∧ ILe I1 I2 ∧ J true (openDays l ch i) I2 Hc)
  (fun i I2 Hc => l.length - i) ⟨Nat.zero_le _, ILe.refl _, hJ0⟩ rfl ⟨rfl, rfl, rfl, rfl, rfl, rfl, trivial⟩ rfl ?_
 intro i I2 Hc ⟨hi, hI2, hJ⟩
 have hA := hA.le hI2
 have hB := hB.le hI2
 have c3 := c3.le hI2
 refine c_seq ?_
 refine c_region ?_
 refine o_v rfl (v_lss rfl rfl) ?_
 refine o_nil ?_
 refine q_then ?_
 refine c_seq ?_
 refine c_cond rfl (fun h11 => ?_) (fun h11 => ?_)
 ·have p11 := h11
  try simp only [bO] at p11
  have hlt : i < l.length := by omega
  have hlt2 : i < ch.length := by omega
  refine c_skip ?_
  refine q_then ?_
  refine c_seq ?_
  refine c_block ?_
  refine c_seq ?_
  refine c_region ?_
  refine o_v rfl (v_move rfl) ?_
  obtain ⟨b13, o13, w13, e13, c13, r13⟩ := RdA.at_ hA (i := i) hlt
  obtain ⟨q13, rfl, S13, d13, rfl, hS13, hd13, hm13⟩ := r13
  refine o_v rfl (v_idx T.elt_25 rfl rfl e13 (i) (by omega) hlt) ?_
  refine o_v rfl (v_ldIa T.ty_37 rfl c13 rfl) ?_
  refine o_cons ?_
  refine o_alloc T.zero_37 rfl (fun g5 => ?_)
  refine o_v rfl (v_assign rfl) ?_
  refine o_cons ?_
  refine o_stw _ T.ty_37 rfl rfl rfl rfl rfl rfl ?_
  refine o_nil ?_
  refine q_then ?_
  refine c_seq ?_
  refine c_region ?_
  refine o_v rfl (v_fieldAddr T.fld_37_0 rfl) ?_
  refine o_v rfl (v_ld m0 T.ty_35 rfl rfl) ?_
  refine o_v rfl (v_len_slice T.und_35 rfl) ?_
  refine o_v rfl (v_move rfl) ?_
  refine o_nil ?_
  refine q_then ?_
  refine c_block ?_
  refine c_loop3 ((0 : Nat)) (I2) (Hc) (fun j I3 Hc3 => I3)
   (fun j I3 Hc3 => [(0, .func (.yield ly) #[] #[]), (1, .pointer (some ⟨g2, 0, none⟩)), (2, .pointer (some ⟨g3, 0, none⟩)), (8, .slice A l.length c0), (9, .int .i64 ((l.length : Nat) : Int)), (10, .int .i64 ((i : Nat) : Int)), (4, .int .i64 ((i : Nat) : Int)), (5, .pointer (some ⟨g5, 0, none⟩)), (16, .slice S13 l[i].options.length d13), (17, .int .i64 ((l[i].options.length : Nat) : Int)), (18, .int .i64 ((j : Nat) : Int))])
   (fun j I3 Hc3 => .blk g5 37 (l[i].cells (.slice S13 l[i].options.length d13)) :: Hc3)
   (fun j I3 Hc3 => j ≤ l[i].options.length ∧ ILe I2 I3 ∧ J true (openTo l ch i j) I3 Hc3)
   (fun j I3 Hc3 => l[i].options.length - j) ⟨Nat.zero_le _, ILe.refl _, by rw [openTo_zero]; exact hJ⟩ rfl ⟨rfl, rfl, rfl, rfl, rfl, rfl, rfl, rfl, rfl, rfl, rfl, trivial⟩ rfl ?_
  intro j I3 Hc3 ⟨hj, hI3, hJ3⟩
  have hB := hB.le hI3
  have c3 := c3.le hI3
  have hS13 := hS13.le hI3
  refine c_seq ?_
  refine c_region ?_
  refine o_v rfl (v_lss rfl rfl) ?_
  refine o_nil ?_
  refine q_then ?_
  refine c_seq ?_
  refine c_cond rfl (fun h19 => ?_) (fun h19 => ?_)
  ·have p19 := h19
   try simp only [bO] at p19
   have hlj : j < l[i].options.length := by omega
   refine c_skip ?_
   refine q_then ?_
   refine c_seq ?_
   refine c_block ?_
   refine c_seq ?_
   refine c_region ?_
   obtain ⟨b20, o20, w20, e20, c20, r20⟩ := RdA.at_ hS13 (i := j) hlj
   obtain rfl := r20
   refine o_v rfl (v_idx T.elt_35 rfl rfl e20 (j) (by omega) hlj) ?_
   refine o_v rfl (v_ldIa T.ty_53 rfl c20 rfl) ?_
   refine o_cons ?_
   refine o_alloc T.zero_53 rfl (fun g7 => ?_)
   refine o_cons ?_
   refine o_stw _ T.ty_53 rfl rfl rfl rfl rfl rfl ?_
   refine o_nil ?_
   refine q_then ?_
   refine c_seq ?_
   refine c_region ?_
   refine o_v rfl (v_ldI T.ty_26 rfl (c3 0 _ rfl)) ?_
   refine o_v rfl (v_move rfl) ?_
   obtain ⟨b24, o24, w24, e24, c24, r24⟩ := RdA.at_ hB (i := i) hlt2
   obtain rfl := r24
   refine o_v rfl (v_idx T.elt_26 rfl rfl e24 (i) (by omega) hlt2) ?_
   refine o_v rfl (v_ldI T.ty_3 rfl (c24 0 _ rfl)) ?_
   refine o_v rfl (v_lss rfl rfl) ?_
   refine o_v rfl (v_move rfl) ?_
   refine sx_split 27 rfl (fun h27 => ?_) (fun h27 => ?_)
   ·have p27 := h27
    try simp only [bO] at p27
    refine o_cons (o_yes rfl rfl h27 (o_val rfl (v_move rfl) ?_))
    refine o_cons (o_yes rfl rfl h27 (o_val rfl (v_fieldAddr T.fld_53_1 rfl) ?_))
    refine o_cons (o_yes rfl rfl h27 (o_val rfl (v_ld m0 T.ty_3 rfl rfl) ?_))
    refine o_cons ?_
    refine o_yes rfl rfl h27 (o_yield2 (l[i].options[j].day) hY (hJm _ _ _ _ _ (ILe.refl _) hJ3) (rfl) (openTo_pre hlt hlt2 p27 hlj) rfl rfl rfl (fun b31 I31 Hc31 j31 hJ31 => ?_))
    refine o_cons (o_yes rfl rfl h27 (o_val rfl (v_not rfl) ?_))
    refine o_v rfl (v_and_t h27 rfl rfl) ?_
    refine o_nil ?_
    refine q_then ?_
    refine c_cond rfl (fun h33 => ?_) (fun h33 => ?_)
    ·have p33 := h33
     try simp only [bO] at p33
     have hb31 : b31 = false := by simpa using h33
     refine c_ret ?_
     refine q_block_ret ?_
     refine q_then_ret ?_
     refine q_then_ret ?_
     refine q_block_ret ?_
     refine q_block_ret ?_
     refine q_then_ret ?_
     refine q_then_ret ?_
     refine q_block_ret ?_
     refine fin0 rfl ?_
     refine sx_drop ?_
     refine sx_drop ?_
     subst hb31
     exact q_it false _ hJ31 trivial
    ·have p33 := h33
     try simp only [bO] at p33
     have hb31 : b31 = true := by simpa using h33
     refine c_skip ?_
     refine q_block ?_
     refine q_then ?_
     refine c_region ?_
     refine o_v rfl (v_add rfl rfl ⟨by omega, by omega⟩) ?_
     refine o_v rfl (v_move rfl) ?_
     refine o_nil ?_
     refine q_then ?_
     refine sx_drop ?_
     exact q_next3 (j + 1) (I31) (Hc31) ⟨by omega, hI3.trans j31, by rw [openTo_step hlt hlt2 p27 hlj]; exact hb31 ▸ hJ31⟩ (by omega) rfl ⟨rfl, rfl, rfl, rfl, rfl, rfl, rfl, rfl, rfl, rfl, rfl, trivial⟩ rfl
   ·have p27 := h27
    try simp only [bO] at p27
    refine o_cons (o_no rfl rfl h27 rfl ?_)
    refine o_cons (o_no rfl rfl h27 rfl ?_)
    refine o_cons (o_no rfl rfl h27 rfl ?_)
    refine o_cons (o_no rfl rfl h27 rfl ?_)
    refine o_cons (o_no rfl rfl h27 rfl ?_)
    refine o_v rfl (v_and_f h27 rfl) ?_
    refine o_nil ?_
    refine q_then ?_
    refine c_false rfl ?_
    refine c_skip ?_
    refine q_block ?_
    refine q_then ?_
    refine c_region ?_
    refine o_v rfl (v_add rfl rfl ⟨by omega, by omega⟩) ?_
    refine o_v rfl (v_move rfl) ?_
    refine o_nil ?_
    refine q_then ?_
    refine sx_drop ?_
    exact q_next3 (j + 1) (I3) (Hc3) ⟨by omega, hI3, by rw [openTo_skip hlt hlt2 p27 j]; exact hJ3⟩ (by omega) rfl ⟨rfl, rfl, rfl, rfl, rfl, rfl, rfl, rfl, rfl, rfl, rfl, trivial⟩ rfl
  ·have p19 := h19
   try simp only [bO] at p19
   refine c_exit ?_
   refine q_then_exit ?_
   refine q_then_exit ?_
   refine q_block_eq ?_
   refine q_block ?_
   refine q_then ?_
   refine c_region ?_
   refine o_v rfl (v_add rfl rfl ⟨by omega, by omega⟩) ?_
   refine o_v rfl (v_move rfl) ?_
   refine o_nil ?_
   refine q_then ?_
   refine sx_drop ?_
   exact q_next3 (i + 1) (I3) (Hc3) ⟨by omega, hI2.trans hI3, by rw [← openTo_all hlt hlt2]; exact (show j = l[i].options.length by omega) ▸ hJ3⟩ (by omega) rfl ⟨rfl, rfl, rfl, rfl, rfl, rfl, trivial⟩ rfl
 ·have p11 := h11
  try simp only [bO] at p11
  have hil : i = l.length := by omega
  refine c_exit ?_
  refine q_then_exit ?_
  refine q_then_exit ?_
  refine q_block_eq ?_
  refine end0 rfl ?_
  exact q_it true _ hJ (by rw [hil]; rfl)

end Go.Proofs.YtkmdojpfccjnoaaGreat
