/- Walks, printed by a program out of the code of the functions: each theorem is a contract of one function. -/
import Derived.Test.YtechmdlbpbpkdaaGreatW11
import Derived.Test.YtechmdlbpbpkdaaGreatM12
namespace Go.Proofs.YtechmdlbpbpkdaaGreat
open Go Go.Sx
set_option linter.all false
set_option maxRecDepth 20000
set_option maxHeartbeats 4000000
theorem T.ty_25 : tyK Tryz.prog 25 = some (false, 1) := by kernel_rfl
theorem T.ty_31 : tyK Tryz.prog 31 = some (false, 1) := by kernel_rfl
theorem T.zero_3 : zeroK Tryz.prog 3 = some [.int .i64 0] := by kernel_rfl
theorem T.zero_31 : zeroK Tryz.prog 31 = some [.int .i64 0] := by kernel_rfl
theorem deleteFunc_Evt (I : IMap) (v : Value) (l : List Evt) (hl : l.length ≤ 1000000) (f : FuncId) (cs : List Value) (p : Evt → Bool) (hp : ∀ I2, ILe I I2 → ∀ x : Evt, FnV Tryz.prog f ([Value.agg (Day.ch x).toArray] ++ cs).toArray I2 (.bool (p x))) :
    FnD Tryz.prog 21 #[v, .func (.func f) #[] cs.toArray] I (.row v 58 14 l.length (evCh l).flatten) (fun u J => RdS J u (l.filter fun x => !p x)) := by
 refine enter Tryz.func21 Tryz.call21 rfl Tryz.ntmps21 rfl (fun w0 => ?_)
 refine c_seq ?_
 refine c_region ?_
 refine o_v rfl (v_assign rfl) ?_
 refine o_nil ?_
 refine q_then ?_
 refine c_seq ?_
 refine c_region ?_
 refine o_v rfl (v_move rfl) ?_
 refine o_v rfl (v_move rfl) ?_
 refine o_cons ?_
 refine o_lendV m0 rfl rfl ((evCh_flat l).flat) (fun I2 hI2 hR => indexFunc_Evt I2 _ l hR f cs p (fun x _ vs hx => by cases hx; exact hp I2 hI2 x)) rfl rfl ?_
 refine o_v rfl (v_assign rfl) ?_
 refine o_nil ?_
 refine q_then ?_
 refine c_seq ?_
 refine c_seq ?_
 refine c_region ?_
 refine o_v rfl (v_move rfl) ?_
 refine o_v rfl (v_eql rfl rfl) ?_
 refine o_nil ?_
 refine q_then ?_
 refine c_cond rfl (fun h12 => ?_) (fun h12 => ?_)
 ·have p12 := h12
  try simp only [bO] at p12
  refine c_seq ?_
  refine c_region ?_
  refine o_v rfl (v_move rfl) ?_
  refine o_v rfl (v_assign rfl) ?_
  refine o_nil ?_
  refine q_then ?_
  refine c_ret ?_
  refine q_then_ret ?_
  refine fin1 rfl rfl ?_
  have hall : l.filter (fun x => !p x) = l := by
    rw [List.filter_eq_self]
    intro x hx
    have := idxF_any p l
    rw [show decide (0 ≤ idxF p l) = false from by rw [p12]; rfl] at this
    simpa using List.any_eq_false.1 this.symm x hx
  refine sx_pubrow (l := l) rfl rfl (evCh_flat l).flat (fun J hJ R => ?_)
  exact q_d (by rw [hall]; exact R)
 ·have p12 := h12
  try simp only [bO] at p12
  obtain ⟨i0, hi0, hx0, hp0, hn0⟩ : ∃ (i : Nat) (h : i < l.length), idxF p l = (i : Int) ∧ p l[i] = true ∧ ∀ j x, j < i → l[j]? = some x → p x = false := by
    rcases idxF_find p l with ⟨h1, _⟩ | ⟨i, hi, h1, h2⟩
    · exfalso; have := p12; have : -1 ≤ idxF p l := idxF_ge p l; omega
    · rw [List.find?_eq_some_iff_getElem] at h2
      obtain ⟨h3, k, hk, h4, h5⟩ := h2
      obtain ⟨h6, h7⟩ := idxF_pos h1 hi
      exact ⟨i, hi, h1, h6, h7⟩
  refine sx_row (evCh_ukE l) (evCh_len l) (fun h0 _ => by omega) (fun g cap rest hv hR hcap hmax => ?_)
  subst hv
  have hcap1 : l.length ≤ cap := by omega
  refine c_skip ?_
  refine q_then ?_
  refine c_seq ?_
  refine c_seq ?_
  refine c_region ?_
  refine o_v rfl (v_move rfl) ?_
  refine o_v rfl (OV.cast (u := .int .i64 ((i0 + 1 : Nat) : Int)) (v_add rfl rfl ⟨by omega, by omega⟩) (congrArg (Value.int .i64) (by rw [hx0]; omega))) ?_
  refine o_v rfl (v_assign rfl) ?_
  refine o_nil ?_
  refine q_then ?_
  refine c_block ?_
  refine c_loop3 (i0) (i0 + 1) (l) (fun i j m => I)
   (fun i j m => [(0, .slice (some ⟨g, 0, none⟩) l.length cap), (1, .func (.func f) #[] cs.toArray), (5, .int .i64 ((i : Nat) : Int)), (6, .int .i64 ((j : Nat) : Int))])
   (fun i j m => [.blk g 58 (evCh m ++ rest).flatten])
   (fun i j m => Del p l m i j)
   (fun i j m => l.length - j) (Del.start hi0 hp0 hn0) rfl ⟨rfl, rfl, congrArg (fun z : Int => some (Value.int .i64 z)) hx0, rfl, trivial⟩ rfl ?_
  intro i j m hD
  have hml := hD.len
  have hij := hD.le
  have hjl := hD.hj
  refine c_seq ?_
  refine c_seq ?_
  refine c_region ?_
  refine o_v rfl (v_move rfl) ?_
  refine o_v rfl (v_move rfl) ?_
  refine o_v rfl (v_len_slice T.und_25 rfl) ?_
  refine o_v rfl (v_lss rfl rfl) ?_
  refine o_nil ?_
  refine q_then ?_
  refine c_cond rfl (fun h19 => ?_) (fun h19 => ?_)
  ·have p19 := h19
   try simp only [bO] at p19
   have hlt : j < l.length := by omega
   have hjm : j < m.length := by omega
   have hat := hD.at_ hlt
   refine c_skip ?_
   refine q_then ?_
   refine c_seq ?_
   refine c_block ?_
   refine c_seq ?_
   refine c_region ?_
   refine o_v rfl (v_move rfl) ?_
   refine o_v rfl (v_move rfl) ?_
   refine o_v rfl (v_idx T.elt_25 rfl rfl rfl (j) (by omega) (by omega)) ?_
   refine o_v rfl (v_ldc m0 ((evCh_ukE _).append hR) T.ty_58 rfl (j) (by omega) (evCh_rest hjm)) ?_
   refine o_cons ?_
   refine o_alloc T.zero_58 rfl (fun g7 => ?_)
   refine o_cons ?_
   refine o_stw _ T.ty_58 rfl rfl rfl rfl rfl rfl ?_
   refine o_nil ?_
   refine q_then ?_
   refine c_seq ?_
   refine c_region ?_
   refine o_v rfl (v_move rfl) ?_
   refine o_v rfl (v_ldw m0 T.ty_58 rfl rfl) ?_
   refine o_cons ?_
   refine o_callV (hp _ (ILe.refl _) _) rfl rfl ?_
   refine o_v rfl (v_not rfl) ?_
   refine o_nil ?_
   refine q_then ?_
   refine c_cond rfl (fun h29 => ?_) (fun h29 => ?_)
   ·have p29 := h29
    try simp only [bO] at p29
    refine c_seq ?_
    refine c_region ?_
    refine o_v rfl (v_move rfl) ?_
    refine o_v rfl (v_move rfl) ?_
    refine o_v rfl (v_ldw m0 T.ty_58 rfl rfl) ?_
    refine o_v rfl (v_idx T.elt_25 rfl rfl rfl (i) (by omega) (by omega)) ?_
    refine o_cons ?_
    refine bring1 ?_
    refine o_stc _ (i) ((evCh_ukE _).append hR) T.ty_58 rfl rfl rfl rfl rfl (by omega) (by simp [evCh_len]; omega) ?_
    refine o_nil ?_
    refine q_then ?_
    refine c_region ?_
    refine o_v rfl (v_move rfl) ?_
    refine o_v rfl (OV.cast (u := .int .i64 ((i + 1 : Nat) : Int)) (v_add rfl rfl ⟨by omega, by omega⟩) (congrArg (Value.int .i64) (by omega))) ?_
    refine o_v rfl (v_assign rfl) ?_
    refine o_nil ?_
    refine q_block ?_
    refine q_then ?_
    refine c_region ?_
    refine o_v rfl (v_move rfl) ?_
    refine o_v rfl (OV.cast (u := .int .i64 ((j + 1 : Nat) : Int)) (v_add rfl rfl ⟨by omega, by omega⟩) (congrArg (Value.int .i64) (by omega))) ?_
    refine o_v rfl (v_assign rfl) ?_
    refine o_nil ?_
    refine q_then ?_
    refine bring1 ?_
    refine sx_drop ?_
    exact q_next3 (i + 1) (j + 1) (m.set i l[j]) (hD.keep hlt (by simpa [hat] using p29)) (by omega) rfl ⟨rfl, rfl, rfl, rfl, trivial⟩ (by rw [← evCh_set' _ _ _ (by omega), hat])
   ·have p29 := h29
    try simp only [bO] at p29
    refine c_skip ?_
    refine q_block ?_
    refine q_then ?_
    refine c_region ?_
    refine o_v rfl (v_move rfl) ?_
    refine o_v rfl (OV.cast (u := .int .i64 ((j + 1 : Nat) : Int)) (v_add rfl rfl ⟨by omega, by omega⟩) (congrArg (Value.int .i64) (by omega))) ?_
    refine o_v rfl (v_assign rfl) ?_
    refine o_nil ?_
    refine q_then ?_
    refine sx_drop ?_
    exact q_next3 (i) (j + 1) (m) (hD.skip hlt (by simpa [hat] using p29)) (by omega) rfl ⟨rfl, rfl, rfl, rfl, trivial⟩ rfl
  ·have p19 := h19
   try simp only [bO] at p19
   obtain rfl : j = l.length := by omega
   have hfi : m.take i = l.filter fun x => !p x := by have := hD.fst; rwa [List.take_length] at this
   refine c_exit ?_
   refine q_then_exit ?_
   refine q_then_exit ?_
   refine q_block_eq ?_
   refine q_then ?_
   refine c_seq ?_
   refine c_region ?_
   refine o_v rfl (v_move rfl) ?_
   refine o_v rfl (v_move rfl) ?_
   refine o_v rfl (v_slice_lo T.elt_25 rfl rfl i rfl (by omega)) ?_
   refine o_cons ?_
   refine o_clear i T.und_25 T.by_58 rfl rfl rfl rfl ((evCh_ukE _).append hR) (fun _ => cutA_some (k := 14) (by omega)) (by simp [evCh_len]; omega) ?_
   refine o_nil ?_
   refine q_then ?_
   refine c_seq ?_
   refine c_region ?_
   refine o_v rfl (v_move rfl) ?_
   refine o_v rfl (v_move rfl) ?_
   refine o_v rfl (v_slice_hi T.elt_25 rfl rfl i rfl (by omega)) ?_
   refine o_v rfl (v_assign rfl) ?_
   refine o_nil ?_
   refine q_then ?_
   refine c_ret ?_
   refine fin1 rfl rfl ?_
   have htk : (evCh m ++ rest).take i = evCh (l.filter fun x => !p x) := by rw [List.take_append_of_le_length (by rw [evCh_len]; omega), ← hfi, evCh, evCh, List.map_take]
   have hll : (l.filter fun x => !p x).length = i := by rw [← hfi, List.length_take]; omega
   rw [htk]
   refine sx_unrow (m := i) (cap := cap) (evCh_ukE _) ((Uk.rep (c := [.int .i64 0, .int .i64 0, .string ⟨#[]⟩, .string ⟨#[]⟩, .string ⟨#[]⟩, .string ⟨#[]⟩, .string ⟨#[]⟩, .string ⟨#[]⟩, .int .i64 0, .int .i64 0, .int .i64 0, .int .i64 0, .int .i64 0, .int .i64 0]) rfl _).append (Uk.drop ((evCh_ukE _).append hR) _)) (by rw [evCh_len, hll]) (by simp [evCh_len]; omega) hmax ?_
   refine sx_pubrow (l := l.filter fun x => !p x) rfl hll.symm (evCh_flat _).flat (fun J hJ R => ?_)
   exact q_d R

theorem afterDay (I : IMap) (x : Evt) (g : Nat) (day : Int) (cg : ICells I g 0 [ci day]) :
    FnV Tryz.prog 23 #[.agg (Day.ch x).toArray, .pointer (some ⟨g, 0, none⟩)] I (.bool (decide (x.day > day))) := by
 refine enter Tryz.func23 Tryz.call23 rfl Tryz.ntmps23 rfl (fun w0 => ?_)
 show SX _ _ _ (argsL [.agg x.cells.toArray, .pointer (some ⟨g, 0, none⟩)] 0) _ _
 refine c_seq ?_
 refine c_region ?_
 refine o_cons ?_
 refine o_box _ rfl rfl rfl (fun g2 => ?_)
 refine o_v rfl (v_assign rfl) ?_
 refine o_nil ?_
 refine q_then ?_
 refine c_seq ?_
 refine c_region ?_
 refine o_v rfl (v_fieldAddr T.fld_58_1 rfl) ?_
 refine o_v rfl (v_ld m0 T.ty_3 rfl rfl) ?_
 refine o_v rfl (v_ldI T.ty_3 rfl (cg 0 _ rfl)) ?_
 refine o_v rfl (v_gtr rfl rfl) ?_
 refine o_v rfl (v_assign rfl) ?_
 refine o_nil ?_
 refine q_then ?_
 refine c_ret ?_
 refine fin1 rfl rfl ?_
 exact q_v rfl

theorem statesIt (I : IMap) (vc : Value) (c : List Kind) (hvc : RdS I vc c) (hsc : SmC c) (v : Value) (l : List Evt) (hv : RdS I v l) (hse : ∀ e ∈ l, SmE e) (g3 g2 : Nat) (c3 : ICells I g3 0 [v]) (c2 : ICells I g2 0 [vc]) :
    FnIt Tryz.prog 31 [.pointer (some ⟨g3, 0, none⟩), .pointer (some ⟨g2, 0, none⟩)] I rdR2 (fun pre x => pre ++ [x] <+: statesF c [] l) (fun pre => pre = statesF c [] l) (fun _ => True) := by
 have hv0 := hv
 obtain ⟨A, c0, rfl, hA, hc, hm⟩ := hv
 intro ly J I1 Hc hI1 hJm hY hJ0
 have hvc := hvc.le hI1
 have hv0 := hv0.le hI1
 have hA := hA.le hI1
 have c3 := c3.le hI1
 have c2 := c2.le hI1
 refine enter Tryz.func31 Tryz.call31 rfl Tryz.ntmps31 rfl (fun w0 => ?_)
 refine c_seq ?_
 refine c_region ?_
 refine o_cons ?_
 refine o_alloc T.zero_30 rfl (fun g4 => ?_)
 refine o_nil ?_
 refine q_then ?_
 refine c_seq ?_
 refine c_region ?_
 refine o_v rfl (v_ldI T.ty_25 rfl (c3 0 _ rfl)) ?_
 refine o_v rfl (v_len_slice T.und_25 rfl) ?_
 refine o_v rfl (v_move rfl) ?_
 refine o_nil ?_
 refine q_then ?_
 refine c_block ?_
 refine c_loop5 (0) ([]) (.slice none 0 0) (I1) (Hc) (fun i st v4 I2 Hc => I2)
  (fun i st v4 I2 Hc => [(0, .func (.yield ly) #[] #[]), (1, .pointer (some ⟨g3, 0, none⟩)), (2, .pointer (some ⟨g2, 0, none⟩)), (4, .pointer (some ⟨g4, 0, none⟩)), (9, .slice A l.length c0), (10, .int .i64 (l.length : Int)), (11, .int .i64 ((i : Nat) : Int))])
  (fun i st v4 I2 Hc => .blk g4 30 [v4] :: Hc)
  (fun i st v4 I2 Hc => i ≤ l.length ∧ ILe I1 I2 ∧ StAt c l i st ∧ J true ((statesF c [] l).take i) I2 Hc ∧ RdS I2 v4 st ∧ SmF st)
  (fun i st v4 I2 Hc => l.length - i) ⟨Nat.zero_le _, ILe.refl _, StAt.zero c l, hJ0, RdS.nil', SmF.nil⟩ rfl ⟨rfl, rfl, rfl, rfl, rfl, rfl, rfl, trivial⟩ rfl ?_
 intro i st v4 I2 Hc ⟨hi, hI2, hSt, hJ, hv4, hsf⟩
 have hvc := hvc.le hI2
 have hA := hA.le hI2
 have c2 := c2.le hI2
 refine c_seq ?_
 refine c_region ?_
 refine o_v rfl (v_lss rfl rfl) ?_
 refine o_nil ?_
 refine q_then ?_
 refine c_seq ?_
 refine c_cond rfl (fun h12 => ?_) (fun h12 => ?_)
 ·have p12 := h12
  try simp only [bO] at p12
  have hlt : i < l.length := by omega
  obtain ⟨hS1, hS2, hS3, hS4⟩ := hSt.step hlt
  refine c_skip ?_
  refine q_then ?_
  refine c_seq ?_
  refine c_block ?_
  refine c_seq ?_
  refine c_region ?_
  obtain ⟨b13, o13, w13, e13, c13, r13⟩ := RdA.at_ hA (i := i) hlt
  obtain rfl := r13
  refine o_v rfl (v_idx T.elt_25 rfl rfl e13 (i) (by omega) hlt) ?_
  refine o_v rfl (v_ldIa T.ty_58 rfl c13 rfl) ?_
  refine o_cons ?_
  refine o_alloc T.zero_58 rfl (fun g6 => ?_)
  refine o_cons ?_
  refine o_stw _ T.ty_58 rfl rfl rfl rfl rfl rfl ?_
  refine o_nil ?_
  refine q_then ?_
  refine c_seq ?_
  refine c_region ?_
  refine o_v rfl (v_ldIa T.ty_24 rfl c2 rfl) ?_
  refine o_v rfl (v_ldw m1 T.ty_30 rfl rfl) ?_
  refine o_v rfl (v_ldw m0 T.ty_58 rfl rfl) ?_
  refine o_cons ?_
  refine o_call (flApply _ vc c hvc hsc v4 st hv4 hsf l[i] (hse _ (List.getElem_mem hlt))) rfl rfl (fun v19 I19 j19 q19 => ?_)
  obtain ⟨w19, rfl, hw19⟩ := q19
  refine o_v rfl (v_move rfl) ?_
  refine o_v rfl (v_extract rfl rfl) ?_
  refine o_v rfl (v_extract rfl rfl) ?_
  refine o_cons ?_
  refine o_alloc T.zero_30 rfl (fun g7 => ?_)
  refine o_cons ?_
  refine o_stw _ T.ty_30 rfl rfl rfl rfl rfl (by simp [RdS.one hw19]) ?_
  refine o_v rfl (v_assign rfl) ?_
  refine o_nil ?_
  refine q_then ?_
  refine c_seq ?_
  refine c_seq ?_
  refine c_region ?_
  refine o_v rfl (v_move rfl) ?_
  refine o_v rfl (v_ldw m0 T.ty_30 rfl rfl) ?_
  refine o_v rfl (v_move rfl) ?_
  refine o_cons ?_
  refine o_yield3 (applyF c st l[i]) hY (hJm _ _ _ _ _ j19 hJ) (⟨_, rfl, hw19⟩) (⟨(statesF c [] l).drop (i + 1), by rw [hS1, List.take_append_drop]⟩) rfl rfl rfl (fun b25 I25 Hc25 j25 hJ25 => ?_)
  have hw19 := hw19.le j25
  refine o_v rfl (v_not rfl) ?_
  refine o_v rfl (v_move rfl) ?_
  refine sx_split 27 rfl (fun h27 => ?_) (fun h27 => ?_)
  ·have p27 := h27
   try simp only [bO] at p27
   refine o_cons (o_no rfl rfl h27 rfl ?_)
   refine o_cons (o_no rfl rfl h27 rfl ?_)
   refine o_v rfl (v_or_t h27 rfl) ?_
   refine o_nil ?_
   refine q_then ?_
   refine c_true rfl ?_
   refine c_ret ?_
   refine q_then_ret ?_
   refine q_block_ret ?_
   refine q_then_ret ?_
   refine q_then_ret ?_
   refine q_block_ret ?_
   refine fin0 rfl ?_
   refine sx_drop ?_
   refine sx_drop ?_
   refine sx_drop ?_
   subst p27
   exact q_it false _ hJ25 trivial
  ·have p27 := h27
   try simp only [bO] at p27
   refine o_cons (o_yes rfl rfl h27 (o_val rfl (v_move rfl) ?_))
   refine o_cons (o_yes rfl rfl h27 (o_val rfl (v_neq rfl rfl) ?_))
   refine o_v rfl (v_or_f h27 rfl rfl) ?_
   refine o_nil ?_
   refine q_then ?_
   refine c_cond rfl (fun h30 => ?_) (fun h30 => ?_)
   ·have p30 := h30
    try simp only [bO] at p30
    refine c_ret ?_
    refine q_then_ret ?_
    refine q_block_ret ?_
    refine q_then_ret ?_
    refine q_then_ret ?_
    refine q_block_ret ?_
    refine fin0 rfl ?_
    refine sx_drop ?_
    refine sx_drop ?_
    refine sx_drop ?_
    subst p27
    exact q_it true _ hJ25 (hS1.trans (hS4 (by simpa using p30)))
   ·have p30 := h30
    try simp only [bO] at p30
    subst p27
    have h0 : (applyF c st l[i]).2 = 0 := by simpa using p30
    have hsm := applyF_sm (c := c) hsf (hse _ (List.getElem_mem hlt))
    refine c_skip ?_
    refine q_then ?_
    refine c_region ?_
    refine o_v rfl (v_ldw m0 T.ty_30 rfl rfl) ?_
    refine o_cons ?_
    refine bring2 ?_
    refine o_stw _ T.ty_30 rfl rfl rfl rfl rfl (by simp [RdS.one hw19]) ?_
    refine o_nil ?_
    refine q_block ?_
    refine q_then ?_
    refine c_region ?_
    refine o_v rfl (v_add rfl rfl ⟨by omega, by omega⟩) ?_
    refine o_v rfl (v_move rfl) ?_
    refine o_nil ?_
    refine q_then ?_
    refine bring1 ?_
    refine sx_drop ?_
    refine bring1 ?_
    refine sx_drop ?_
    exact q_next5 (i + 1) ((applyF c st l[i]).1) (w19) (I25) (Hc25) ⟨by omega, (hI2.trans j19).trans j25, hS3 h0, by rw [← hS1]; exact hJ25, hw19, hsm⟩ (by omega) rfl ⟨rfl, rfl, rfl, rfl, rfl, rfl, rfl, trivial⟩ rfl
 ·have p12 := h12
  try simp only [bO] at p12
  have hil : i = l.length := by omega
  refine c_exit ?_
  refine q_then_exit ?_
  refine q_then_exit ?_
  refine q_block_eq ?_
  refine end0 rfl ?_
  refine sx_drop ?_
  exact q_it true _ hJ (hSt.last (by omega))

theorem statesC (I : IMap) (A : Option Addr) (m k : Nat) (vc : Value) :
    FnI Tryz.prog 18 #[.agg #[vc], .slice A m k] I (fun u J => ∃ g3 g2, u = .func (.func 31) #[] #[.pointer (some ⟨g3, 0, none⟩), .pointer (some ⟨g2, 0, none⟩)] ∧ ICells J g3 0 [.slice A m k] ∧ ICells J g2 0 [vc]) := by
 refine enter Tryz.func18 Tryz.call18 rfl Tryz.ntmps18 rfl (fun w0 => ?_)
 refine c_seq ?_
 refine c_region ?_
 refine o_cons ?_
 refine o_box _ rfl rfl rfl (fun g2 => ?_)
 refine o_cons ?_
 refine o_box _ rfl rfl rfl (fun g3 => ?_)
 refine o_v rfl (v_assign rfl) ?_
 refine o_nil ?_
 refine q_then ?_
 refine c_seq ?_
 refine c_region ?_
 refine sx_pub (fun Ig3 jg3 cg3 => ?_)
 refine sx_pub (fun Ig2 jg2 cg2 => ?_)
 have cg3 := (cg3).le jg2
 refine o_v rfl (v_makeFunc rfl rfl) ?_
 refine o_v rfl (v_assign rfl) ?_
 refine o_nil ?_
 refine q_then ?_
 refine c_ret ?_
 refine fin1 rfl rfl ?_
 exact q_i ⟨_, _, rfl, cg3, cg2⟩

theorem cRun (I : IMap) (vc : Value) (c : List Kind) (hvc : RdS I vc c) (hsc : SmC c) (v : Value) (l : List Evt) (hv : RdS I v l) (hl : l.length ≤ 1000000) (hse : ∀ e ∈ l, SmE e) :
    FnI Tryz.prog 6 #[.agg #[vc], v] I (fun u J => ∃ w, u = .tuple #[.agg #[w], .int .i64 (runF c l).2.1, .int .i64 (runF c l).2.2] ∧ RdS J w (runF c l).1) := by
 refine enter Tryz.func6 Tryz.call6 rfl Tryz.ntmps6 rfl (fun w0 => ?_)
 refine c_seq ?_
 refine c_region ?_
 refine o_cons ?_
 refine o_box _ rfl rfl rfl (fun g2 => ?_)
 refine o_cons ?_
 refine o_alloc T.zero_30 rfl (fun g4 => ?_)
 refine o_cons ?_
 refine o_alloc T.zero_3 rfl (fun g5 => ?_)
 refine o_cons ?_
 refine o_alloc T.zero_31 rfl (fun g6 => ?_)
 refine o_nil ?_
 refine q_then ?_
 refine c_seq ?_
 refine c_seq ?_
 refine c_region ?_
 refine o_v rfl (v_ldw m3 T.ty_24 rfl rfl) ?_
 refine o_cons ?_
 refine o_callV (catValid _ vc c hvc hsc) rfl rfl ?_
 refine o_v rfl (v_not rfl) ?_
 refine o_nil ?_
 refine q_then ?_
 refine c_cond rfl (fun h13 => ?_) (fun h13 => ?_)
 ·have p13 := h13
  try simp only [bO] at p13
  refine c_seq ?_
  refine c_region ?_
  refine o_cons ?_
  refine o_val rfl (v_build (pl := [(0, 1)]) T.zero_30 T.pl_30 rfl rfl) ?_
  refine o_cons ?_
  refine bring2 ?_
  refine o_stw _ T.ty_30 rfl rfl rfl rfl rfl rfl ?_
  refine o_cons ?_
  refine bring2 ?_
  refine o_stw _ T.ty_3 rfl rfl rfl rfl rfl rfl ?_
  refine o_cons ?_
  refine bring2 ?_
  refine o_stw _ T.ty_31 rfl rfl rfl rfl rfl rfl ?_
  refine o_nil ?_
  refine q_then ?_
  refine c_ret ?_
  refine q_then_ret ?_
  refine fin3 rfl ⟨_, _, _, rfl, m2, .inr ⟨_, T.ty_30, rfl, rfl⟩⟩ ⟨_, _, _, rfl, m1, .inl ⟨T.ty_3, rfl⟩⟩ ⟨_, _, _, rfl, m0, .inl ⟨T.ty_31, rfl⟩⟩ ?_
  have hr : runF c l = ([], -1, 1) := by unfold runF; rw [if_pos (by simpa using h13)]
  exact q_i ⟨_, by rw [hr], by rw [hr]; exact RdS.nil'⟩
 ·have p13 := h13
  try simp only [bO] at p13
  refine c_skip ?_
  refine q_then ?_
  refine c_seq ?_
  refine c_region ?_
  refine o_cons ?_
  refine o_alloc T.zero_30 rfl (fun g7 => ?_)
  refine o_nil ?_
  refine q_then ?_
  refine c_seq ?_
  refine c_region ?_
  refine o_cons ?_
  refine o_alloc T.zero_3 rfl (fun g8 => ?_)
  refine o_cons ?_
  refine o_stw _ T.ty_3 rfl rfl rfl rfl rfl rfl ?_
  refine o_nil ?_
  refine q_then ?_
  refine c_seq ?_
  refine c_seq ?_
  refine sx_knowI (fun hE5 hf5 => ?_)
  refine d_startH T.mixed ?_
  refine d_tv 0 rfl rfl (by kernel_rfl) rfl (.refl _) rfl (v_ldw m5 T.ty_24 rfl rfl) ?_
  refine d_tv 1 rfl rfl (by kernel_rfl) rfl (.refl _) rfl (v_move rfl) ?_
  refine d_one 2 (by kernel_rfl) rfl ?_
  refine o_call (cSort _ v l hv hl) rfl rfl (fun v17 I17 j17 q17 => ?_)
  have hvc := hvc.le j17
  have q17s := q17
  obtain ⟨A17, k17, rfl, _⟩ := q17s
  refine d_on (fun _ m => m.keepsI (.refl _) (j17) hE5 hf5) ?_
  refine d_one 3 (by kernel_rfl) rfl ?_
  refine o_call (statesC _ A17 _ k17 vc) rfl rfl (fun v18 I18 j18 q18 => ?_)
  have hvc := hvc.le j18
  have q17 := q17.le j18
  obtain ⟨g3, g2, rfl, c3, c2⟩ := q18
  refine d_on (fun _ m => m.keepsI (.refl _) ((j17).trans j18) hE5 hf5) ?_
  refine d_done (by kernel_rfl) ?_
  refine q_then ?_
  refine c_block ?_
  refine bring2 ?_
  refine bring3 ?_
  refine bring4 ?_
  refine bring3 ?_
  refine bring4 ?_
  refine c_range (σ := Value × Int × Value × Int × Int) (ps := [19, 20]) (.slice none 0 0, 0, .slice none 0 0, 0, 0) (fun ⟨v7, i, a, b, e⟩ => [.blk g7 30 [v7], .blk g8 3 [ci i], .blk g4 30 [a], .blk g5 3 [ci b], .blk g6 31 [ci e]]) (fun pre I ⟨v7, i, a, b, e⟩ => i = (pre.length : Nat) ∧ a = .slice none 0 0 ∧ b = 0 ∧ e = 0 ∧ (∀ x ∈ pre, x.2 = 0) ∧ RdS I v7 (lastS [] pre)) (fun pre I ⟨v7, i, a, b, e⟩ cd => cd = .ret ∧ a = .slice none 0 0 ∧ ∃ pr x t, statesF c [] (sortF l) = pr ++ x :: t ∧ (∀ x ∈ pr, x.2 = 0) ∧ x.2 ≠ 0 ∧ b = (pr.length : Nat) ∧ e = x.2) rfl Tryz.call31 (statesIt _ vc c hvc hsc _ (sortF l) q17 (fun e he => hse e (sortF_mem.1 he)) g3 g2 c3 c2) (fun I vs x h => by obtain ⟨w, rfl, _⟩ := h; rfl) rfl (fun pre I I' s hI h => by obtain ⟨v7, i, a, b, e⟩ := s; exact ⟨h.1, h.2.1, h.2.2.1, h.2.2.2.1, h.2.2.2.2.1, h.2.2.2.2.2.le hI⟩) (fun _ _ _ _ _ _ h => h) (⟨rfl, rfl, rfl, rfl, (fun _ h => by cases h), RdS.nil'⟩) rfl ?_ ?_ ?_
  ·rintro r E1 pre x vs I1 ⟨v7, i, a, b, e⟩ hI1 ⟨rfl, rfl, rfl, rfl, hok, hv7⟩ ⟨w, rfl, hw⟩ hpf
   obtain ⟨t, ht⟩ := id hpf
   rw [List.append_assoc] at ht
   have hlen := hpf.length_le
   have hsl := states_len c (sortF l) []
   rw [List.length_append, List.length_singleton] at hlen
   rw [sortF_len] at hsl
   refine sx_exp5 ?_
   refine c_seq ?_
   refine c_region ?_
   refine o_cons ?_
   refine o_alloc T.zero_30 rfl (fun g9 => ?_)
   refine o_cons ?_
   refine o_stw _ T.ty_30 rfl rfl rfl rfl rfl (by simp [RdS.one hw]) ?_
   refine o_nil ?_
   refine q_then ?_
   refine c_region ?_
   refine o_v rfl (v_assign rfl) ?_
   refine o_nil ?_
   refine bring1 ?_
   refine r_begin ?_
   refine c_block ?_
   refine c_seq ?_
   refine c_seq ?_
   refine c_region ?_
   refine o_v rfl (v_move rfl) ?_
   refine o_v rfl (v_neq rfl rfl) ?_
   refine o_nil ?_
   refine q_then ?_
   refine c_cond rfl (fun h22 => ?_) (fun h22 => ?_)
   ·have p22 := h22
    try simp only [bO] at p22
    refine c_seq ?_
    refine bring7 ?_
    refine bring7 ?_
    refine bring7 ?_
    refine d_start3 T.mixed ?_
    refine d_tv 1 rfl rfl (by kernel_rfl) rfl (.cons _ (.cons _ (.cons _ (.refl _)))) rfl (v_ld m4 T.ty_3 rfl rfl) ?_
    refine d_tv 2 rfl rfl (by kernel_rfl) rfl (.cons _ (.cons _ (.cons _ (.refl _)))) rfl (v_move rfl) ?_
    refine d_one 0 (by kernel_rfl) rfl ?_
    refine o_val rfl (v_build (pl := [(0, 1)]) T.zero_30 T.pl_30 rfl rfl) ?_
    refine d_on (fun _ m => m.keeps (.cons _ (.cons _ (.cons _ (.refl _))))) ?_
    refine d_one 3 (by kernel_rfl) rfl ?_
    refine o_stw _ T.ty_30 rfl rfl rfl rfl rfl rfl ?_
    refine d_on (fun _ m => m.keeps (.cons _ (.cons _ (.cons _ (.refl _))))) ?_
    refine d_one 4 (by kernel_rfl) rfl ?_
    refine bring1 ?_
    refine o_stw _ T.ty_3 rfl rfl rfl rfl rfl rfl ?_
    refine d_on (fun _ m => m.keeps (.cons _ (.cons _ (.cons _ (.refl _))))) ?_
    refine d_one 5 (by kernel_rfl) rfl ?_
    refine bring2 ?_
    refine o_stw _ T.ty_31 rfl rfl rfl rfl rfl rfl ?_
    refine d_on (fun _ m => m.keeps (.cons _ (.cons _ (.cons _ (.refl _))))) ?_
    refine d_done (by kernel_rfl) ?_
    refine q_then ?_
    refine c_ret ?_
    refine q_then_ret ?_
    refine q_block_ret ?_
    refine bring4 ?_
    refine sx_drop ?_
    refine bring1 ?_
    refine bring2 ?_
    refine bring6 ?_
    refine bring6 ?_
    refine bring6 ?_
    refine bring6 ?_
    exact r_ret ((v7, _, _, _, _)) (hI1) (⟨rfl, rfl, pre, x, t, ht.symm, hok, p22, rfl, rfl⟩) rfl
   ·have p22 := h22
    try simp only [bO] at p22
    refine c_skip ?_
    refine q_then ?_
    refine c_seq ?_
    refine c_region ?_
    refine o_v rfl (v_ldw m1 T.ty_30 rfl rfl) ?_
    refine o_cons ?_
    refine bring3 ?_
    refine o_stw _ T.ty_30 rfl rfl rfl rfl rfl (by simp [RdS.one hw]) ?_
    refine o_nil ?_
    refine q_then ?_
    refine c_region ?_
    refine o_v rfl (v_ld m4 T.ty_3 rfl rfl) ?_
    refine o_v rfl (v_add rfl rfl ⟨by omega, by omega⟩) ?_
    refine o_cons ?_
    refine bring4 ?_
    refine o_stw _ T.ty_3 rfl rfl rfl rfl rfl rfl ?_
    refine o_nil ?_
    refine q_block ?_
    refine bring3 ?_
    refine sx_drop ?_
    refine bring6 ?_
    refine bring6 ?_
    refine bring6 ?_
    refine bring3 ?_
    refine bring4 ?_
    refine bring6 ?_
    refine bring6 ?_
    exact r_next ((w, _, _, 0, 0)) (hI1) (⟨by simp only [List.length_append, List.length_singleton]; push_cast; trivial, rfl, rfl, rfl, (fun y hy => (List.mem_append.1 hy).elim (hok y) (fun h => by rw [List.mem_singleton.1 h]; exact p22)), (by simpa [lastS] using hw)⟩) rfl
  ·rintro D pre I1 ⟨v7, i, a, b, e⟩ hI1 hfull ⟨rfl, rfl, rfl, rfl, hok, hv7⟩
   refine sx_app5 ?_
   refine q_block ?_
   refine q_then ?_
   refine c_seq ?_
   refine c_region ?_
   refine o_v rfl (v_ldw m1 T.ty_30 rfl rfl) ?_
   refine o_cons ?_
   refine bring3 ?_
   refine o_stw _ T.ty_30 rfl rfl rfl rfl rfl (by simp [RdS.one hv7]) ?_
   refine o_cons ?_
   refine bring4 ?_
   refine o_stw _ T.ty_3 rfl rfl rfl rfl rfl rfl ?_
   refine o_cons ?_
   refine bring5 ?_
   refine o_stw _ T.ty_31 rfl rfl rfl rfl rfl rfl ?_
   refine o_nil ?_
   refine q_then ?_
   refine c_ret ?_
   refine bring3 ?_
   refine q_mark ?_
   refine fin3 rfl ⟨_, _, _, rfl, m3, .inr ⟨_, T.ty_30, rfl, rfl⟩⟩ ⟨_, _, _, rfl, m2, .inl ⟨T.ty_3, rfl⟩⟩ ⟨_, _, _, rfl, m1, .inl ⟨T.ty_31, rfl⟩⟩ ?_
   have hr : runF c l = (lastS [] pre, -1, 0) := by unfold runF; rw [if_neg (by simp [p13]), run_full _ _ _ (hfull ▸ hok), ← hfull]
   exact q_i ⟨_, by rw [hr], by rw [hr]; exact hv7⟩
  ·rintro D pre I1 ⟨v7, i, a, b, e⟩ cd hI1 hpart ⟨rfl, rfl, pr, x, t, ht, hok, hx, rfl, rfl⟩
   refine sx_app5 ?_
   refine c_ret ?_
   refine q_block_ret ?_
   refine q_then_ret ?_
   refine q_mark ?_
   refine fin3 rfl ⟨_, _, _, rfl, m3, .inr ⟨_, T.ty_30, rfl, rfl⟩⟩ ⟨_, _, _, rfl, m4, .inl ⟨T.ty_3, rfl⟩⟩ ⟨_, _, _, rfl, m5, .inl ⟨T.ty_31, rfl⟩⟩ ?_
   have hr : runF c l = ([], ((pr.length : Nat) : Int), x.2) := by unfold runF; rw [if_neg (by simp [p13]), run_stop _ _ _ pr t x ht hok hx]; simp
   exact q_i ⟨_, by rw [hr], by rw [hr]; exact RdS.nil'⟩

theorem cAt (I : IMap) (vc : Value) (c : List Kind) (hvc : RdS I vc c) (hsc : SmC c) (v : Value) (l : List Evt) (hv : RdS I v l) (hl : l.length ≤ 1000000) (hse : ∀ e ∈ l, SmE e) (day : Int) :
    FnI Tryz.prog 8 #[.agg #[vc], v, .int .i64 day] I (fun u J => ∃ w, u = .tuple #[.agg #[w], .int .i64 (atF11 c l day).2.1, .int .i64 (atF11 c l day).2.2] ∧ RdS J w (atF11 c l day).1) := by
 refine enter Tryz.func8 Tryz.call8 rfl Tryz.ntmps8 rfl (fun w0 => ?_)
 refine c_seq ?_
 refine c_region ?_
 refine o_cons ?_
 refine o_box _ rfl rfl rfl (fun g3 => ?_)
 refine o_cons ?_
 refine o_box _ rfl rfl rfl (fun g5 => ?_)
 refine o_cons ?_
 refine o_alloc T.zero_30 rfl (fun g6 => ?_)
 refine o_v rfl (v_assign rfl) ?_
 refine o_v rfl (v_assign rfl) ?_
 refine o_nil ?_
 refine q_then ?_
 refine c_seq ?_
 refine bring1 ?_
 refine sx_pub (fun Ig5 jg5 cg5 => ?_)
 have hvc := hvc.le jg5
 have hv := hv.le jg5
 refine sx_knowI (fun hE1 hf1 => ?_)
 refine d_start1 T.mixed ?_
 refine d_tv 0 rfl rfl (by kernel_rfl) rfl (.cons _ (.refl _)) rfl (v_ldw m0 T.ty_24 rfl rfl) ?_
 refine d_tv 1 rfl rfl (by kernel_rfl) rfl (.cons _ (.refl _)) rfl (v_move rfl) ?_
 refine d_tv 3 rfl rfl (by kernel_rfl) rfl (.cons _ (.refl _)) rfl (v_makeFunc rfl rfl) ?_
 refine d_one 2 (by kernel_rfl) rfl ?_
 refine o_callX0 (clone_Evt _ v l hv hl) rfl rfl (fun v11 s11 q11 => ?_)
 obtain ⟨xss, rfl, hx⟩ := q11
 obtain rfl := evCh_of hx
 refine d_on (fun _ m => m.keeps (.cons _ (.cons _ (.refl _)))) ?_
 refine d_one 4 (by kernel_rfl) rfl ?_
 refine o_callD (deleteFunc_Evt _ _ l hl 23 [.pointer (some ⟨g5, 0, none⟩)] (fun x => decide (x.day > day)) (fun I2 hI2 x => afterDay I2 x g5 day (cg5.le hI2))) rfl rfl (fun v13 I13 j13 q13 => ?_)
 have hvc := hvc.le j13
 refine d_on (fun _ m => m.keepsI (.cons _ (.refl _)) (j13) hE1 hf1) ?_
 refine d_one 5 (by kernel_rfl) rfl ?_
 refine o_call (cRun _ vc c hvc hsc _ (l.filter fun e => !decide (e.day > day)) q13 (Nat.le_trans (List.length_filter_le _ _) hl) (fun e he => hse e (List.mem_filter.1 he).1)) rfl rfl (fun v14 I14 j14 q14 => ?_)
 obtain ⟨w14, rfl, hw14⟩ := q14
 refine d_on (fun _ m => m.keepsI (.cons _ (.refl _)) ((j13).trans j14) hE1 hf1) ?_
 refine d_t 6 rfl rfl (by kernel_rfl) rfl (fun _ m => m.keepsI (.cons _ (.refl _)) ((j13).trans j14) hE1 hf1) (y_v rfl (v_extract rfl rfl)) ?_
 refine d_t 7 rfl rfl (by kernel_rfl) rfl (fun _ m => m.keepsI (.cons _ (.refl _)) ((j13).trans j14) hE1 hf1) (y_v rfl (v_extract rfl rfl)) ?_
 refine d_t 8 rfl rfl (by kernel_rfl) rfl (fun _ m => m.keepsI (.cons _ (.refl _)) ((j13).trans j14) hE1 hf1) (y_v rfl (v_extract rfl rfl)) ?_
 refine d_one 9 (by kernel_rfl) rfl ?_
 refine o_stw _ T.ty_30 rfl rfl rfl rfl rfl (by simp [RdS.one hw14]) ?_
 refine d_on (fun _ m => m.keepsI (.cons _ (.refl _)) ((j13).trans j14) hE1 hf1) ?_
 refine d_t 10 rfl rfl (by kernel_rfl) rfl (fun _ m => m.keepsI (.cons _ (.refl _)) ((j13).trans j14) hE1 hf1) (y_v rfl (v_assign rfl)) ?_
 refine d_t 11 rfl rfl (by kernel_rfl) rfl (fun _ m => m.keepsI (.cons _ (.refl _)) ((j13).trans j14) hE1 hf1) (y_v rfl (v_assign rfl)) ?_
 refine d_done (by kernel_rfl) ?_
 refine q_then ?_
 refine c_ret ?_
 refine fin3 rfl ⟨_, _, _, rfl, m0, .inr ⟨_, T.ty_30, rfl, rfl⟩⟩ rfl rfl ?_
 exact q_i ⟨_, rfl, hw14⟩

end Go.Proofs.YtechmdlbpbpkdaaGreat
