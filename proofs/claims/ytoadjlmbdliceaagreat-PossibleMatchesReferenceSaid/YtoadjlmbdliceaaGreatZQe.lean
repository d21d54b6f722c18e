/- The library of a symbolic run and the walks: merged. -/
import Derived.Test.YtoadjlmbdliceaaGreatZQd
/- Walks, printed by a program out of the code of the functions: each theorem is a contract of one function. -/
namespace Go.Proofs.YtoadjlmbdliceaaGreat
open Go Go.Sx
set_option linter.all false
set_option maxRecDepth 20000
set_option maxHeartbeats 4000000
theorem ref13Are (I : IMap) (v : Value) (l : List Rep) (hv : RdS I v l) (hl : l.length ≤ 1000000) (hsl : ∀ r ∈ l, ∀ e ∈ r.options, SmE e) (w : Value) (ch : List Int) (hw : RdS I w ch) :
    FnV Tryz.prog 123 #[v, w] I (.bool (areF l ch)) := by
 obtain ⟨A, c0, rfl, hA, hc, hm⟩ := hv
 obtain ⟨B, c1, rfl, hB, hc1, hm1⟩ := hw
 refine enter Tryz.func123 Tryz.call123 rfl Tryz.ntmps123 rfl (fun w0 => ?_)
 refine go 15 ?_
 refine cb rfl (fun h10 p10 => ?_) (fun h10 p10 => ?_)
 ·refine go 7 ?_
  refine fin1 rfl rfl ?_
  exact q_v (congrArg Value.bool (by simp only [areF, show decide (((l.length : Nat) : Int) = (ch.length : Nat)) = false from by simpa using h10, bS]))
 ·have hle : ((l.length : Nat) : Int) = (ch.length : Nat) := by simpa using h10
  refine go 9 ?_
  refine c_loop (α := Nat) 0 (fun i => I)
   (fun i => [(0, .slice A l.length c0), (1, .slice B ch.length c1), (5, .int .i64 ((i : Nat) : Int))])
   (fun i => [])
   (fun i => i ≤ l.length ∧ allTo okK l ch i = true)
   (fun i => l.length - i) ⟨Nat.zero_le _, rfl⟩ rfl sb rfl ?_
  intro i ⟨hi, hn⟩
  refine go 9 ?_
  refine cb rfl (fun h14 p14 => ?_) (fun h14 p14 => ?_)
  ·have hlt : i < l.length := by omega
   have hlt2 : i < ch.length := by omega
   refine go 5 ?_
   refine d_startH T.mixed ?_
   refine d_tv 0 rfl rfl (by kernel_rfl) rfl .slnil rfl (v_move rfl) ?_
   refine d_tv 1 rfl rfl (by kernel_rfl) rfl .slnil rfl (v_move rfl) ?_
   obtain ⟨b19, o19, w19, e19, c19, r19⟩ := RdA.at_ hB (i := i) (by omega)
   obtain rfl := r19
   refine d_tv 2 rfl rfl (by kernel_rfl) rfl .slnil rfl (v_idx he rfl rfl e19 (i) (by omega) (by omega)) ?_
   refine d_tv 3 rfl rfl (by kernel_rfl) rfl .slnil rfl (v_ldI he rfl (c19 0 _ rfl)) ?_
   refine d_tv 4 rfl rfl (by kernel_rfl) rfl .slnil rfl (v_lss rfl rfl) ?_
   refine d_tv 5 rfl rfl (by kernel_rfl) rfl .slnil rfl (v_move rfl) ?_
   refine sxb 22 rfl (fun h22 p22 => ?_) (fun h22 p22 => ?_)
   ·refine d_t 6 rfl rfl (by kernel_rfl) rfl (fun _ m => m.keeps .slnil) (y_no rfl rfl h22) ?_
    refine d_t 7 rfl rfl (by kernel_rfl) rfl (fun _ m => m.keeps .slnil) (y_no rfl rfl h22) ?_
    refine d_t 8 rfl rfl (by kernel_rfl) rfl (fun _ m => m.keeps .slnil) (y_no rfl rfl h22) ?_
    refine d_t 9 rfl rfl (by kernel_rfl) rfl (fun _ m => m.keeps .slnil) (y_no rfl rfl h22) ?_
    refine d_t 10 rfl rfl (by kernel_rfl) rfl (fun _ m => m.keeps .slnil) (y_no rfl rfl h22) ?_
    refine d_t 11 rfl rfl (by kernel_rfl) rfl (fun _ m => m.keeps .slnil) (y_no rfl rfl h22) ?_
    refine d_t 12 rfl rfl (by kernel_rfl) rfl (fun _ m => m.keeps .slnil) (y_no rfl rfl h22) ?_
    refine d_t 13 rfl rfl (by kernel_rfl) rfl (fun _ m => m.keeps .slnil) (y_no rfl rfl h22) ?_
    refine d_t 14 rfl rfl (by kernel_rfl) rfl (fun _ m => m.keeps .slnil) (y_no rfl rfl h22) ?_
    refine d_t 15 rfl rfl (by kernel_rfl) rfl (fun _ m => m.keeps .slnil) (y_no rfl rfl h22) ?_
    refine d_tv 16 rfl rfl (by kernel_rfl) rfl .slnil rfl (v_or_t h22 rfl) ?_
    refine d_done (by kernel_rfl) ?_
    refine go 1 ?_
    refine c_true rfl ?_
    refine go 11 ?_
    refine fin1 rfl rfl ?_
    exact q_v (congrArg Value.bool (by simp only [areF, allTo_not hlt hlt hlt2 (show okK l[i] ch[i] = false by simp only [okK, h14, h22, bS]), bS]))
   ·refine d_t 6 rfl rfl (by kernel_rfl) rfl (fun _ m => m.keeps .slnil) (y_yes rfl rfl h22 (v_move rfl)) ?_
    refine d_t 7 rfl rfl (by kernel_rfl) rfl (fun _ m => m.keeps .slnil) (y_yes rfl rfl h22 (v_move rfl)) ?_
    obtain ⟨b25, o25, w25, e25, c25, r25⟩ := RdA.at_ hB (i := i) (by omega)
    obtain rfl := r25
    refine d_t 8 rfl rfl (by kernel_rfl) rfl (fun _ m => m.keeps .slnil) (y_yes rfl rfl h22 (v_idx he rfl rfl e25 (i) (by omega) (by omega))) ?_
    refine d_t 9 rfl rfl (by kernel_rfl) rfl (fun _ m => m.keeps .slnil) (y_yes rfl rfl h22 (v_ldI he rfl (c25 0 _ rfl))) ?_
    refine d_t 10 rfl rfl (by kernel_rfl) rfl (fun _ m => m.keeps .slnil) (y_yes rfl rfl h22 (v_move rfl)) ?_
    refine d_t 11 rfl rfl (by kernel_rfl) rfl (fun _ m => m.keeps .slnil) (y_yes rfl rfl h22 (v_move rfl)) ?_
    obtain ⟨b29, o29, w29, e29, c29, r29⟩ := RdA.at_ hA (i := i) (by omega)
    obtain ⟨q29, rfl, S29, d29, rfl, hS29, hd29, hm29⟩ := r29
    refine d_t 12 rfl rfl (by kernel_rfl) rfl (fun _ m => m.keeps .slnil) (y_yes rfl rfl h22 (v_idx he rfl rfl e29 (i) (by omega) (by omega))) ?_
    refine d_t 13 rfl rfl (by kernel_rfl) rfl (fun _ m => m.keeps .slnil) (y_yes rfl rfl h22 (v_ldIa he rfl c29 rfl)) ?_
    refine d_one 14 (by kernel_rfl) rfl ?_
    refine o_yes rfl rfl h22 (o_callV (ref13Choices _ l[i] S29 d29 ⟨_, _, rfl, hS29, hd29, hm29⟩ (hsl _ (List.getElem_mem hlt))) rfl rfl ?_)
    refine d_on (fun _ m => m.keeps .slnil) ?_
    refine d_t 15 rfl rfl (by kernel_rfl) rfl (fun _ m => m.keeps .slnil) (y_yes rfl rfl h22 (v_geq rfl rfl)) ?_
    refine d_tv 16 rfl rfl (by kernel_rfl) rfl .slnil rfl (v_or_f h22 rfl rfl) ?_
    refine d_done (by kernel_rfl) ?_
    refine go 1 ?_
    refine cb rfl (fun h33 p33 => ?_) (fun h33 p33 => ?_)
    ·refine go 11 ?_
     refine fin1 rfl rfl ?_
     exact q_v (congrArg Value.bool (by simp only [areF, allTo_not hlt hlt hlt2 (show okK l[i] ch[i] = false by simp only [okK, h14, h22, h33, bS]), bS]))
    ·refine go 9 ?_
     exact q_next (i + 1) ⟨by omega, allTo_succ hn hlt hlt2 (by simp only [okK, h14, h22, h33, bS])⟩ (by omega) rfl sb rfl
  ·refine go 11 ?_
   refine fin1 rfl rfl ?_
   have e : i = l.length := (by omega)
   subst e
   exact q_v (congrArg Value.bool (by simp only [areF, hn, decide_eq_true hle, bS]))

theorem ref13Picked (I : IMap) (v : Value) (l : List Rep) (hv : RdS I v l) (hl : l.length ≤ 1000000) (hsl : ∀ r ∈ l, ∀ e ∈ r.options, SmE e) (w : Value) (ch : List Int) (hw : RdS I w ch) :
    FnI Tryz.prog 106 #[v, w] I (fun u J => ∃ z, u = .tuple #[z, .int .i64 (pickedF l ch).2] ∧ RdS J z (pickedF l ch).1) := by
 have hv0 := hv
 have hw0 := hw
 obtain ⟨A, c0, rfl, hA, hc, hm⟩ := hv
 obtain ⟨B, c1, rfl, hB, hc1, hm1⟩ := hw
 refine enter Tryz.func106 Tryz.call106 rfl Tryz.ntmps106 rfl (fun w0 => ?_)
 refine go 12 ?_
 refine o_callV (ref13Are _ _ l hv0 hl hsl _ ch hw0) rfl rfl ?_
 refine go 3 ?_
 refine cb rfl (fun h11 p11 => ?_) (fun h11 p11 => ?_)
 ·refine go 8 ?_
  refine fin2 rfl rfl rfl ?_
  have hn : ¬ areF l ch = true := by simpa using h11
  exact q_i ⟨_, by rw [picked_are, if_neg hn], by rw [picked_are, if_neg hn]; exact RdS.nil'⟩
 ·have ha : areF l ch = true := by simpa using h11
  have hle := are_len ha
  refine go 4 ?_
  refine sx_nilrow 56 14 ?_
  refine go 10 ?_
  refine c_loop4 ((0 : Nat)) (_) ([]) ([]) (fun i v6 xs out => I)
   (fun i v6 xs out => [(0, .slice A l.length c0), (1, .slice B ch.length c1), (6, v6), (7, .int .i64 ((i : Nat) : Int))])
   (fun i v6 xs out => [.row v6 56 14 out.length xs])
   (fun i v6 xs out => i ≤ l.length ∧ evsTo l ch i = out ∧ Flat I xs out)
   (fun i v6 xs out => l.length - i) ⟨Nat.zero_le _, rfl, .nil⟩ rfl sb rfl ?_
  intro i v6 xs out ⟨hi, hev, hF⟩
  have hol : out.length ≤ i := by rw [← hev]; exact evs_len _ _ _
  refine go 9 ?_
  refine cb rfl (fun h15 p15 => ?_) (fun h15 p15 => ?_)
  ·have hlt : i < l.length := by omega
   have hlt2 : i < ch.length := by omega
   have hai := are_at ha hlt hlt2
   have hcl := chs_le l[i]
   refine go 5 ?_
   refine d_startH T.mixed ?_
   refine d_tv 0 rfl rfl (by kernel_rfl) rfl (.refl _) rfl (v_move rfl) ?_
   refine d_tv 1 rfl rfl (by kernel_rfl) rfl (.refl _) rfl (v_move rfl) ?_
   obtain ⟨b20, o20, w20, e20, c20, r20⟩ := RdA.at_ hB (i := i) (by omega)
   obtain rfl := r20
   refine d_tv 2 rfl rfl (by kernel_rfl) rfl (.refl _) rfl (v_idx he rfl rfl e20 (i) (by omega) (by omega)) ?_
   refine d_tv 3 rfl rfl (by kernel_rfl) rfl (.refl _) rfl (v_ldI he rfl (c20 0 _ rfl)) ?_
   refine d_tv 4 rfl rfl (by kernel_rfl) rfl (.refl _) rfl (v_move rfl) ?_
   refine d_tv 5 rfl rfl (by kernel_rfl) rfl (.refl _) rfl (v_move rfl) ?_
   obtain ⟨b24, o24, w24, e24, c24, r24⟩ := RdA.at_ hA (i := i) (by omega)
   obtain ⟨q24, rfl, S24, d24, rfl, hS24, hd24, hm24⟩ := r24
   refine d_tv 6 rfl rfl (by kernel_rfl) rfl (.refl _) rfl (v_idx he rfl rfl e24 (i) (by omega) (by omega)) ?_
   refine d_tv 7 rfl rfl (by kernel_rfl) rfl (.refl _) rfl (v_fieldAddr he rfl) ?_
   refine d_tv 8 rfl rfl (by kernel_rfl) rfl (.refl _) rfl (v_ldI he rfl (c24 0 _ rfl)) ?_
   refine d_tv 9 rfl rfl (by kernel_rfl) rfl (.refl _) rfl (v_len_slice he rfl) ?_
   refine d_tv 10 rfl rfl (by kernel_rfl) rfl (.refl _) rfl (v_lss rfl rfl) ?_
   refine d_done (by kernel_rfl) ?_
   refine go 1 ?_
   refine cb rfl (fun h28 p28 => ?_) (fun h28 p28 => ?_)
   ·have hk : ch[i].toNat < l[i].options.length := by omega
    refine d_start1 T.mixed ?_
    refine d_tv 0 rfl rfl (by kernel_rfl) rfl (.cons _ .slnil) rfl (v_move rfl) ?_
    refine d_tv 1 rfl rfl (by kernel_rfl) rfl (.cons _ .slnil) rfl (v_move rfl) ?_
    refine d_tv 2 rfl rfl (by kernel_rfl) rfl (.cons _ .slnil) rfl (v_move rfl) ?_
    obtain ⟨b32, o32, w32, e32, c32, r32⟩ := RdA.at_ hA (i := i) (by omega)
    obtain ⟨q32, rfl, S32, d32, rfl, hS32, hd32, hm32⟩ := r32
    refine d_tv 3 rfl rfl (by kernel_rfl) rfl (.cons _ .slnil) rfl (v_idx he rfl rfl e32 (i) (by omega) (by omega)) ?_
    refine d_tv 4 rfl rfl (by kernel_rfl) rfl (.cons _ .slnil) rfl (v_fieldAddr he rfl) ?_
    refine d_tv 5 rfl rfl (by kernel_rfl) rfl (.cons _ .slnil) rfl (v_ldI he rfl (c32 0 _ rfl)) ?_
    refine d_tv 6 rfl rfl (by kernel_rfl) rfl (.cons _ .slnil) rfl (v_move rfl) ?_
    refine d_tv 7 rfl rfl (by kernel_rfl) rfl (.cons _ .slnil) rfl (v_move rfl) ?_
    obtain ⟨b37, o37, w37, e37, c37, r37⟩ := RdA.at_ hB (i := i) (by omega)
    obtain rfl := r37
    refine d_tv 8 rfl rfl (by kernel_rfl) rfl (.cons _ .slnil) rfl (v_idx he rfl rfl e37 (i) (by omega) (by omega)) ?_
    refine d_tv 9 rfl rfl (by kernel_rfl) rfl (.cons _ .slnil) rfl (v_ldI he rfl (c37 0 _ rfl)) ?_
    obtain ⟨b39, o39, w39, e39, c39, r39⟩ := RdA.at_ hS32 (i := ch[i].toNat) hk
    obtain rfl := r39
    refine d_tv 10 rfl rfl (by kernel_rfl) rfl (.cons _ .slnil) rfl (v_idx he rfl rfl e39 (ch[i].toNat) (by omega) hk) ?_
    refine d_tv 11 rfl rfl (by kernel_rfl) rfl (.cons _ .slnil) rfl (v_ldIa he rfl c39 rfl) ?_
    refine d_one 12 (by kernel_rfl) rfl ?_
    refine o_buildSlice he he rfl rfl rfl rfl rfl rfl rfl (fun v41 => ?_)
    refine d_on (fun _ m => m.keeps (.cons _ (.cons _ .slnil))) ?_
    refine d_one 13 (by kernel_rfl) rfl ?_
    refine bring1 ?_
    refine o_appendO he he rfl rfl rfl rfl rfl (by omega) (by omega) rfl (fun v42 => ?_)
    refine d_on (fun _ m => m.keeps (.cons _ (.cons _ .slnil))) ?_
    refine d_tv 14 rfl rfl (by kernel_rfl) rfl (.cons _ (.cons _ .slnil)) rfl (v_assign rfl) ?_
    refine d_done (by kernel_rfl) ?_
    refine go 8 ?_
    refine bring1 ?_
    refine sx_drop ?_
    exact q_next4 (i + 1) (_) (_) (out ++ [l[i].options[ch[i].toNat]]) ⟨by omega, evs_yes hlt hlt2 hev hk, hF.append (.one rfl)⟩ (by omega) rfl sb (by first | rfl | (simp only [List.length_append, List.length_singleton]; rfl) | simp only [List.length_append, List.length_singleton])
   ·refine go 9 ?_
    exact q_next4 (i + 1) (_) (_) (out) ⟨by omega, evs_no hlt hlt2 hev (by omega), hF⟩ (by omega) rfl sb (by first | rfl | (simp only [List.length_append, List.length_singleton]; rfl) | simp only [List.length_append, List.length_singleton])
  ·refine go 7 ?_
   obtain rfl : i = l.length := by omega
   refine sx_pubrow (l := out) rfl rfl (hF) (fun Ip jp Rp => ?_)
   refine go 6 ?_
   refine fin2 rfl rfl rfl ?_
   exact q_i ⟨_, by rw [picked_are, if_pos ha], by rw [picked_are, if_pos ha, hev]; exact Rp⟩

theorem ref13Doubtful (I : IMap) (r : Rep) (S : Option Addr) (d : Nat) (hr : RdS I (.slice S r.options.length d) r.options) (hs : ∀ e ∈ r.options, SmE e) :
    FnV Tryz.prog 77 #[.agg (r.cells (.slice S r.options.length d)).toArray] I (.bool (decide (1 < chs r))) := by
 refine enter Tryz.func77 Tryz.call77 rfl Tryz.ntmps77 rfl (fun w0 => ?_)
 refine go 3 ?_
 refine o_box _ rfl rfl rfl (fun g1 => ?_)
 refine go 7 ?_
 refine o_callV (ref13Choices _ r S d hr hs) rfl rfl ?_
 refine go 5 ?_
 refine fin1 rfl rfl ?_
 exact q_v rfl

theorem ref16Wrong (I : IMap) (vc : Value) (c : List Kind) (hvc : RdS I vc c) (hsc : SmC c) (v : Value) (l : List Rep) (hv : RdS I v l) (hl : l.length ≤ 1000000) (hsl : ∀ r ∈ l, ∀ e ∈ r.options, SmE e)  :
    FnV Tryz.prog 46 #[.agg #[vc], v] I (.int .i64 (errF c l)) := by
 have hv0 := hv
 obtain ⟨A, c0, rfl, hA, hc, hm⟩ := hv
 refine enter Tryz.func46 Tryz.call46 rfl Tryz.ntmps46 rfl (fun w0 => ?_)
 refine go 3 ?_
 refine o_box _ rfl rfl rfl (fun g2 => ?_)
 refine go 13 ?_
 refine o_callV (refValid _ vc c hvc hsc) rfl rfl ?_
 refine go 3 ?_
 refine cb rfl (fun h9 p9 => ?_) (fun h9 p9 => ?_)
 ·refine go 7 ?_
  refine fin1 rfl rfl ?_
  exact q_v (congrArg (Value.int .i64) (err_cat (by rw [valid_same]; simpa using h9)).symm)
 ·have hC : validC c = true := by rw [valid_same]; simpa using h9
  refine go 9 ?_
  refine sx_drop ?_
  refine c_loop (α := Nat) 0 (fun i => I)
   (fun i => [(1, .slice A l.length c0), (5, .int .i64 ((dbtF (l.take i) : Nat) : Int)), (6, .int .i64 ((i : Nat) : Int))])
   (fun i => [])
   (fun i => i ≤ l.length ∧ ∀ r ∈ l.take i, chs r ≠ 0)
   (fun i => l.length - i) ⟨Nat.zero_le _, fun r hr => by simp at hr⟩ rfl sb rfl ?_
  intro i ⟨hi, hp⟩
  have hdi : dbtF (l.take i) ≤ (l.take i).length := List.length_filter_le _ _
  rw [List.length_take] at hdi
  refine go 9 ?_
  refine cb rfl (fun h13 p13 => ?_) (fun h13 p13 => ?_)
  ·have hlt : i < l.length := by omega
   refine go 9 ?_
   obtain ⟨b18, o18, w18, e18, c18, r18⟩ := RdA.at_ hA (i := i) (by omega)
   obtain ⟨q18, rfl, S18, d18, rfl, hS18, hd18, hm18⟩ := r18
   refine o_v rfl (v_idx he rfl rfl e18 (i) (by omega) (by omega)) ?_
   refine o_v rfl (v_ldIa he rfl c18 rfl) ?_
   refine go 1 ?_
   refine o_callV (ref13Valid _ l[i] S18 d18 ⟨_, _, rfl, hS18, hd18, hm18⟩ (hsl _ (List.getElem_mem (by omega)))) rfl rfl ?_
   refine go 3 ?_
   refine cb rfl (fun h21 p21 => ?_) (fun h21 p21 => ?_)
   ·refine go 12 ?_
    refine fin1 rfl rfl ?_
    exact q_v (congrArg (Value.int .i64) (err_any hC hlt (by simp [Go.Sx.chs, show validRep l[i] = false by simpa using h21])).symm)
   ·have hne : Go.Sx.chs l[i] ≠ 0 := by have := chs_pos (r := l[i]) (by simpa using h21); omega
    refine go 6 ?_
    obtain ⟨b24, o24, w24, e24, c24, r24⟩ := RdA.at_ hA (i := i) (by omega)
    obtain ⟨q24, rfl, S24, d24, rfl, hS24, hd24, hm24⟩ := r24
    refine o_v rfl (v_idx he rfl rfl e24 (i) (by omega) (by omega)) ?_
    refine o_v rfl (v_ldIa he rfl c24 rfl) ?_
    refine go 1 ?_
    refine o_callV (ref13Doubtful _ l[i] S24 d24 ⟨_, _, rfl, hS24, hd24, hm24⟩ (hsl _ (List.getElem_mem (by omega)))) rfl rfl ?_
    refine go 2 ?_
    refine cb rfl (fun h26 p26 => ?_) (fun h26 p26 => ?_)
    ·refine go 13 ?_
     exact q_next (i + 1) ⟨by omega, pos_take hlt hp hne⟩ (by omega) rfl ⟨rfl, (congrArg (fun z => some (Value.int .i64 z)) (by rw [dbt_take hlt, if_pos (by omega)]; omega)), rfl, trivial⟩ rfl
    ·refine go 9 ?_
     exact q_next (i + 1) ⟨by omega, pos_take hlt hp hne⟩ (by omega) rfl ⟨rfl, (congrArg (fun z => some (Value.int .i64 z)) (by rw [dbt_take hlt, if_neg (by omega)]; omega)), rfl, trivial⟩ rfl
  ·have e : i = l.length := by omega
   subst e
   rw [List.take_length] at hp hdi
   rw [List.take_length]
   refine go 12 ?_
   refine cb rfl (fun h30 p30 => ?_) (fun h30 p30 => ?_)
   ·refine go 7 ?_
    refine fin1 rfl rfl ?_
    exact q_v (congrArg (Value.int .i64) (by rw [err_end hC hp, if_pos p30]))
   ·refine go 8 ?_
    refine fin1 rfl rfl ?_
    exact q_v (congrArg (Value.int .i64) (by rw [err_end hC hp, if_neg p30]))

theorem ref16History (I : IMap) (vc : Value) (c : List Kind) (hvc : RdS I vc c) (hsc : SmC c) (v : Value) (l : List Rep) (hv : RdS I v l) (hl : l.length ≤ 1000000) (hsl : ∀ r ∈ l, ∀ e ∈ r.options, SmE e) (hC : validC c = true) (hP : ∀ r ∈ l, chs r ≠ 0) (w : Value) (ch : List Int) (hw : RdS I w ch) :
    FnI Tryz.prog 78 #[.agg #[vc], v, w] I (fun u J => u = .bool (isF c l ch)) := by
 refine enter Tryz.func78 Tryz.call78 rfl Tryz.ntmps78 rfl (fun w0 => ?_)
 refine go 3 ?_
 refine o_box _ rfl rfl rfl (fun g3 => ?_)
 refine go 8 ?_
 refine o_call (ref13Picked _ _ l hv hl hsl _ ch hw) rfl rfl (fun v15 I15 j15 q15 => ?_)
 have hvc := hvc.le j15
 obtain ⟨w15, rfl, hw15⟩ := q15
 refine go 14 ?_
 refine cb rfl (fun h19 p19 => ?_) (fun h19 p19 => ?_)
 ·refine go 7 ?_
  refine fin1 rfl rfl ?_
  exact q_i (congrArg Value.bool (by rw [← hist_ref hC hP ch, decide_eq_false p19]; rfl))
 ·have h0 : (pickedF l ch).2 = 0 := by simpa using h19
  have hle := picked_le l ch
  refine go 7 ?_
  refine o_call (ref11Run _ vc c hvc hsc _ (pickedF l ch).1 hw15 (by omega) (picked_sm hsl)) rfl rfl (fun v23 I23 j23 q23 => ?_)
  obtain ⟨w23, rfl, hw23⟩ := q23
  refine go 5 ?_
  refine o_alloc he rfl (fun g9 => ?_)
  refine go 1 ?_
  refine o_stw _ he rfl rfl rfl rfl rfl (by simp [hw23.one]) ?_
  refine go 12 ?_
  refine fin1 rfl rfl ?_
  exact q_i (congrArg Value.bool (by rw [← hist_ref hC hP ch, decide_eq_true h0]; rfl))

theorem ref16Next (I : IMap) (v : Value) (l : List Rep) (hv : RdS I v l) (hl : l.length ≤ 1000000) (hsl : ∀ r ∈ l, ∀ e ∈ r.options, SmE e) (w : Value) (t : List Int) (hw : RdS I w t) (ht : t ∈ allCh l) :
    FnI Tryz.prog 79 #[v, w] I (fun u J => ∃ z, u = .tuple #[z, .bool (nextF l t).2] ∧ RdS J z (nextF l t).1) := by
 have htl := (all_mem.1 ht).1
 have htb := (all_mem.1 ht).2
 have hv0 := hv
 obtain ⟨A, c0, rfl, hA, hc, hm⟩ := hv
 refine enter Tryz.func79 Tryz.call79 rfl Tryz.ntmps79 rfl (fun w0 => ?_)
 refine go 9 ?_
 refine o_buildSlice he he rfl rfl rfl rfl rfl rfl rfl (fun v8 => ?_)
 refine go 2 ?_
 refine o_appendR (hw) rfl he he rfl rfl rfl rfl (by omega) (by omega) rfl (fun v10 x10 f10 => ?_)
 refine go 13 ?_
 refine c_loop4 (l.length) (_) (_) (t) (fun j v6 xs m => I)
  (fun j v6 xs m => [(0, .slice A l.length c0), (6, v6), (7, .int .i64 (((j : Nat) : Int) - 1))])
  (fun j v6 xs m => [.row v6 3 1 (0 + t.length) xs])
  (fun j v6 xs m => j ≤ l.length ∧ Flat I xs m ∧ m = t.take j ++ zeros (l.length - j) ∧ nextF (l.drop j) (t.drop j) = (zeros (l.length - j), false))
  (fun j v6 xs m => j) ⟨Nat.le_refl _, f10, by simp [zeros, ← htl], by simp [nextF, zeros]⟩ rfl sb rfl ?_
 intro j v6 xs m ⟨hj, hF, hm, hnx⟩
 refine go 7 ?_
 refine cb rfl (fun h15 p15 => ?_) (fun h15 p15 => ?_)
 ·have hj0 : 0 < j := by omega
  obtain ⟨hjm, hmj⟩ := mid_at hm hj0 hj htl
  have hml : m.length = l.length := by rw [hm]; simp [zeros]; omega
  have hb := htb (j - 1) (by omega) (by omega)
  have hc5 := chs_five l[j - 1]
  refine sx_rowF hF rfl (by omega) (by omega) (fun g15 cap15 rest15 xss15 hv15 hC15 hR15 hc15 hl15 => ?_)
  subst hv15
  refine go 6 ?_
  refine d_startH T.mixed ?_
  refine d_tv 0 rfl rfl (by kernel_rfl) rfl (.refl _) rfl (v_move rfl) ?_
  refine d_tv 1 rfl rfl (by kernel_rfl) rfl (.refl _) rfl (v_move rfl) ?_
  refine d_tv 2 rfl rfl (by kernel_rfl) rfl (.refl _) rfl (v_idx he rfl rfl rfl (j - 1) (by omega) (by omega)) ?_
  refine d_tv 3 rfl rfl (by kernel_rfl) rfl (.refl _) rfl (OV.cast (u := .int .i64 t[j - 1]) (v_lds m0 (Uk.append (show Uk 1 xss15 from hC15.uk) hR15) he rfl (j - 1) (by omega) (fc_at hC15 (by omega))) (congrArg (Value.int .i64) hmj)) ?_
  refine d_tv 4 rfl rfl (by kernel_rfl) rfl (.refl _) rfl (v_add rfl rfl ⟨by omega, by omega⟩) ?_
  refine d_tv 5 rfl rfl (by kernel_rfl) rfl (.refl _) rfl (v_move rfl) ?_
  refine d_tv 6 rfl rfl (by kernel_rfl) rfl (.refl _) rfl (v_move rfl) ?_
  obtain ⟨b25, o25, w25, e25, c25, r25⟩ := RdA.at_ hA (i := j - 1) (by omega)
  obtain ⟨q25, rfl, S25, d25, rfl, hS25, hd25, hm25⟩ := r25
  refine d_tv 7 rfl rfl (by kernel_rfl) rfl (.refl _) rfl (v_idx he rfl rfl e25 (j - 1) (by omega) (by omega)) ?_
  refine d_tv 8 rfl rfl (by kernel_rfl) rfl (.refl _) rfl (v_ldIa he rfl c25 rfl) ?_
  refine d_one 9 (by kernel_rfl) rfl ?_
  refine o_callV (ref13Choices _ l[j - 1] S25 d25 ⟨_, _, rfl, hS25, hd25, hm25⟩ (hsl _ (List.getElem_mem (by omega)))) rfl rfl ?_
  refine d_on (fun _ m => m.keeps (.refl _)) ?_
  refine d_tv 10 rfl rfl (by kernel_rfl) rfl (.refl _) rfl (v_lss rfl rfl) ?_
  refine d_done (by kernel_rfl) ?_
  refine go 1 ?_
  refine cb rfl (fun h28 p28 => ?_) (fun h28 p28 => ?_)
  ·refine go 4 ?_
   refine o_v rfl (v_idx he rfl rfl rfl (j - 1) (by omega) (by omega)) ?_
   refine o_v rfl (OV.cast (u := .int .i64 t[j - 1]) (v_lds m0 (Uk.append (show Uk 1 xss15 from hC15.uk) hR15) he rfl (j - 1) (by omega) (fc_at hC15 (by omega))) (congrArg (Value.int .i64) hmj)) ?_
   refine go 1 ?_
   refine o_v rfl (v_idx he rfl rfl rfl (j - 1) (by omega) (by omega)) ?_
   refine go 1 ?_
   refine o_stc _ (j - 1) (Uk.append (show Uk 1 xss15 from hC15.uk) hR15) he rfl rfl rfl rfl rfl (by omega) (by rw [List.length_append, hC15.len]; omega) ?_
   refine sx_unrowF (l := m) (t[j - 1] + 1) hC15 hR15 rfl (by omega) (by omega) hc15 hl15 rfl (fun ws34 hF34 => ?_)
   refine sx_pubrow (l := (m.set (j - 1) (t[j - 1] + 1))) rfl (by simp; omega) (hF34) (fun I34 j34 R34 => ?_)
   refine go 16 ?_
   refine fin2 rfl rfl rfl ?_
   exact q_i ⟨_, by rw [next_yes hm hj0 hj htl hnx p28], by rw [next_yes hm hj0 hj htl hnx p28]; exact R34⟩
  ·refine go 5 ?_
   refine o_v rfl (v_idx he rfl rfl rfl (j - 1) (by omega) (by omega)) ?_
   refine go 1 ?_
   refine o_stc _ (j - 1) (Uk.append (show Uk 1 xss15 from hC15.uk) hR15) he rfl rfl rfl rfl rfl (by omega) (by rw [List.length_append, hC15.len]; omega) ?_
   refine sx_unrowF (l := m) (0) hC15 hR15 rfl (by omega) (by omega) hc15 hl15 rfl (fun ws38 hF38 => ?_)
   refine go 5 ?_
   refine o_v rfl (OV.cast (u := .int .i64 (((j - 1 : Nat) : Int) - 1)) (v_sub rfl rfl ⟨by omega, by omega⟩) (congrArg (Value.int .i64) (by omega))) ?_
   refine go 3 ?_
   exact q_next4 (j - 1) (_) (_) (m.set (j - 1) 0) ⟨by omega, hF38, (next_no hm hj0 hj htl hnx p28).1, (next_no hm hj0 hj htl hnx p28).2⟩ (by omega) rfl sb rfl
 ·obtain rfl : j = 0 := by omega
  have hm0 : m = zeros l.length := by simpa using hm
  have hn0 : nextF l t = (m, false) := by rw [hm0]; simpa using hnx
  have hml : m.length = t.length := by rw [hm0]; simp [zeros, htl]
  refine go 7 ?_
  refine sx_pubrow (l := m) rfl (by omega) (hF) (fun I39 j39 R39 => ?_)
  refine go 6 ?_
  refine fin2 rfl rfl rfl ?_
  exact q_i ⟨_, by rw [hn0], by rw [hn0]; exact R39⟩

theorem ref16Every (I : IMap) (vc : Value) (c : List Kind) (hvc : RdS I vc c) (hsc : SmC c) (v : Value) (l : List Rep) (hv : RdS I v l) (hl : l.length ≤ 1000000) (hsl : ∀ r ∈ l, ∀ e ∈ r.options, SmE e) (hC : validC c = true) (hP : ∀ r ∈ l, chs r ≠ 0) (most : Int) (h1 : 1 ≤ most) (h2 : most ≤ 4096) :
    FnI Tryz.prog 47 #[.agg #[vc], v, .int .i64 most] I (fun u J => RdS J u ((histF c l).take most.toNat)) := by
 have hv0 := hv
 obtain ⟨A, c0, rfl, hA, hc, hm⟩ := hv
 refine enter Tryz.func47 Tryz.call47 rfl Tryz.ntmps47 rfl (fun w0 => ?_)
 refine go 3 ?_
 refine o_box _ rfl rfl rfl (fun g3 => ?_)
 refine go 5 ?_
 refine sx_nilrow 28 1 ?_
 refine go 8 ?_
 refine o_makeSlice he he rfl rfl rfl (by omega) (by omega) rfl (fun g12 => ?_)
 refine sx_pub (fun Ig12 jg12 cg12 => ?_)
 try have hvc := hvc.le jg12
 try have hv0 := hv0.le jg12
 try have hA := hA.le jg12
 try have h8 := h8.le jg12
 try have hF := hF.le jg12
 refine go 10 ?_
 refine c_loop8 ((0 : Nat)) (_) ([]) ([]) (_) ((zeros l.length)) (true) (_) (fun k v7 xs out v8 ch b J => J)
  (fun k v7 xs out v8 ch b J => [(1, .slice A l.length c0), (2, .int .i64 most), (3, .pointer (some ⟨g3, 0, none⟩)), (7, v7), (8, v8), (9, .bool b)])
  (fun k v7 xs out v8 ch b J => [.row v7 28 1 out.length xs, .blk g3 24 [vc]])
  (fun k v7 xs out v8 ch b J => Evy c l most k b ch out ∧ ILe Ig12 J ∧ RdS J v8 ch ∧ Flat J xs out)
  (fun k v7 xs out v8 ch b J => (allCh l).length - k) ⟨Evy.start hP h1, ILe.refl _, intCs_rdn (intCs_rep l.length ▸ cg12) (by simp [zeros]) hl, .nil⟩ rfl sb rfl ?_
 intro k v7 xs out v8 ch b J ⟨hE, hJ, h8, hF⟩
 have h8s := h8
 obtain ⟨A8, c8, rfl, _, _, _⟩ := h8s
 have hol := hE.le
 have hvc := hvc.le hJ
 have hv0 := hv0.le hJ
 have hA := hA.le hJ
 refine sx_rowslice (fun A7 c7 hv7 => ?_)
 subst hv7
 refine go 5 ?_
 refine sxb 14 rfl (fun h14 p14 => ?_) (fun h14 p14 => ?_)
 ·have hEt : Evy c l most k true ch out := by rw [← h14]; exact hE
  refine go 7 ?_
  refine cb rfl (fun h19 p19 => ?_) (fun h19 p19 => ?_)
  ·refine go 10 ?_
   refine o_call (ref16History _ vc c hvc hsc _ l hv0 hl hsl hC hP _ ch h8) rfl rfl (fun v23 I23 j23 q23 => ?_)
   try have hvc := hvc.le j23
   try have hv0 := hv0.le j23
   try have hA := hA.le j23
   try have h8 := h8.le j23
   try have hF := hF.le j23
   obtain rfl := q23
   refine go 2 ?_
   refine cb rfl (fun h23 p23 => ?_) (fun h23 p23 => ?_)
   ·refine go 4 ?_
    refine o_buildSlice he he rfl rfl rfl rfl rfl rfl rfl (fun v26 => ?_)
    refine go 1 ?_
    refine bring1 ?_
    refine o_appendO he he rfl rfl rfl rfl rfl (by omega) (by omega) rfl (fun v27 => ?_)
    refine go 7 ?_
    refine o_call (ref16Next _ _ l hv0 hl hsl _ ch h8 hEt.mem) rfl rfl (fun v31 I31 j31 q31 => ?_)
    try have hvc := hvc.le j31
    try have hv0 := hv0.le j31
    try have hA := hA.le j31
    try have h8 := h8.le j31
    try have hF := hF.le j31
    obtain ⟨w31, rfl, hw31⟩ := q31
    refine go 8 ?_
    refine bring1 ?_
    refine sx_drop ?_
    exact q_next8 (k + 1) (_) (_) (out ++ [ch]) (_) ((nextF l ch).1) ((nextF l ch).2) (_) ⟨hEt.yes hP p19 h23, hJ.trans (j23.trans j31), hw31, hF.append (.one ⟨_, rfl, h8⟩)⟩ (by have := hEt.lt; omega) rfl sb (by first | rfl | (simp only [List.length_append]; rfl))
   ·refine go 6 ?_
    refine o_call (ref16Next _ _ l hv0 hl hsl _ ch h8 hEt.mem) rfl rfl (fun v31 I31 j31 q31 => ?_)
    try have hvc := hvc.le j31
    try have hv0 := hv0.le j31
    try have hA := hA.le j31
    try have h8 := h8.le j31
    try have hF := hF.le j31
    obtain ⟨w31, rfl, hw31⟩ := q31
    refine go 8 ?_
    exact q_next8 (k + 1) (_) (_) (out) (_) ((nextF l ch).1) ((nextF l ch).2) (_) ⟨hEt.no hP h23, hJ.trans (j23.trans j31), hw31, hF⟩ (by have := hEt.lt; omega) rfl sb (by first | rfl | (simp only [List.length_append]; rfl))
  ·refine go 7 ?_
   refine sx_pubrow (l := out) rfl rfl (hF) (fun I34 j34 R34 => ?_)
   refine go 5 ?_
   refine fin1 rfl rfl ?_
   exact q_i (by rw [← hE.end_ (fun _ => p19) h1]; exact R34)
 ·refine go 7 ?_
  refine c_false rfl ?_
  refine go 7 ?_
  refine sx_pubrow (l := out) rfl rfl (hF) (fun I34 j34 R34 => ?_)
  refine go 5 ?_
  refine fin1 rfl rfl ?_
  exact q_i (by rw [← hE.end_ (fun h => by rw [h] at h14; cases h14) h1]; exact R34)

theorem ref16All (I : IMap) (vc : Value) (c : List Kind) (hvc : RdS I vc c) (hsc : SmC c) (v : Value) (l : List Rep) (hv : RdS I v l) (hl : l.length ≤ 1000000) (hsl : ∀ r ∈ l, ∀ e ∈ r.options, SmE e) (most : Int) :
    FnI Tryz.prog 20 #[.agg #[vc], v, .int .i64 most] I (fun u J => ∃ w, u = .tuple #[w, .int .i64 (allF c l most).2] ∧ RdS J w (allF c l most).1) := by
 refine enter Tryz.func20 Tryz.call20 rfl Tryz.ntmps20 rfl (fun w0 => ?_)
 refine go 3 ?_
 refine o_box _ rfl rfl rfl (fun g3 => ?_)
 refine go 10 ?_
 refine sxb 12 rfl (fun h12 p12 => ?_) (fun h12 p12 => ?_)
 ·refine go 5 ?_
  refine c_true rfl ?_
  refine go 8 ?_
  refine fin2 rfl rfl rfl ?_
  have hr : allF c l most = ([], 1) := by unfold allF; rw [if_pos (by simp; omega)]
  exact q_i ⟨_, by rw [hr], by rw [hr]; exact RdS.nil'⟩
 ·refine go 5 ?_
  refine cb rfl (fun h15 p15 => ?_) (fun h15 p15 => ?_)
  ·refine go 8 ?_
   refine fin2 rfl rfl rfl ?_
   have hr : allF c l most = ([], 1) := by unfold allF; rw [if_pos (by simp; omega)]
   exact q_i ⟨_, by rw [hr], by rw [hr]; exact RdS.nil'⟩
  ·have hb2 : 1 ≤ most ∧ most ≤ 4096 := by omega
   have hb : ¬ (decide (most < 1) || decide (4096 < most)) = true := by simp; omega
   refine go 7 ?_
   refine o_callV (ref16Wrong _ vc c hvc hsc _ l hv hl hsl) rfl rfl ?_
   refine go 10 ?_
   refine cb rfl (fun h20 p20 => ?_) (fun h20 p20 => ?_)
   ·refine go 9 ?_
    refine fin2 rfl rfl rfl ?_
    have hr : allF c l most = ([], errF c l) := by unfold allF; rw [if_neg hb, if_pos p20]
    exact q_i ⟨_, by rw [hr], by rw [hr]; exact RdS.nil'⟩
   ·have her : errF c l = 0 := by simpa using h20
    obtain ⟨hC, hP⟩ := err_zero her
    refine go 8 ?_
    refine o_call (ref16Every _ vc c hvc hsc _ l hv hl hsl hC hP most (by omega) (by omega)) rfl rfl (fun v25 I25 j25 q25 => ?_)
    have q25s := q25
    obtain ⟨A25, c25, rfl, _, _, _⟩ := q25s
    refine go 11 ?_
    refine cb rfl (fun h28 p28 => ?_) (fun h28 p28 => ?_)
    ·refine go 8 ?_
     refine fin2 rfl rfl rfl ?_
     have hr : allF c l most = ([], 21) := by unfold allF; rw [if_neg hb, if_neg (by simpa using her), if_pos (List.eq_nil_of_length_eq_zero (by omega))]
     exact q_i ⟨_, by rw [hr], by rw [hr]; exact RdS.nil'⟩
    ·refine go 10 ?_
     refine fin2 rfl rfl rfl ?_
     have hr : allF c l most = ((histF c l).take most.toNat, 0) := by unfold allF; rw [if_neg hb, if_neg (by simpa using her), if_neg (fun e => by rw [e, List.length_nil] at p28; omega)]
     exact q_i ⟨_, by rw [hr], by rw [hr]; exact q25⟩

end Go.Proofs.YtoadjlmbdliceaaGreat

/- What a valid state is, part by part; an event that happens keeps it. -/
set_option linter.all false
namespace Go.Sx
open Go
theorem allP_iff {α : Type} {f : List α → α → Bool} {l : List α} : allP f l l.length = true ↔ ∀ (i : Nat) (h : i < l.length), f (l.take i) l[i] = true := by
  rw [allP, List.all_eq_true]
  constructor
  · intro h i hi
    have := h i (List.mem_range.2 hi)
    simpa only [List.getElem?_eq_getElem hi] using this
  · intro h i hi
    have hi := List.mem_range.1 hi
    simp only [List.getElem?_eq_getElem hi]
    exact h i hi
theorem allP_all {α : Type} {f : α → Bool} {l : List α} : allP (fun _ x => f x) l l.length = true ↔ ∀ x ∈ l, f x = true := by
  rw [allP_iff]
  constructor
  · intro h x hx; obtain ⟨i, hi, rfl⟩ := List.getElem_of_mem hx; exact h i hi
  · intro h i hi; exact h _ (List.getElem_mem hi)
theorem ord_iff {α : Type} {nm : α → ByteArray} {l : List α} : ordF nm l = true ↔ Inc nm l := by
  constructor
  · exact fun h => inc_of (Srt.of_ord h)
  · intro h
    unfold ordF
    rw [allP_iff]
    intro i hi
    unfold ordAt
    cases i with
    | zero => simp
    | succ i =>
      have : (l.take (i + 1)).getLast? = some l[i] := by
        rw [List.getLast?_eq_getElem?, List.length_take, Nat.min_eq_left (by omega), List.getElem?_take, if_pos (by omega)]
        simp
      rw [this]
      exact (List.pairwise_iff_getElem.1 h) i (i + 1) (by omega) hi (by omega)
/-- a part in its place -/
structure Sits (c : List Kind) (st : List Part) (p : Part) : Prop where
  alive : p.scrapped = false
  host : ∃ q, q ∈ st ∧ q.name = p.into ∧ q.scrapped = false ∧ takesF c q.kind p.slot p.kind = true
structure VS (c : List Kind) (st : List Part) : Prop where
  cat : validC c = true
  len : st.length ≤ 20000
  inc : Inc Part.name st
  right : ∀ p ∈ st, rightP c p = true
  both : ∀ p ∈ st, (p.into = nil8 ↔ p.slot = nil8)
  sits : ∀ p ∈ st, p.into ≠ nil8 → Sits c st p
  apart : ∀ p ∈ st, ∀ q ∈ st, p.into ≠ nil8 → p.into = q.into → p.slot = q.slot → p = q
theorem seated_hit {pre : List Part} {x : ByteArray × ByteArray} : hit seatOf (seated pre) x = true ↔ ∃ q ∈ pre, q.into ≠ nil8 ∧ seatOf q = x := by
  rw [hit_eq, List.any_eq_true]
  constructor
  · rintro ⟨q, hq, he⟩
    rw [seated, List.mem_filter] at hq
    exact ⟨q, hq.1, by simpa using hq.2, by simpa using he⟩
  · rintro ⟨q, h1, h2, h3⟩
    exact ⟨q, by rw [seated, List.mem_filter]; exact ⟨h1, by simpa using h2⟩, by simpa using h3⟩
theorem inc_idx {l : List Part} (h : Inc Part.name l) {i j : Nat} {hi : i < l.length} {hj : j < l.length} (he : l[i] = l[j]) : i = j := by
  rw [Inc, List.pairwise_iff_getElem] at h
  rcases Nat.lt_trichotomy i j with hij | hij | hij
  · have := h i j hi hj hij; rw [he, sLt_irrefl] at this; cases this
  · exact hij
  · have := h j i hj hi hij; rw [he, sLt_irrefl] at this; cases this
theorem validS_iff {c : List Kind} {st : List Part} : validS c st = true ↔ VS c st := by
  unfold validS bad0S
  simp only [Bool.and_eq_true, Bool.not_eq_true', Bool.or_eq_false_iff, Bool.not_eq_false', decide_eq_false_iff_not]
  rw [ord_iff, allP_iff]
  constructor
  · rintro ⟨⟨⟨h1, h2⟩, h3⟩, h4⟩
    have key : ∀ (i : Nat) (hi : i < st.length), rightP c st[i] = true ∧ (st[i].into = nil8 ↔ st[i].slot = nil8) ∧ (st[i].into ≠ nil8 → Sits c st st[i] ∧ ∀ q ∈ st.take i, q.into ≠ nil8 → seatOf q ≠ seatOf st[i]) := by
      intro i hi
      have h5 := h4 i hi
      simp only [partFine, bad1P, Bool.and_eq_true, Bool.not_eq_true', Bool.or_eq_false_iff, Bool.not_eq_false', Bool.or_eq_true, decide_eq_true_eq] at h5
      obtain ⟨⟨h6, h7⟩, h8⟩ := h5
      refine ⟨h6, ?_, fun hne => ?_⟩
      · have h7 : decide (st[i].into = nil8) = decide (st[i].slot = nil8) := by simpa using h7
        by_cases ha : st[i].into = nil8 <;> by_cases hb : st[i].slot = nil8 <;> simp [ha, hb] at h7 ⊢
      · rcases h8 with h8 | h8
        · exact absurd h8 hne
        · simp only [bad2P, Bool.or_eq_false_iff, Bool.not_eq_false'] at h8
          obtain ⟨⟨⟨⟨h9, h10⟩, h11⟩, h12⟩, h13⟩ := h8
          obtain ⟨q, hq⟩ := Option.isSome_iff_exists.1 h9
          rw [hq] at h11 h13
          have hq' := (find_iff h3).1 hq
          refine ⟨⟨h10, q, hq'.1, hq'.2, h11, h13⟩, fun q' hq' hn he => ?_⟩
          have : hit seatOf (seated (st.take i)) (seatOf st[i]) = true := seated_hit.2 ⟨q', hq', hn, he⟩
          rw [h12] at this; cases this
    refine ⟨h1, by omega, h3, fun p hp => ?_, fun p hp => ?_, fun p hp => ?_, fun p hp q hq hn he hs => ?_⟩
    · obtain ⟨i, hi, rfl⟩ := List.getElem_of_mem hp; exact (key i hi).1
    · obtain ⟨i, hi, rfl⟩ := List.getElem_of_mem hp; exact (key i hi).2.1
    · obtain ⟨i, hi, rfl⟩ := List.getElem_of_mem hp; exact fun h => ((key i hi).2.2 h).1
    · obtain ⟨i, hi, rfl⟩ := List.getElem_of_mem hp
      obtain ⟨j, hj, rfl⟩ := List.getElem_of_mem hq
      have hse : seatOf st[i] = seatOf st[j] := by simp [seatOf, he, hs]
      rcases Nat.lt_trichotomy i j with hij | rfl | hij
      · exact absurd hse (((key j hj).2.2 (by rw [← he]; exact hn)).2 st[i] (by rw [List.mem_iff_getElem?]; exact ⟨i, by rw [List.getElem?_take, if_pos hij]; simp⟩) hn)
      · rfl
      · exact absurd hse.symm (((key i hi).2.2 hn).2 st[j] (by rw [List.mem_iff_getElem?]; exact ⟨j, by rw [List.getElem?_take, if_pos hij]; simp⟩) (by rw [← he]; exact hn))
  · intro h
    refine ⟨⟨⟨h.cat, by have := h.len; omega⟩, h.inc⟩, fun i hi => ?_⟩
    have hm := List.getElem_mem hi
    have hb := h.both _ hm
    simp only [partFine, bad1P, Bool.and_eq_true, Bool.not_eq_true', Bool.or_eq_false_iff, Bool.not_eq_false', Bool.or_eq_true, decide_eq_true_eq]
    refine ⟨⟨h.right _ hm, ?_⟩, ?_⟩
    · by_cases ha : st[i].into = nil8
      · simp [ha, hb.1 ha]
      · have : ¬ st[i].slot = nil8 := fun hs => ha (hb.2 hs)
        simp [ha, this]
    · by_cases ha : st[i].into = nil8
      · exact .inl ha
      · right
        obtain ⟨h1, q, h2, h3, h4, h5⟩ := h.sits _ hm ha
        have hf : findP st st[i].into = some q := (find_iff h.inc).2 ⟨h2, h3⟩
        simp only [bad2P, Bool.or_eq_false_iff, Bool.not_eq_false']
        rw [hf]
        refine ⟨⟨⟨⟨rfl, h1⟩, h4⟩, ?_⟩, h5⟩
        rw [Bool.eq_false_iff]
        intro hh
        obtain ⟨q', h6, h7, h8⟩ := seated_hit.1 hh
        have h9 : q' ∈ st := List.mem_of_mem_take h6
        have h10 : q' = st[i] := h.apart _ h9 _ hm h7 (congrArg (·.1) h8) (congrArg (·.2) h8)
        obtain ⟨j, hj, hje⟩ := List.getElem_of_mem h6
        rw [List.length_take] at hj
        rw [List.getElem_take, h10] at hje
        have := inc_idx h.inc hje
        omega
/-! what an event does -/
/-- the part that an event leaves behind, if it is possible -/
structure Step (c : List Kind) (st : List Part) (e : Evt) (p' : Part) : Prop where
  vs : VS c st
  ve : validE e = true
  how : (e.op = 1 ∧ findP st e.part = none ∧ (findK c e.kind).isSome = true ∧ st.length ≠ 20000 ∧ p' = newP e) ∨
    ∃ p, findP st e.part = some p ∧ p.scrapped = false ∧
      ((e.op = 2 ∧ ∃ q, findP st e.into = some q ∧ q.scrapped = false ∧ ((findK c p.kind).getD zKind).vehicle = false ∧ takesF c q.kind e.slot p.kind = true ∧ p.into = nil8 ∧ seatTaken st e = false ∧ p' = { p with into := e.into, slot := e.slot }) ∨
       (e.op = 3 ∧ p.into ≠ nil8 ∧ p' = { p with into := nil8, slot := nil8 }) ∨
       (e.op = 4 ∧ ((findK c p.kind).getD zKind).vehicle = true ∧ p' = p) ∨
       (e.op = 5 ∧ p' = overhauled e p) ∨
       (e.op = 6 ∧ (noted e p).props.length ≤ 60 ∧ p' = noted e p) ∨
       (e.op = 7 ∧ p.into = nil8 ∧ holdsAny st p.name = false ∧ p' = { p with scrapped := true }))
theorem validE_op {e : Evt} (h : validE e = true) : 1 ≤ e.op ∧ e.op < 8 := by
  simp only [validE, evBad, Bool.and_eq_true, Bool.not_eq_true', Bool.or_eq_false_iff, decide_eq_false_iff_not] at h
  have := h.1.1.1.1.1.1
  rw [wordOf_empty] at this
  omega
theorem apply_of {c : List Kind} {st : List Part} {e : Evt} {p' : Part} (h : Step c st e p') : applyF c st e = putR st p' := by
  have hv := validS_iff.2 h.vs
  unfold applyF
  rw [if_neg (by simp [hv, h.ve])]
  rcases h.how with ⟨h1, h2, h3, h4, rfl⟩ | ⟨p, h1, h2, h3⟩
  · rw [if_pos h1]
    unfold applyMake
    rw [if_neg (by simp [h2]), if_neg (by simp [h3]), if_neg (by omega)]
  · have hpp : partP st e = p := by simp [partP, h1]
    have h5 := validE_op h.ve
    rcases h3 with ⟨h3, q, h4, h6, h7, h8, h9, h10, rfl⟩ | ⟨h3, h4, rfl⟩ | ⟨h3, h4, rfl⟩ | ⟨h3, rfl⟩ | ⟨h3, h4, rfl⟩ | ⟨h3, h4, h6, rfl⟩
    · have ho : otherO st e = some q := by simp [otherO, h3, h4]
      simp only [applyRest, h3, ho, h1, hpp, otherP, kindP, h2, h6, applyOp, applyFit, h7, h8, h9, h10, Option.isSome_some, Option.getD_some]
      simp
    · have ho : otherO st e = some p := by simp [otherO, h3, h1]
      simp only [applyRest, h3, ho, h1, hpp, otherP, kindP, h2, applyOp, applyRemove, Option.isSome_some, Option.getD_some]
      simp [h4]
    · have ho : otherO st e = some p' := by simp [otherO, h3, h1]
      simp only [applyRest, h3, ho, h1, hpp, otherP, kindP, h2, applyOp, applyRun, h4, Option.isSome_some, Option.getD_some]
      simp
    · have ho : otherO st e = some p := by simp [otherO, h3, h1]
      simp only [applyRest, h3, ho, h1, hpp, otherP, kindP, h2, applyOp, Option.isSome_some, Option.getD_some]
      simp
    · have ho : otherO st e = some p := by simp [otherO, h3, h1]
      simp only [applyRest, h3, ho, h1, hpp, otherP, kindP, h2, applyOp, applyNote, Option.isSome_some, Option.getD_some]
      simp; omega
    · have ho : otherO st e = some p := by simp [otherO, h3, h1]
      simp only [applyRest, h3, ho, h1, hpp, otherP, kindP, h2, applyOp, applyScrap, h4, h6, Option.isSome_some, Option.getD_some]
      simp
theorem of_apply {c : List Kind} {st : List Part} {e : Evt} (h : (applyF c st e).2 = 0) : ∃ p', Step c st e p' := by
  unfold applyF at h
  split at h
  · cases h
  · rename_i hv
    have hv : validS c st = true ∧ validE e = true := by simpa using hv
    have hop := validE_op hv.2
    split at h
    · rename_i h1
      unfold applyMake at h
      split at h
      · cases h
      · rename_i h2
        split at h
        · cases h
        · rename_i h3
          split at h
          · cases h
          · rename_i h4
            exact ⟨_, validS_iff.1 hv.1, hv.2, .inl ⟨h1, by simpa using h2, by rw [Option.isSome_iff_ne_none]; simpa using h3, by omega, rfl⟩⟩
    · rename_i h1
      unfold applyRest at h
      split at h
      · cases h
      · rename_i h2
        split at h
        · cases h
        · rename_i h3
          have h2 : (findP st e.part).isSome = true ∧ (otherO st e).isSome = true := by rw [Option.isSome_iff_ne_none, Option.isSome_iff_ne_none]; simpa using h2
          obtain ⟨p, hp⟩ := Option.isSome_iff_exists.1 h2.1
          obtain ⟨q, hq⟩ := Option.isSome_iff_exists.1 h2.2
          have hpp : partP st e = p := by simp [partP, hp]
          have hqq : otherP st e = q := by simp [otherP, hq]
          have hkk : kindP c st e = (findK c p.kind).getD zKind := by simp [kindP, hpp]
          rw [hpp, hqq] at h3
          have h3 : p.scrapped = false ∧ q.scrapped = false := by simpa using h3
          rw [hpp, hqq, hkk] at h
          unfold applyOp at h
          split at h
          · rename_i h4
            unfold applyFit at h
            split at h
            · cases h
            · rename_i h5
              split at h
              · cases h
              · rename_i h6
                split at h
                · cases h
                · rename_i h7
                  have h5 : ((findK c p.kind).getD zKind).vehicle = false ∧ takesF c q.kind e.slot p.kind = true := by simpa using h5
                  exact ⟨_, validS_iff.1 hv.1, hv.2, .inr ⟨p, hp, h3.1, .inl ⟨h4, q, by simpa [otherO, h4] using hq, h3.2, h5.1, h5.2, by simpa using h6, by simpa using h7, rfl⟩⟩⟩
          · rename_i h4
            split at h
            · rename_i h5
              unfold applyRemove at h
              split at h
              · cases h
              · rename_i h6; exact ⟨_, validS_iff.1 hv.1, hv.2, .inr ⟨p, hp, h3.1, .inr (.inl ⟨h5, h6, rfl⟩)⟩⟩
            · rename_i h5
              split at h
              · rename_i h6
                unfold applyRun at h
                split at h
                · cases h
                · rename_i h7; exact ⟨_, validS_iff.1 hv.1, hv.2, .inr ⟨p, hp, h3.1, .inr (.inr (.inl ⟨h6, by simpa using h7, rfl⟩))⟩⟩
              · rename_i h6
                split at h
                · rename_i h7; exact ⟨_, validS_iff.1 hv.1, hv.2, .inr ⟨p, hp, h3.1, .inr (.inr (.inr (.inl ⟨h7, rfl⟩)))⟩⟩
                · rename_i h7
                  split at h
                  · rename_i h8
                    unfold applyNote at h
                    split at h
                    · cases h
                    · rename_i h9; exact ⟨_, validS_iff.1 hv.1, hv.2, .inr ⟨p, hp, h3.1, .inr (.inr (.inr (.inr (.inl ⟨h8, by omega, rfl⟩))))⟩⟩
                  · rename_i h8
                    split at h
                    · rename_i h9
                      unfold applyScrap at h
                      split at h
                      · cases h
                      · rename_i h10
                        have h10 : p.into = nil8 ∧ holdsAny st p.name = false := by simpa using h10
                        exact ⟨_, validS_iff.1 hv.1, hv.2, .inr ⟨p, hp, h3.1, .inr (.inr (.inr (.inr (.inr ⟨h9, h10.1, h10.2, rfl⟩))))⟩⟩
                    · exfalso; omega
theorem validE_parts {e : Evt} (h : validE e = true) : nameOk e.part = true ∧ 0 ≤ e.day ∧ e.day ≤ 40000 ∧ (e.op = 2 → nameOk e.into = true ∧ nameOk e.slot = true ∧ e.into ≠ e.part) ∧ (e.op = 6 → nameOk e.key = true ∧ e.value ≠ nil8 ∧ ((e.value.size : Nat) : Int) ≤ 200) := by
  simp only [validE, evBad, Bool.and_eq_true, Bool.not_eq_true', Bool.or_eq_false_iff, decide_eq_false_iff_not, Bool.not_eq_false'] at h
  obtain ⟨⟨⟨⟨⟨⟨h1, h2⟩, h3⟩, h4⟩, h5⟩, h6⟩, h7⟩ := h
  refine ⟨h4, by omega, by omega, fun h8 => ?_, fun h8 => ?_⟩
  · have h9 : namesOf e = [e.into, e.slot] := by simp [namesOf, h8]
    rw [h9] at h7
    simp only [List.any_cons, List.any_nil, Bool.or_eq_false_iff, Bool.not_eq_false'] at h7
    have h10 : opBad e = decide (e.into = e.part) := by simp [opBad, h8]
    rw [h10, decide_eq_false_iff_not] at h5
    exact ⟨h7.1, h7.2.1, h5⟩
  · have h9 : namesOf e = [e.key] := by simp [namesOf, h8]
    rw [h9] at h7
    simp only [List.any_cons, List.any_nil, Bool.or_eq_false_iff, Bool.not_eq_false'] at h7
    have h10 : opBad e = (decide (e.value = nil8) || decide ((200 : Int) < (e.value.size : Nat))) := by simp [opBad, h8]
    rw [h10, Bool.or_eq_false_iff, decide_eq_false_iff_not, decide_eq_false_iff_not] at h5
    exact ⟨h7.1, h5.1, by omega⟩
theorem name_ne {s : ByteArray} (h : nameOk s = true) : s ≠ nil8 := by
  rintro rfl
  simp [nameOk] at h
/-- what is right of a part alone -/
structure RP (c : List Kind) (p : Part) : Prop where
  kind : (findK c p.kind).isSome = true
  name : nameOk p.name = true
  made : 0 ≤ p.made
  since : p.made ≤ p.since
  since2 : p.since ≤ 40000
  few : p.props.length ≤ 60
  props : ∀ q ∈ p.props, propOk q = true
  inc : Inc Prp.key p.props
  km : lifeOk p.life.km = true
  cycles : lifeOk p.life.cycles = true
  damage : lifeOk p.life.damage = true
theorem right_iff {c : List Kind} {p : Part} : rightP c p = true ↔ RP c p := by
  unfold rightP partBad
  simp only [Bool.and_eq_true, Bool.not_eq_true', Bool.or_eq_false_iff, Bool.not_eq_false', decide_eq_false_iff_not]
  rw [ord_iff, allP_all]
  constructor
  · rintro ⟨⟨⟨⟨⟨⟨⟨h1, h2⟩, h3⟩, h4⟩, h5⟩, h6⟩, h7⟩, ⟨⟨h8, h9⟩, h10⟩, h11⟩
    exact ⟨h1, h2, by omega, by omega, by omega, by omega, h7, h8, h9, h10, h11⟩
  · rintro ⟨h1, h2, h3, h4, h5, h6, h7, h8, h9, h10, h11⟩
    exact ⟨⟨⟨⟨⟨⟨⟨h1, h2⟩, by omega⟩, by omega⟩, by omega⟩, by omega⟩, h7⟩, ⟨⟨h8, h9⟩, h10⟩, h11⟩
theorem Step.name {c : List Kind} {st : List Part} {e : Evt} {p' : Part} (h : Step c st e p') : p'.name = e.part := by
  rcases h.how with ⟨_, _, _, _, rfl⟩ | ⟨p, h1, _, h3⟩
  · rfl
  · have hn : p.name = e.part := ((find_iff h.vs.inc).1 h1).2
    rcases h3 with ⟨_, q, _, _, _, _, _, _, rfl⟩ | ⟨_, _, rfl⟩ | ⟨_, _, rfl⟩ | ⟨_, rfl⟩ | ⟨_, _, rfl⟩ | ⟨_, _, _, rfl⟩ <;> exact hn
theorem Step.kind {c : List Kind} {st : List Part} {e : Evt} {p' p : Part} (h : Step c st e p') (hp : findP st e.part = some p) : p'.kind = p.kind := by
  rcases h.how with ⟨_, h2, _, _, rfl⟩ | ⟨p0, h1, _, h3⟩
  · rw [hp] at h2; cases h2
  · rw [hp] at h1; cases h1
    rcases h3 with ⟨_, q, _, _, _, _, _, _, rfl⟩ | ⟨_, _, rfl⟩ | ⟨_, _, rfl⟩ | ⟨_, rfl⟩ | ⟨_, _, rfl⟩ | ⟨_, _, _, rfl⟩ <;> rfl
theorem Step.right {c : List Kind} {st : List Part} {e : Evt} {p' : Part} (h : Step c st e p') : RP c p' := by
  obtain ⟨v1, v2, v3, v4, v5⟩ := validE_parts h.ve
  rcases h.how with ⟨_, _, h3, _, rfl⟩ | ⟨p, h1, _, h3⟩
  · exact ⟨h3, v1, v2, Int.le_refl _, v3, by simp [newP], fun _ h => by simp [newP] at h, by simp [newP, Inc], rfl, rfl, rfl⟩
  · have hr := right_iff.1 (h.vs.right p ((find_iff h.vs.inc).1 h1).1)
    rcases h3 with ⟨_, q, _, _, _, _, _, _, rfl⟩ | ⟨_, _, rfl⟩ | ⟨_, _, rfl⟩ | ⟨_, rfl⟩ | ⟨h6, h7, rfl⟩ | ⟨_, _, _, rfl⟩
    · exact ⟨hr.kind, hr.name, hr.made, hr.since, hr.since2, hr.few, hr.props, hr.inc, hr.km, hr.cycles, hr.damage⟩
    · exact ⟨hr.kind, hr.name, hr.made, hr.since, hr.since2, hr.few, hr.props, hr.inc, hr.km, hr.cycles, hr.damage⟩
    · exact hr
    · have hs := hr.since
      have hs2 := hr.since2
      refine ⟨hr.kind, hr.name, hr.made, ?_, ?_, hr.few, hr.props, hr.inc, rfl, rfl, rfl⟩
      · show p.made ≤ (if e.day > p.since then e.day else p.since); split <;> omega
      · show (if e.day > p.since then e.day else p.since) ≤ 40000; split <;> omega
    · obtain ⟨k1, k2, k3⟩ := v5 h6
      refine ⟨hr.kind, hr.name, hr.made, hr.since, hr.since2, h7, fun q hq => ?_, put_inc _ hr.inc, hr.km, hr.cycles, hr.damage⟩
      rcases (put_mem hr.inc).1 hq with rfl | ⟨hq, _⟩
      · simp only [propOk, k1, Bool.true_and, Bool.and_eq_true, Bool.not_eq_true', decide_eq_false_iff_not, decide_eq_true_eq]
        exact ⟨k2, k3⟩
      · exact hr.props q hq
    · exact ⟨hr.kind, hr.name, hr.made, hr.since, hr.since2, hr.few, hr.props, hr.inc, hr.km, hr.cycles, hr.damage⟩
theorem taken_iff {st : List Part} {e : Evt} : seatTaken st e = false ↔ ∀ x ∈ st, ¬ (x.into = e.into ∧ x.slot = e.slot) := by
  unfold seatTaken
  rw [List.any_eq_false]
  simp
theorem holds_iff {st : List Part} {s : ByteArray} : holdsAny st s = false ↔ ∀ x ∈ st, x.into ≠ s := by
  unfold holdsAny
  rw [List.any_eq_false]
  simp
theorem Step.valid {c : List Kind} {st : List Part} {e : Evt} {p' : Part} (h : Step c st e p') : VS c (putL Part.name st p') := by
  have hv := h.vs
  have hi := hv.inc
  have hn := h.name
  obtain ⟨v1, v2, v3, v4, v5⟩ := validE_parts h.ve
  have hm : ∀ z, z ∈ putL Part.name st p' ↔ z = p' ∨ (z ∈ st ∧ z.name ≠ e.part) := fun z => by rw [put_mem hi, hn]
  -- the new part in its place
  have hpl : (p'.into = nil8 ↔ p'.slot = nil8) ∧ (p'.into ≠ nil8 → p'.scrapped = false ∧ ∃ q, q ∈ st ∧ q.name = p'.into ∧ q.scrapped = false ∧ takesF c q.kind p'.slot p'.kind = true) ∧
      (p'.into ≠ nil8 → ∀ z ∈ st, z.name ≠ e.part → ¬ (z.into = p'.into ∧ z.slot = p'.slot)) ∧ (p'.scrapped = true → ∀ z ∈ st, z.into ≠ e.part) := by
    rcases h.how with ⟨_, h2, _, _, rfl⟩ | ⟨p, h1, h2, h3⟩
    · exact ⟨⟨fun _ => rfl, fun _ => rfl⟩, fun h => absurd rfl h, fun h => absurd rfl h, fun h => by cases h⟩
    · have hp := (find_iff hi).1 h1
      have hb := hv.both p hp.1
      have hold : p.into ≠ nil8 → p.scrapped = false ∧ ∃ q, q ∈ st ∧ q.name = p.into ∧ q.scrapped = false ∧ takesF c q.kind p.slot p.kind = true := fun hne => by
        obtain ⟨s1, q, s2, s3, s4, s5⟩ := hv.sits p hp.1 hne
        exact ⟨s1, q, s2, s3, s4, s5⟩
      have hap : p.into ≠ nil8 → ∀ z ∈ st, z.name ≠ e.part → ¬ (z.into = p.into ∧ z.slot = p.slot) := fun hne z hz hzn ⟨e1, e2⟩ => by
        have := hv.apart p hp.1 z hz hne e1.symm e2.symm
        subst this
        exact hzn hp.2
      rcases h3 with ⟨o1, q, o2, o3, o4, o5, o6, o7, rfl⟩ | ⟨_, _, rfl⟩ | ⟨_, _, rfl⟩ | ⟨_, rfl⟩ | ⟨_, _, rfl⟩ | ⟨_, o2, o3, rfl⟩
      · obtain ⟨k1, k2, k3⟩ := v4 o1
        have hq := (find_iff hi).1 o2
        exact ⟨⟨fun hh => absurd hh (name_ne k1), fun hh => absurd hh (name_ne k2)⟩, fun _ => ⟨h2, q, hq.1, hq.2, o3, o5⟩, fun _ z hz _ => taken_iff.1 o7 z hz, fun hh => by
          have : p.scrapped = true := hh
          rw [h2] at this; cases this⟩
      · exact ⟨⟨fun _ => rfl, fun _ => rfl⟩, fun h => absurd rfl h, fun h => absurd rfl h, fun hh => by
          have : p.scrapped = true := hh
          rw [h2] at this; cases this⟩
      · exact ⟨hb, hold, hap, fun hh => by rw [h2] at hh; cases hh⟩
      · exact ⟨hb, hold, hap, fun hh => by
          have : p.scrapped = true := hh
          rw [h2] at this; cases this⟩
      · exact ⟨hb, hold, hap, fun hh => by
          have : p.scrapped = true := hh
          rw [h2] at this; cases this⟩
      · exact ⟨hb, fun hne => absurd o2 hne, fun hne => absurd o2 hne, fun _ z hz => by rw [← hp.2]; exact holds_iff.1 o3 z hz⟩
  obtain ⟨c1, c2, c3, c4⟩ := hpl
  have hk : ∀ q ∈ st, q.name = e.part → p'.kind = q.kind := fun q hq hqn => h.kind ((find_iff hi).2 ⟨hq, hqn⟩)
  refine ⟨hv.cat, ?_, put_inc _ hi, fun z hz => ?_, fun z hz => ?_, fun z hz hne => ?_, fun z hz w hw hne e1 e2 => ?_⟩
  · rw [put_len hi, at_find hi, hn]
    split
    · exact hv.len
    · rename_i hnf
      rcases h.how with ⟨_, _, _, h4, _⟩ | ⟨p, h1, _, _⟩
      · have := hv.len; omega
      · exact absurd (by rw [show st.find? (fun y => decide (y.name = e.part)) = some p from h1]; rfl) hnf
  · rcases (hm z).1 hz with rfl | ⟨hz, _⟩
    · exact right_iff.2 h.right
    · exact hv.right z hz
  · rcases (hm z).1 hz with rfl | ⟨hz, _⟩
    · exact c1
    · exact hv.both z hz
  · rcases (hm z).1 hz with rfl | ⟨hz, hzn⟩
    · obtain ⟨d1, q, d2, d3, d4, d5⟩ := c2 hne
      by_cases hq : q.name = e.part
      · exact ⟨d1, z, (hm z).2 (.inl rfl), by rw [hn, ← hq, d3], d1, by rw [hk q d2 hq]; rw [hk q d2 hq] at d5; exact d5⟩
      · exact ⟨d1, q, (hm q).2 (.inr ⟨d2, hq⟩), d3, d4, d5⟩
    · obtain ⟨d1, q, d2, d3, d4, d5⟩ := hv.sits z hz hne
      by_cases hq : q.name = e.part
      · have hsc : p'.scrapped = false := by
          cases hs : p'.scrapped with
          | false => rfl
          | true => exact absurd (by rw [← d3, hq]) (c4 hs z hz)
        exact ⟨d1, p', (hm p').2 (.inl rfl), by rw [hn, ← hq, d3], hsc, by rw [hk q d2 hq]; exact d5⟩
      · exact ⟨d1, q, (hm q).2 (.inr ⟨d2, hq⟩), d3, d4, d5⟩
  · rcases (hm z).1 hz with hz1 | ⟨hz1, hzn⟩ <;> rcases (hm w).1 hw with hw1 | ⟨hw1, hwn⟩
    · rw [hz1, hw1]
    · subst hz1; exact absurd ⟨e1.symm, e2.symm⟩ (c3 hne w hw1 hwn)
    · subst hw1; exact absurd ⟨e1, e2⟩ (c3 (by rw [← e1]; exact hne) z hz1 hzn)
    · exact hv.apart z hz1 w hw1 hne e1 e2
/-! two events, the one for the other -/
def mentions (e : Evt) : List ByteArray := if e.op = 2 then [e.part, e.into] else [e.part]
theorem Step.swap {c : List Kind} {st : List Part} {x y : Evt} {p1 p2 : Part} (hx : Step c st x p1) (hy : Step c (putL Part.name st p1) y p2) (h3 : x.op ≠ 3) (h3' : y.op ≠ 3) (hd : ∀ s ∈ mentions x, s ∉ mentions y) :
    Step c st y p2 ∧ Step c (putL Part.name st p2) x p1 := by
  have hi := hx.vs.inc
  have n1 := hx.name
  have n2 := hy.name
  have xp : x.part ∈ mentions x := by unfold mentions; split <;> simp
  have yp : y.part ∈ mentions y := by unfold mentions; split <;> simp
  have hne : x.part ≠ y.part := fun e => hd _ xp (by rw [e]; exact yp)
  have vx := validE_parts hx.ve
  have vy := validE_parts hy.ve
  have f1 : ∀ s, s ≠ x.part → findP (putL Part.name st p1) s = findP st s := fun s hs => by
    unfold findP; rw [put_find hi, n1, if_neg (fun e => hs e.symm)]
  have f2 : ∀ s, s ≠ y.part → findP (putL Part.name st p2) s = findP st s := fun s hs => by
    unfold findP; rw [put_find hi, n2, if_neg (fun e => hs e.symm)]
  have m1 : ∀ z, z ∈ putL Part.name st p1 ↔ z = p1 ∨ (z ∈ st ∧ z.name ≠ x.part) := fun z => by rw [put_mem hi, n1]
  have m2 : ∀ z, z ∈ putL Part.name st p2 ↔ z = p2 ∨ (z ∈ st ∧ z.name ≠ y.part) := fun z => by rw [put_mem hi, n2]
  -- where the part of x was, and is
  have wx : ∀ z ∈ st, z.name = x.part → z.into ≠ nil8 → p1.into = z.into ∧ p1.slot = z.slot := fun z hz hzn hzi => by
    rcases hx.how with ⟨_, h2, _, _, _⟩ | ⟨p, h1, _, h3x⟩
    · exact absurd hzn (find_none.1 h2 z hz)
    · have hp := (find_iff hi).1 h1
      have : z = p := inc_uniq hi hz hp.1 (by rw [hzn, hp.2])
      subst this
      rcases h3x with ⟨_, q, _, _, _, _, o6, _, rfl⟩ | ⟨o1, _, _⟩ | ⟨_, _, rfl⟩ | ⟨_, rfl⟩ | ⟨_, _, rfl⟩ | ⟨_, _, _, rfl⟩
      · exact absurd o6 hzi
      · exact absurd o1 h3
      all_goals exact ⟨rfl, rfl⟩
  have hyst : Step c st y p2 := by
    refine ⟨hx.vs, hy.ve, ?_⟩
    rcases hy.how with ⟨o1, o2, o3, o4, o5⟩ | ⟨p, h1, h2, h3y⟩
    · rw [f1 _ (Ne.symm hne)] at o2
      refine .inl ⟨o1, o2, o3, fun hl => o4 ?_, o5⟩
      have := hx.vs.len
      rw [put_len hi, at_find hi, n1]
      split
      · exact hl
      · rename_i hnf
        rcases hx.how with ⟨_, _, _, h4, _⟩ | ⟨p, h1, _, _⟩
        · exact absurd hl h4
        · exact absurd (by rw [show st.find? (fun y => decide (y.name = x.part)) = some p from h1]; rfl) hnf
    · rw [f1 _ (Ne.symm hne)] at h1
      refine .inr ⟨p, h1, h2, ?_⟩
      rcases h3y with ⟨o1, q, o2, o3, o4, o5, o6, o7, o8⟩ | ⟨o1, _, _⟩ | h | h | h | ⟨o1, o2, o3, o4⟩
      · have hyi : y.into ∈ mentions y := by simp [mentions, o1]
        have hni : y.into ≠ x.part := fun e => hd _ xp (by rw [← e]; exact hyi)
        rw [f1 _ hni] at o2
        refine .inl ⟨o1, q, o2, o3, o4, o5, o6, taken_iff.2 fun z hz ⟨e1, e2⟩ => ?_, o8⟩
        by_cases hzn : z.name = x.part
        · obtain ⟨w1, w2⟩ := wx z hz hzn (by rw [e1]; exact name_ne (vy.2.2.2.1 o1).1)
          exact taken_iff.1 o7 p1 ((m1 _).2 (.inl rfl)) ⟨by rw [w1, e1], by rw [w2, e2]⟩
        · exact taken_iff.1 o7 z ((m1 _).2 (.inr ⟨hz, hzn⟩)) ⟨e1, e2⟩
      · exact absurd o1 h3'
      · exact .inr (.inr (.inl h))
      · exact .inr (.inr (.inr (.inl h)))
      · exact .inr (.inr (.inr (.inr (.inl h))))
      · refine .inr (.inr (.inr (.inr (.inr ⟨o1, o2, holds_iff.2 fun z hz e1 => ?_, o4⟩))))
        have hp := (find_iff hi).1 h1
        by_cases hzn : z.name = x.part
        · obtain ⟨w1, w2⟩ := wx z hz hzn (by rw [e1, hp.2]; exact name_ne vy.1)
          exact holds_iff.1 o3 p1 ((m1 _).2 (.inl rfl)) (by rw [w1, e1])
        · exact holds_iff.1 o3 z ((m1 _).2 (.inr ⟨hz, hzn⟩)) e1
  refine ⟨hyst, hyst.valid, hx.ve, ?_⟩
  -- where the part of y is
  have wy : ∀ s, s ∈ mentions x → s ≠ nil8 → p2.into = s → ∃ z ∈ st, z.into = s ∧ z.slot = p2.slot ∧ z.name = y.part := fun s hs hsn he => by
    rcases hyst.how with ⟨_, h2, _, _, rfl⟩ | ⟨p, h1, _, h3y⟩
    · exact absurd he.symm hsn
    · have hp := (find_iff hi).1 h1
      rcases h3y with ⟨o1, q, _, _, _, _, o6, _, rfl⟩ | ⟨o1, _, _⟩ | ⟨_, _, rfl⟩ | ⟨_, rfl⟩ | ⟨_, _, rfl⟩ | ⟨_, _, _, rfl⟩
      · exact absurd (by rw [← he]; simp [mentions, o1]) (hd s hs)
      · exact absurd o1 h3'
      all_goals exact ⟨_, hp.1, he, rfl, hp.2⟩
  rcases hx.how with ⟨o1, o2, o3, o4, o5⟩ | ⟨p, h1, h2, h3x⟩
  · refine .inl ⟨o1, by rw [f2 _ hne]; exact o2, o3, fun hl => ?_, o5⟩
    rw [put_len hi, at_find hi, n2] at hl
    split at hl
    · exact o4 hl
    · rename_i hnf
      rcases hy.how with ⟨_, _, _, h4, _⟩ | ⟨p, h1, _, _⟩
      · apply h4
        rw [put_len hi, at_find hi, n1, if_neg]
        · exact hl
        · rw [show st.find? (fun y => decide (y.name = x.part)) = none from o2]; simp
      · rw [f1 _ (Ne.symm hne)] at h1
        exact hnf (by rw [show st.find? (fun z => decide (z.name = y.part)) = some p from h1]; rfl)
  · refine .inr ⟨p, by rw [f2 _ hne]; exact h1, h2, ?_⟩
    have hp := (find_iff hi).1 h1
    rcases h3x with ⟨o1, q, o2, o3, o4, o5, o6, o7, o8⟩ | ⟨o1, _, _⟩ | h | h | h | ⟨o1, o2, o3, o4⟩
    · have hxi : x.into ∈ mentions x := by simp [mentions, o1]
      have hni : x.into ≠ y.part := fun e => hd _ hxi (by rw [e]; exact yp)
      refine .inl ⟨o1, q, by rw [f2 _ hni]; exact o2, o3, o4, o5, o6, taken_iff.2 fun z hz ⟨e1, e2⟩ => ?_, o8⟩
      rcases (m2 z).1 hz with rfl | ⟨hz, _⟩
      · obtain ⟨w, hw, w1, w2, _⟩ := wy _ hxi (name_ne (vx.2.2.2.1 o1).1) e1
        exact taken_iff.1 o7 w hw ⟨w1, by rw [w2, e2]⟩
      · exact taken_iff.1 o7 z hz ⟨e1, e2⟩
    · exact absurd o1 h3
    · exact .inr (.inr (.inl h))
    · exact .inr (.inr (.inr (.inl h)))
    · exact .inr (.inr (.inr (.inr (.inl h))))
    · refine .inr (.inr (.inr (.inr (.inr ⟨o1, o2, holds_iff.2 fun z hz e1 => ?_, o4⟩))))
      rcases (m2 z).1 hz with rfl | ⟨hz, _⟩
      · obtain ⟨w, hw, w1, _, _⟩ := wy _ xp (name_ne vx.1) (by rw [e1, hp.2])
        exact holds_iff.1 o3 w hw (by rw [w1, hp.2])
      · exact holds_iff.1 o3 z hz e1
end Go.Sx

/- The course with two events exchanged. -/
set_option linter.all false
namespace Go.Sx
open Go
theorem names_of {e : Evt} (hv : validE e = true) (s : ByteArray) : s ∈ namesE e ↔ s ∈ mentions e := by
  unfold namesE mentions
  rw [if_neg (by simp [hv])]
  split
  · unfold minS maxS
    cases h1 : sLt e.part e.into with
    | true => simp
    | false =>
      by_cases h2 : e.part = e.into
      · rw [h2]; simp
      · simp [h2]
        constructor
        · rintro (h | h)
          · exact .inr h
          · exact .inl h
        · rintro (h | h)
          · exact .inr h
          · exact .inl h
  · rfl
end Go.Sx

/- The plain law of HistoryApart: events of parts that have nothing to do with each other. -/
set_option linter.all false
namespace Go.Sx
open Go
/-- a state in two parts: that of the names in D, and that of the others -/
structure Spl (D : ByteArray → Bool) (s a b : List Part) : Prop where
  is : Inc Part.name s
  ia : Inc Part.name a
  ib : Inc Part.name b
  mem : ∀ x, x ∈ s ↔ x ∈ a ∨ x ∈ b
  na : ∀ x ∈ a, D x.name = true ∧ (x.into = nil8 ∨ D x.into = true)
  nb : ∀ x ∈ b, D x.name = false ∧ (x.into = nil8 ∨ D x.into = false)
theorem Spl.nil (D : ByteArray → Bool) : Spl D [] [] [] := ⟨.nil, .nil, .nil, by simp, by simp, by simp⟩
theorem Spl.turn {D : ByteArray → Bool} {s a b : List Part} (h : Spl D s a b) : Spl (fun n => !D n) s b a :=
  ⟨h.is, h.ib, h.ia, fun x => by rw [h.mem x]; exact Or.comm, fun x hx => by simpa using h.nb x hx, fun x hx => by simpa using h.na x hx⟩
theorem Spl.find {D : ByteArray → Bool} {s a b : List Part} (h : Spl D s a b) {n : ByteArray} (hn : D n = true) : findP s n = findP a n := by
  refine Option.ext fun x => ?_
  show s.find? _ = some x ↔ a.find? _ = some x
  rw [find_iff h.is, find_iff h.ia, h.mem x]
  constructor
  · rintro ⟨h1 | h1, h2⟩
    · exact ⟨h1, h2⟩
    · have := (h.nb x h1).1
      rw [h2, hn] at this; cases this
  · rintro ⟨h1, h2⟩
    exact ⟨.inl h1, h2⟩
/-- an event of D alone -/
def Dev (D : ByteArray → Bool) (e : Evt) : Prop := ∀ z ∈ mentions e, D z = true
theorem Dev.part {D : ByteArray → Bool} {e : Evt} (h : Dev D e) : D e.part = true := h _ (by unfold mentions; split <;> simp)
theorem Dev.into {D : ByteArray → Bool} {e : Evt} (h : Dev D e) (ho : e.op = 2) : D e.into = true := h _ (by simp [mentions, ho])
theorem Spl.taken {D : ByteArray → Bool} {s a b : List Part} (h : Spl D s a b) {e : Evt} (hn : D e.into = true) (h0 : e.into ≠ nil8) : seatTaken s e = seatTaken a e := by
  unfold seatTaken
  rw [Bool.eq_iff_iff, List.any_eq_true, List.any_eq_true]
  constructor
  · rintro ⟨x, hx, hp⟩
    rcases (h.mem x).1 hx with h1 | h1
    · exact ⟨x, h1, hp⟩
    · have hi : x.into = e.into := by simp at hp; exact hp.1
      rcases (h.nb x h1).2 with h2 | h2
      · exact absurd (hi.symm.trans h2) h0
      · rw [hi, hn] at h2; cases h2
  · rintro ⟨x, hx, hp⟩
    exact ⟨x, (h.mem x).2 (.inl hx), hp⟩
theorem Spl.holds {D : ByteArray → Bool} {s a b : List Part} (h : Spl D s a b) {n : ByteArray} (hn : D n = true) (h0 : n ≠ nil8) : holdsAny s n = holdsAny a n := by
  unfold holdsAny
  rw [Bool.eq_iff_iff, List.any_eq_true, List.any_eq_true]
  constructor
  · rintro ⟨x, hx, hp⟩
    rcases (h.mem x).1 hx with h1 | h1
    · exact ⟨x, h1, hp⟩
    · have hi : x.into = n := by simpa using hp
      rcases (h.nb x h1).2 with h2 | h2
      · exact absurd (hi.symm.trans h2) h0
      · rw [hi, hn] at h2; cases h2
  · rintro ⟨x, hx, hp⟩
    exact ⟨x, (h.mem x).2 (.inl hx), hp⟩
theorem Spl.step {c : List Kind} {D : ByteArray → Bool} {s a b : List Part} (h : Spl D s a b) {e : Evt} (he : Dev D e) (vs : VS c s) (va : VS c a) (ls : s.length < 20000) (la : a.length < 20000) (p' : Part) : Step c s e p' ↔ Step c a e p' := by
  have f1 := h.find he.part
  constructor
  · intro hs
    obtain ⟨v1, v2, v3, v4, v5⟩ := validE_parts hs.ve
    refine ⟨va, hs.ve, ?_⟩
    rcases hs.how with ⟨h1, h2, h3, h4, h5⟩ | ⟨p, h1, h2, h3⟩
    · exact .inl ⟨h1, by rw [← f1]; exact h2, h3, by omega, h5⟩
    · refine .inr ⟨p, by rw [← f1]; exact h1, h2, ?_⟩
      have hpn : p.name = e.part := ((find_iff h.is).1 h1).2
      rcases h3 with ⟨o1, q, o2, o3, o4, o5, o6, o7, o8⟩ | h3 | h3 | h3 | h3 | ⟨o1, o2, o3, o4⟩
      · exact .inl ⟨o1, q, by rw [← h.find (he.into o1)]; exact o2, o3, o4, o5, o6, by rw [← h.taken (he.into o1) (name_ne (v4 o1).1)]; exact o7, o8⟩
      · exact .inr (.inl h3)
      · exact .inr (.inr (.inl h3))
      · exact .inr (.inr (.inr (.inl h3)))
      · exact .inr (.inr (.inr (.inr (.inl h3))))
      · exact .inr (.inr (.inr (.inr (.inr ⟨o1, o2, by rw [← h.holds (by rw [hpn]; exact he.part) (by rw [hpn]; exact name_ne v1)]; exact o3, o4⟩))))
  · intro hs
    obtain ⟨v1, v2, v3, v4, v5⟩ := validE_parts hs.ve
    refine ⟨vs, hs.ve, ?_⟩
    rcases hs.how with ⟨h1, h2, h3, h4, h5⟩ | ⟨p, h1, h2, h3⟩
    · exact .inl ⟨h1, by rw [f1]; exact h2, h3, by omega, h5⟩
    · refine .inr ⟨p, by rw [f1]; exact h1, h2, ?_⟩
      have hpn : p.name = e.part := ((find_iff h.ia).1 h1).2
      rcases h3 with ⟨o1, q, o2, o3, o4, o5, o6, o7, o8⟩ | h3 | h3 | h3 | h3 | ⟨o1, o2, o3, o4⟩
      · exact .inl ⟨o1, q, by rw [h.find (he.into o1)]; exact o2, o3, o4, o5, o6, by rw [h.taken (he.into o1) (name_ne (v4 o1).1)]; exact o7, o8⟩
      · exact .inr (.inl h3)
      · exact .inr (.inr (.inl h3))
      · exact .inr (.inr (.inr (.inl h3)))
      · exact .inr (.inr (.inr (.inr (.inl h3))))
      · exact .inr (.inr (.inr (.inr (.inr ⟨o1, o2, by rw [h.holds (by rw [hpn]; exact he.part) (by rw [hpn]; exact name_ne v1)]; exact o3, o4⟩))))
theorem Spl.put {c : List Kind} {D : ByteArray → Bool} {s a b : List Part} (h : Spl D s a b) {e : Evt} (he : Dev D e) {p' : Part} (hs : Step c a e p') : Spl D (putL Part.name s p') (putL Part.name a p') b := by
  have hn := hs.name
  refine ⟨put_inc _ h.is, put_inc _ h.ia, h.ib, fun x => ?_, fun x hx => ?_, h.nb⟩
  · rw [put_mem h.is, put_mem h.ia, h.mem x, hn]
    constructor
    · rintro (h1 | ⟨h1 | h1, h2⟩)
      · exact .inl (.inl h1)
      · exact .inl (.inr ⟨h1, h2⟩)
      · exact .inr h1
    · rintro ((h1 | ⟨h1, h2⟩) | h1)
      · exact .inl h1
      · exact .inr ⟨.inl h1, h2⟩
      · refine .inr ⟨.inr h1, fun h2 => ?_⟩
        have := (h.nb x h1).1
        rw [h2, he.part] at this; cases this
  · rcases (put_mem h.ia).1 hx with rfl | ⟨h1, _⟩
    · refine ⟨by rw [hn]; exact he.part, ?_⟩
      rcases hs.how with ⟨_, _, _, _, rfl⟩ | ⟨p, h1, h2, h3⟩
      · exact .inl rfl
      · have hp := h.na p ((find_iff h.ia).1 h1).1
        rcases h3 with ⟨o1, q, o2, o3, o4, o5, o6, o7, rfl⟩ | ⟨_, _, rfl⟩ | ⟨_, _, rfl⟩ | ⟨_, rfl⟩ | ⟨_, _, rfl⟩ | ⟨_, _, _, rfl⟩
        · exact .inr (he.into o1)
        · exact .inl rfl
        · exact hp.2
        · exact hp.2
        · exact hp.2
        · exact hp.2
    · exact h.na x h1
theorem put_le {l : List Part} {x : Part} (h : Inc Part.name l) : (putL Part.name l x).length ≤ l.length + 1 := by
  rw [put_len h]; split <;> omega
theorem step_or (c : List Kind) (s : List Part) (e : Evt) : (∃ p', Step c s e p' ∧ (applyF c s e).2 = 0 ∧ (applyF c s e).1 = putL Part.name s p') ∨ ((applyF c s e).2 ≠ 0 ∧ ∀ p', ¬ Step c s e p') := by
  by_cases h : (applyF c s e).2 = 0
  · obtain ⟨p', hp⟩ := of_apply h
    exact .inl ⟨p', hp, h, by rw [apply_of hp]; rfl⟩
  · exact .inr ⟨h, fun p' hp => h (by rw [apply_of hp]; rfl)⟩
theorem runs_split {c : List Kind} {D : ByteArray → Bool} : ∀ (Z : List Evt) (s a b : List Part), Spl D s a b → VS c s → VS c a → VS c b → s.length + Z.length < 20000 → a.length + Z.length < 20000 → b.length + Z.length < 20000 →
    (∀ e ∈ Z, Dev D e ∨ Dev (fun n => !D n) e) → (runsTo c s Z).isSome = ((runsTo c a (Z.filter fun e => D e.part)).isSome && (runsTo c b (Z.filter fun e => !D e.part)).isSome)
  | [], _, _, _, _, _, _, _, _, _, _, _ => rfl
  | e :: r, s, a, b, h, vs, va, vb, ls, la, lb, hd => by
    simp only [List.length_cons] at ls la lb
    rcases hd e (by simp) with he | he
    · have hp := he.part
      have hst := fun p' => h.step he vs va (by omega) (by omega) p'
      simp only [List.filter_cons, hp, Bool.not_true, if_true, Bool.false_eq_true, if_false]
      rcases step_or c a e with ⟨p', h1, h2, h3⟩ | ⟨h1, h2⟩
      · have h4 := (hst p').2 h1
        have e4 : applyF c s e = putR s p' := apply_of h4
        simp only [runsTo]
        rw [if_pos h2, h3, if_pos (by rw [e4]; rfl), e4]
        have l1 := put_le (x := p') h.is
        have l2 := put_le (x := p') h.ia
        exact runs_split r _ _ _ (h.put he h1) h4.valid h1.valid vb (by show (putL Part.name s p').length + r.length < 20000; omega) (by omega) (by omega) fun x hx => hd x (by simp [hx])
      · simp only [runsTo]
        rw [if_neg h1, if_neg (fun h0 => by obtain ⟨p', hp'⟩ := of_apply h0; exact h2 p' ((hst p').1 hp'))]
        rfl
    · have hp : D e.part = false := by simpa using he.part
      have hst := fun p' => h.turn.step he vs vb (by omega) (by omega) p'
      simp only [List.filter_cons, hp, Bool.not_false, if_true, Bool.false_eq_true, if_false]
      rcases step_or c b e with ⟨p', h1, h2, h3⟩ | ⟨h1, h2⟩
      · have h4 := (hst p').2 h1
        have e4 : applyF c s e = putR s p' := apply_of h4
        simp only [runsTo]
        rw [if_pos h2, h3, if_pos (by rw [e4]; rfl), e4]
        have l1 := put_le (x := p') h.is
        have l2 := put_le (x := p') h.ib
        have ht := (h.turn.put he h1).turn
        have ht : Spl D (putL Part.name s p') a (putL Part.name b p') := ⟨ht.is, ht.ia, ht.ib, ht.mem, fun x hx => by simpa using ht.na x hx, fun x hx => by simpa using ht.nb x hx⟩
        exact runs_split r _ _ _ ht h4.valid va h1.valid (by show (putL Part.name s p').length + r.length < 20000; omega) (by omega) (by omega) fun x hx => hd x (by simp [hx])
      · simp only [runsTo]
        rw [if_neg h1, if_neg (fun h0 => by obtain ⟨p', hp'⟩ := of_apply h0; exact h2 p' ((hst p').1 hp'))]
        simp
theorem vs_nil {c : List Kind} (h : validC c = true) : VS c [] := ⟨h, by simp, .nil, by simp, by simp, by simp, by simp⟩
/-! the law -/
/-! the names that are seen -/
def Seen (kvs : List (ByteArray × Value)) (p : ByteArray → Bool) : Prop := ∀ s, (mget kvs s).getD (.bool false) = .bool (p s)
theorem Seen.nil {p : ByteArray → Bool} (h : ∀ s, p s = false) : Seen [] p := fun s => by rw [h s]; rfl
theorem Seen.put {kvs : List (ByteArray × Value)} {p q : ByteArray → Bool} (h : Seen kvs p) (k : ByteArray) (hq : ∀ s, q s = (p s || decide (k = s))) : Seen (mput kvs k (.bool true)) q := fun s => by
  rw [mget_mput, hq s]
  by_cases hk : k = s
  · simp [hk]
  · simp [hk, h s]
theorem Seen.congr {kvs : List (ByteArray × Value)} {p q : ByteArray → Bool} (h : Seen kvs p) (hq : ∀ s, q s = p s) : Seen kvs q := fun s => by rw [h s, hq s]
end Go.Sx

/- Which reports belong together: forests, roots, components. -/
set_option linter.all false
namespace Go.Sx
open Go
/-! forests -/
/-- the index that an index has -/
def up (F : List Nat) (i : Nat) : Nat := F.getD i i
/-- the root of an index -/
def rt (F : List Nat) (i : Nat) : Nat := if h : up F i < i then rt F (up F i) else i
termination_by i
section
variable {F G : List Nat} {i j x : Nat}
theorem rt_step (h : up F i < i) : rt F i = rt F (up F i) := by rw [rt, dif_pos h]
theorem rt_stop (h : ¬ up F i < i) : rt F i = i := by rw [rt, dif_neg h]
theorem rt_le (F : List Nat) (i : Nat) : rt F i ≤ i := by
  induction i using Nat.strongRecOn with
  | ind i ih =>
    by_cases h : up F i < i
    · rw [rt_step h]; exact Nat.le_trans (ih _ h) (Nat.le_of_lt h)
    · rw [rt_stop h]; exact Nat.le_refl _
theorem rt_root (F : List Nat) (i : Nat) : ¬ up F (rt F i) < rt F i := by
  induction i using Nat.strongRecOn with
  | ind i ih =>
    by_cases h : up F i < i
    · rw [rt_step h]; exact ih _ h
    · rw [rt_stop h]; exact h
theorem rt_idem (F : List Nat) (i : Nat) : rt F (rt F i) = rt F i := rt_stop (rt_root F i)
theorem rt_congr (h : ∀ j, up F j = up G j) (i : Nat) : rt F i = rt G i := by
  induction i using Nat.strongRecOn with
  | ind i ih =>
    by_cases h1 : up F i < i
    · rw [rt_step h1, rt_step (F := G) (by rw [← h]; exact h1), ← h i]; exact ih _ h1
    · rw [rt_stop h1, rt_stop (F := G) (by rw [← h]; exact h1)]
/-- each has a lesser one, or itself -/
def Fst (F : List Nat) : Prop := ∀ i, up F i ≤ i
theorem up_at (hi : i < F.length) : up F i = F[i] := by simp [up, List.getD, hi]
theorem up_set (hi : i < F.length) : up (F.set i x) j = if j = i then x else up F j := by
  unfold up List.getD
  rw [List.getElem?_set]
  by_cases h : i = j
  · subst h; simp [hi]
  · have h2 : ¬ j = i := fun e => h e.symm
    simp [h, h2]
theorem Fst.half (h : Fst F) (hi : i < F.length) : Fst (F.set i (up F (up F i))) ∧ ∀ j, rt (F.set i (up F (up F i))) j = rt F j := by
  refine ⟨fun j => ?_, fun j => ?_⟩
  · rw [up_set hi]
    split
    · rename_i e; subst e; exact Nat.le_trans (h _) (h _)
    · exact h j
  · induction j using Nat.strongRecOn with
    | ind j ih =>
      by_cases e : j = i
      · subst e
        have e1 : up (F.set j (up F (up F j))) j = up F (up F j) := by rw [up_set hi, if_pos rfl]
        by_cases h1 : up F j < j
        · have h2 : up F (up F j) < j := Nat.lt_of_le_of_lt (h _) h1
          rw [rt_step (by rw [e1]; exact h2), e1, ih _ h2, rt_step h1]
          by_cases h3 : up F (up F j) < up F j
          · rw [rt_step h3]
          · have h4 : up F (up F j) = up F j := Nat.le_antisymm (h _) (Nat.not_lt.1 h3)
            rw [h4]
        · have h4 : up F j = j := Nat.le_antisymm (h _) (Nat.not_lt.1 h1)
          rw [rt_stop h1, rt_stop (by rw [e1, h4, h4]; exact Nat.lt_irrefl _)]
      · have e1 : up (F.set i (up F (up F i))) j = up F j := by rw [up_set hi, if_neg e]
        by_cases h1 : up F j < j
        · rw [rt_step (by rw [e1]; exact h1), e1, ih _ h1, rt_step h1]
        · rw [rt_stop h1, rt_stop (by rw [e1]; exact h1)]
theorem Fst.join {a b : Nat} (h : Fst F) (ha : rt F a = a) (hb : rt F b = b) (hab : a ≤ b) (hl : b < F.length) : Fst (F.set b a) ∧ ∀ j, rt (F.set b a) j = if rt F j = b then a else rt F j := by
  have ua : ¬ up F a < a := by have := rt_root F a; rwa [ha] at this
  have ub : ¬ up F b < b := by have := rt_root F b; rwa [hb] at this
  refine ⟨fun j => ?_, fun j => ?_⟩
  · rw [up_set hl]
    split
    · omega
    · exact h j
  · induction j using Nat.strongRecOn with
    | ind j ih =>
      by_cases e : j = b
      · subst e
        have e1 : up (F.set j a) j = a := by rw [up_set hl, if_pos rfl]
        by_cases h1 : a < j
        · rw [rt_step (by rw [e1]; exact h1), e1, ih _ h1, ha, hb, if_pos rfl, if_neg (by omega)]
        · have : a = j := by omega
          subst this
          rw [rt_stop (by rw [e1]; exact h1), ha, if_pos rfl]
      · have e1 : up (F.set b a) j = up F j := by rw [up_set hl, if_neg e]
        by_cases h1 : up F j < j
        · rw [rt_step (by rw [e1]; exact h1), e1, ih _ h1, ← rt_step h1]
        · rw [rt_stop h1, rt_stop (by rw [e1]; exact h1), if_neg e]
theorem Fst.meet {a b : Nat} (h : Fst F) (ha : rt F a = a) (hb : rt F b = b) (hla : a < F.length) (hlb : b < F.length) : Fst (F.set (max a b) (min a b)) ∧ ∀ j, rt (F.set (max a b) (min a b)) j = if rt F j = a ∨ rt F j = b then min a b else rt F j := by
  rcases Nat.le_total a b with hab | hab
  · rw [Nat.max_eq_right hab, Nat.min_eq_left hab]
    obtain ⟨h1, h2⟩ := h.join ha hb hab hlb
    refine ⟨h1, fun j => ?_⟩
    rw [h2 j]
    by_cases e1 : rt F j = b
    · rw [if_pos e1, if_pos (.inr e1)]
    · by_cases e2 : rt F j = a
      · rw [if_neg e1, if_pos (.inl e2), e2]
      · rw [if_neg e1, if_neg (by rintro (h | h) <;> contradiction)]
  · rw [Nat.max_eq_left hab, Nat.min_eq_right hab]
    obtain ⟨h1, h2⟩ := h.join hb ha hab hla
    refine ⟨h1, fun j => ?_⟩
    rw [h2 j]
    by_cases e1 : rt F j = a
    · rw [if_pos e1, if_pos (.inl e1)]
    · by_cases e2 : rt F j = b
      · rw [if_neg e1, if_pos (.inr e2), e2]
      · rw [if_neg e1, if_neg (by rintro (h | h) <;> contradiction)]
theorem up_snoc (F : List Nat) (j : Nat) : up (F ++ [F.length]) j = up F j := by
  unfold up List.getD
  rcases Nat.lt_or_ge j F.length with h | h
  · rw [List.getElem?_append_left h]
  · rw [List.getElem?_append_right h, List.getElem?_eq_none h]
    rcases Nat.eq_or_lt_of_le h with e | h2
    · subst e; simp
    · rw [List.getElem?_eq_none (by simp; omega)]
theorem Fst.snoc (h : Fst F) : Fst (F ++ [F.length]) := fun j => by rw [up_snoc]; exact h j
theorem rt_snoc (F : List Nat) (j : Nat) : rt (F ++ [F.length]) j = rt F j := rt_congr (up_snoc F) j
theorem rt_out (h : F.length ≤ i) : rt F i = i := rt_stop (by unfold up List.getD; rw [List.getElem?_eq_none h]; simp)
end
/-! reports that are linked -/
/-- a valid report mentions a name -/
def nm (r : Rep) (z : ByteArray) : Prop := validRep r = true ∧ ∃ e ∈ r.options, z ∈ mentions e
theorem nm_of {r : Rep} {ns : List ByteArray} (hn : NamesOf r ns) (z : ByteArray) : z ∈ ns ↔ nm r z := by
  rw [hn.1 z]
  constructor
  · rintro ⟨hv, e, he, h⟩; exact ⟨hv, e, he, (names_of (validRep_e hv e he) z).1 h⟩
  · rintro ⟨hv, e, he, h⟩; exact ⟨hv, e, he, (names_of (validRep_e hv e he) z).2 h⟩
inductive Lnk (l : List Rep) : Nat → Nat → Prop
  | refl (i : Nat) : Lnk l i i
  | one {i k : Nat} {z : ByteArray} (hi : i < l.length) (hk : k < l.length) (h1 : nm l[i] z) (h2 : nm l[k] z) : Lnk l i k
  | symm {i k : Nat} : Lnk l i k → Lnk l k i
  | trans {i k m : Nat} : Lnk l i k → Lnk l k m → Lnk l i m
/-- the least ones of components -/
structure Rts (l : List Rep) (R : Nat → Nat) : Prop where
  le : ∀ i, R i ≤ i
  idem : ∀ i, R (R i) = R i
  share : ∀ {i k : Nat} {z : ByteArray} (hi : i < l.length) (hk : k < l.length), nm l[i] z → nm l[k] z → R i = R k
  sound : ∀ i, Lnk l i (R i)
theorem Rts.lnk {l : List Rep} {R : Nat → Nat} (h : Rts l R) {i k : Nat} (hl : Lnk l i k) : R i = R k := by
  induction hl with
  | refl => rfl
  | one hi hk h1 h2 => exact h.share hi hk h1 h2
  | symm _ ih => exact ih.symm
  | trans _ _ h1 h2 => exact h1.trans h2
theorem Rts.uniq {l : List Rep} {R R' : Nat → Nat} (h : Rts l R) (h' : Rts l R') : R = R' := by
  funext i
  have h1 := h'.lnk (h.sound i)
  have h2 := h.lnk (h'.sound i)
  have h3 := h'.le (R i)
  have h4 := h.le (R' i)
  omega
theorem least_ex {p : Nat → Prop} : ∀ n, p n → ∃ m, p m ∧ m ≤ n ∧ ∀ k, p k → m ≤ k := by
  intro n
  induction n using Nat.strongRecOn with
  | ind n ih =>
    intro hn
    by_cases h : ∃ k, k < n ∧ p k
    · obtain ⟨k, hk, hp⟩ := h
      obtain ⟨m, h1, h2, h3⟩ := ih k hk hp
      exact ⟨m, h1, by omega, h3⟩
    · exact ⟨n, hn, Nat.le_refl _, fun k hk => Nat.le_of_not_lt fun h2 => h ⟨k, h2, hk⟩⟩
theorem roots_ex (l : List Rep) : ∃ R, Rts l R := by
  have h : ∀ i, ∃ m, Lnk l i m ∧ m ≤ i ∧ ∀ k, Lnk l i k → m ≤ k := fun i => least_ex i (.refl i)
  refine ⟨fun i => Classical.choose (h i), ?_⟩
  have hs := fun i => (Classical.choose_spec (h i)).1
  have hle := fun i => (Classical.choose_spec (h i)).2.1
  have hm := fun i => (Classical.choose_spec (h i)).2.2
  have key : ∀ i k, Lnk l i k → Classical.choose (h i) = Classical.choose (h k) := fun i k hl => by
    have h1 := hm i _ (hl.trans (hs k))
    have h2 := hm k _ (hl.symm.trans (hs i))
    omega
  exact ⟨hle, fun i => (key _ _ (hs i)).symm, fun hi hk h1 h2 => key _ _ (.one hi hk h1 h2), hs⟩
/-! what linking does, step by step -/
structure Lkd (l : List Rep) (n : Nat) (S : Nat → ByteArray → Prop) (F : List Nat) (fm : ByteArray → Option Nat) : Prop where
  fst : Fst F
  len : F.length = n
  nl : n ≤ l.length
  lt : ∀ k z, S k z → k < n
  seen : ∀ k z, S k z → ∃ q, fm z = some q ∧ rt F q = rt F k
  own : ∀ z q, fm z = some q → q < n ∧ ∃ h : q < l.length, nm l[q] z
  sound : ∀ k, Lnk l k (rt F k)
section
variable {l : List Rep} {n i : Nat} {S S' : Nat → ByteArray → Prop} {F F' : List Nat} {fm : ByteArray → Option Nat} {z : ByteArray}
theorem Lkd.start : Lkd l 0 (fun _ _ => False) [] (fun _ => none) :=
  ⟨fun i => by simp [up], rfl, Nat.zero_le _, fun _ _ h => h.elim, fun _ _ h => h.elim, fun _ _ h => by simp at h, fun k => by rw [rt_out (by simp)]; exact .refl k⟩
theorem Lkd.congr (h : Lkd l n S F fm) (hS : ∀ k z, S' k z → S k z) : Lkd l n S' F fm :=
  ⟨h.fst, h.len, h.nl, fun k z q => h.lt k z (hS k z q), fun k z q => h.seen k z (hS k z q), h.own, h.sound⟩
theorem Lkd.push (h : Lkd l n S F fm) (hn : n < l.length) : Lkd l (n + 1) S (F ++ [n]) fm := by
  obtain rfl := h.len
  refine ⟨h.fst.snoc, by simp, hn, fun k z q => by have := h.lt k z q; omega, fun k z q => ?_, fun z q hq => ?_, fun k => by rw [rt_snoc]; exact h.sound k⟩
  · obtain ⟨m, h1, h2⟩ := h.seen k z q
    exact ⟨m, h1, by rw [rt_snoc, rt_snoc]; exact h2⟩
  · obtain ⟨h1, h2⟩ := h.own z q hq
    exact ⟨by omega, h2⟩
theorem Lkd.same (h : Lkd l n S F fm) (hf : Fst F') (hl : F'.length = F.length) (hr : ∀ j, rt F' j = rt F j) : Lkd l n S F' fm :=
  ⟨hf, hl.trans h.len, h.nl, h.lt, fun k z q => by obtain ⟨m, h1, h2⟩ := h.seen k z q; exact ⟨m, h1, by rw [hr, hr]; exact h2⟩, h.own, fun k => by rw [hr]; exact h.sound k⟩
theorem Lkd.hit {q : Nat} (h : Lkd l n S F fm) (hi : i < n) (hz : ∃ h : i < l.length, nm l[i] z) (hq : fm z = some q) (hf : Fst F') (hl : F'.length = F.length) (hr : ∀ j, rt F' j = if rt F j = rt F q ∨ rt F j = rt F i then min (rt F q) (rt F i) else rt F j) :
    Lkd l n (fun k y => S k y ∨ k = i ∧ y = z) F' fm := by
  have hc : ∀ a b, rt F a = rt F b → rt F' a = rt F' b := fun a b e => by rw [hr, hr, e]
  refine ⟨hf, hl.trans h.len, h.nl, fun k y hk => ?_, fun k y hk => ?_, h.own, fun k => ?_⟩
  · rcases hk with hk | ⟨rfl, rfl⟩
    · exact h.lt k y hk
    · exact hi
  · rcases hk with hk | ⟨rfl, rfl⟩
    · obtain ⟨m, h1, h2⟩ := h.seen k y hk
      exact ⟨m, h1, hc _ _ h2⟩
    · exact ⟨q, hq, by rw [hr, hr, if_pos (.inl rfl), if_pos (.inr rfl)]⟩
  · rw [hr]
    obtain ⟨_, hql, hqz⟩ := h.own z q hq
    obtain ⟨hil, hiz⟩ := hz
    have hqi : Lnk l q i := .one hql hil hqz hiz
    split
    · rename_i e
      have h1 : Lnk l k q := by
        rcases e with e | e
        · exact (h.sound k).trans (e ▸ (h.sound q).symm)
        · exact ((h.sound k).trans (e ▸ (h.sound i).symm)).trans hqi.symm
      rcases Nat.le_total (rt F q) (rt F i) with h2 | h2
      · rw [Nat.min_eq_left h2]; exact h1.trans (h.sound q)
      · rw [Nat.min_eq_right h2]; exact (h1.trans hqi).trans (h.sound i)
    · exact h.sound k
theorem Lkd.new (h : Lkd l n S F fm) (hi : i < n) (hz : ∃ h : i < l.length, nm l[i] z) (hq : fm z = none) : Lkd l n (fun k y => S k y ∨ k = i ∧ y = z) F (fun y => if z = y then some i else fm y) := by
  refine ⟨h.fst, h.len, h.nl, fun k y hk => ?_, fun k y hk => ?_, fun y q hy => ?_, h.sound⟩
  · rcases hk with hk | ⟨rfl, rfl⟩
    · exact h.lt k y hk
    · exact hi
  · rcases hk with hk | ⟨rfl, rfl⟩
    · obtain ⟨m, h1, h2⟩ := h.seen k y hk
      refine ⟨m, ?_, h2⟩
      show (if z = y then some i else fm y) = some m
      rw [if_neg (by rintro rfl; rw [hq] at h1; cases h1)]; exact h1
    · exact ⟨k, by simp, rfl⟩
  · split at hy
    · rename_i e; subst e
      obtain rfl := Option.some.inj hy
      exact ⟨hi, hz⟩
    · exact h.own y q hy
theorem Lkd.done (h : Lkd l l.length S F fm) (hS : ∀ k z (hk : k < l.length), nm l[k] z → S k z) : Rts l (rt F) := by
  refine ⟨rt_le F, rt_idem F, fun {i k z} hi hk h1 h2 => ?_, h.sound⟩
  obtain ⟨q, e1, e2⟩ := h.seen i z (hS i z hi h1)
  obtain ⟨q', e3, e4⟩ := h.seen k z (hS k z hk h2)
  rw [e1] at e3
  obtain rfl := Option.some.inj e3
  exact e2.symm.trans e4
end
/-! components -/
/-- the roots below a number, in order -/
def rootsN (R : Nat → Nat) (n : Nat) : List Nat := (List.range n).filter fun i => decide (R i = i)
/-- the members of a component below a number -/
def membN (R : Nat → Nat) (n r : Nat) : List Nat := (List.range n).filter fun k => decide (R k = r)
def compsN (R : Nat → Nat) (n : Nat) : List (List Nat) := (rootsN R n).map (membN R n)
section
variable {R : Nat → Nat} {n r k : Nat}
theorem mem_roots : k ∈ rootsN R n ↔ k < n ∧ R k = k := by simp [rootsN]
theorem mem_memb : k ∈ membN R n r ↔ k < n ∧ R k = r := by simp [membN]
theorem roots_succ : rootsN R (n + 1) = if R n = n then rootsN R n ++ [n] else rootsN R n := by
  unfold rootsN
  rw [List.range_succ, List.filter_append]
  by_cases h : R n = n <;> simp [h]
theorem memb_succ : membN R (n + 1) r = if R n = r then membN R n r ++ [n] else membN R n r := by
  unfold membN
  rw [List.range_succ, List.filter_append]
  by_cases h : R n = r <;> simp [h]
theorem memb_new (hle : ∀ i, R i ≤ i) (h : R n = n) : membN R (n + 1) n = [n] := by
  rw [memb_succ, if_pos h]
  have : membN R n n = [] := by
    unfold membN; rw [List.filter_eq_nil_iff]
    intro k hk
    have := List.mem_range.1 hk
    have := hle k
    simp; omega
  rw [this]; rfl
theorem roots_nodup : (rootsN R n).Nodup := List.nodup_range.filter _
/-- one more index, of a new component -/
theorem comps_new (hle : ∀ i, R i ≤ i) (h : R n = n) : compsN R (n + 1) = compsN R n ++ [[n]] := by
  unfold compsN
  rw [roots_succ, if_pos h, List.map_append, List.map_cons, List.map_nil, memb_new hle h]
  congr 1
  refine List.map_congr_left fun r hr => ?_
  have := (mem_roots.1 hr).1
  rw [memb_succ, if_neg (by omega)]
/-- one more index, of a component that is there -/
theorem comps_old (hk : k < (rootsN R n).length) (h : (rootsN R n)[k] = R n) : compsN R (n + 1) = (compsN R n).set k ((compsN R n)[k]'(by simpa [compsN] using hk) ++ [n]) := by
  have hr := (mem_roots.1 (List.getElem_mem hk))
  have hn : ¬ R n = n := by omega
  refine List.ext_getElem ?_ fun j h1 h2 => ?_
  · simp [compsN, roots_succ, hn]
  · have e : rootsN R (n + 1) = rootsN R n := by rw [roots_succ, if_neg hn]
    have hj : j < (rootsN R n).length := by simpa [compsN, e] using h1
    rw [List.getElem_set]
    simp only [compsN, List.getElem_map, e]
    by_cases hjk : k = j
    · subst hjk
      rw [if_pos rfl, memb_succ, if_pos h.symm]
    · rw [if_neg hjk, memb_succ, if_neg]
      intro e2
      rcases Nat.lt_or_gt_of_ne hjk with hlt | hlt
      · exact List.pairwise_iff_getElem.1 (roots_nodup (R := R) (n := n)) k j hk hj hlt (h.trans e2)
      · exact List.pairwise_iff_getElem.1 (roots_nodup (R := R) (n := n)) j k hj hk hlt (h.trans e2).symm
theorem comps_len : (compsN R n).length = (rootsN R n).length := by simp [compsN]
end
end Go.Sx

/- Lists of one's own within a list of one's own; maps with numbers as_ keys. -/
set_option linter.all false
namespace Go.Sx
open Go
theorem Fst.rt_up {F : List Nat} (h : Fst F) (i : Nat) : rt F (up F i) = rt F i := by
  by_cases h1 : up F i < i
  · rw [rt_step h1]
  · rw [show up F i = i from Nat.le_antisymm (h i) (Nat.not_lt.1 h1)]
/-! numbers -/
def natC (F : List Nat) : List (List Value) := F.map fun (x : Nat) => [ci (x : Int)]
def nI (F : List Nat) : List Int := F.map fun (x : Nat) => (x : Int)
section
variable {F : List Nat} {rest : List (List Value)} {i x : Nat}
theorem natC_uk (F : List Nat) : Uk 1 (natC F) := fun c hc => by obtain ⟨x, _, rfl⟩ := List.mem_map.1 hc; rfl
theorem natC_len (F : List Nat) : (natC F).length = F.length := by simp [natC]
theorem natC_at (h : i < F.length) : (natC F ++ rest)[i]? = some [ci ((F[i] : Nat) : Int)] := by
  rw [List.getElem?_append_left (by rw [natC_len]; exact h)]; simp [natC, h]
theorem natC_set (h : i < F.length) (x : Nat) : (natC F ++ rest).set i [ci (x : Int)] = natC (F.set i x) ++ rest := by
  rw [List.set_append_left _ _ (by rw [natC_len]; exact h)]; simp [natC, List.map_set]
theorem natC_snoc (F : List Nat) (x : Nat) : (natC F).flatten ++ [ci (x : Int)] = (natC (F ++ [x])).flatten := by simp [natC]
theorem nI_len (F : List Nat) : (nI F).length = F.length := by simp [nI]
theorem nI_at (h : i < F.length) (h2 : i < (nI F).length) : (nI F)[i] = (F[i] : Nat) := by simp [nI]
theorem natC_flat {I : IMap} (F : List Nat) : Flat I (natC F).flatten (nI F) := by
  induction F with
  | nil => exact .nil
  | cons x F ih => exact .cons (vs := [ci (x : Int)]) rfl ih
end
/-! maps with numbers as_ keys -/
def encI (k : Int) : Value := .int .i64 k
theorem key_int {P : Program} {kt : TypeId} (h : P.underlying kt = some (.int .i64)) : KeyOK P kt encI where
  find := by
    intro w k es kvs he
    have key : ∀ (es : List MapEntry) (kvs : List (Int × Value)) (i : Nat), es.map (fun e => (e.key, e.val)) = emap encI kvs → Instr.findNow (.int .i64) (encI k) es i = some (mfind kvs k i) := by
      intro es
      induction es with
      | nil => intro kvs i he; cases kvs <;> simp_all [emap, Instr.findNow, mfind]
      | cons e es ih =>
        intro kvs i he
        cases kvs with
        | nil => simp [emap] at he
        | cons p kvs =>
          obtain ⟨k', v⟩ := p
          simp only [List.map_cons, emap, List.cons.injEq, Prod.mk.injEq] at he
          obtain ⟨⟨h1, h2⟩, h3⟩ := he
          simp only [Instr.findNow, h1, encI, Instr.sameNow, if_true]
          by_cases hk : k' = k
          · subst hk; simp [mfind, h2]
          · have h4 : ¬ k = k' := fun e => hk e.symm
            have h5 : (k == k') = false := by simpa using h4
            simp only [h5, mfind, if_neg hk]
            exact ih kvs (i + 1) h3
    simp only [Instr.findKey, Sem.run_bind, run_underlying h, Result.andThen_ok, key es kvs 0 he]
    rfl
  check := by
    intro w b k
    show (Instr.checkKey b (9999 + 1) kt (Value.int .i64 k)).run P w = _
    rw [Instr.checkKey]
    simp [run_underlying h]
  same := by
    intro k
    show (IntKind.i64 == IntKind.i64 && k == k) = true
    simp
/-! things of one kind, as_ many as_ a list has elements -/
section
variable {P : Program} {n : Sz} {E : Ent} {I : IMap} {L : LL} {H : List Res} {K : Act → World → Prop} {α : Type} {f : α → Res} {l : List α} {k : Nat} {a b c d e : Res}
theorem cut_perm {β : Type} (g : α → β) (hk : k < l.length) : (l.map g).Perm (g l[k] :: (cutAt l k).map g) := by
  conv => lhs; rw [cut_whole hk]
  rw [cutAt, List.map_append, List.map_append, List.map_cons]
  exact List.perm_middle
theorem set_perm {β : Type} (g : α → β) (hk : k < l.length) (x : α) : (g x :: (cutAt l k).map g).Perm ((l.set k x).map g) := by
  rw [set_mid hk, cutAt, List.map_append, List.map_append, List.map_cons]
  exact List.perm_middle.symm
theorem sx_pull (H0 : List Res) (hk : k < l.length) (h : SX n E I L (f l[k] :: (H0 ++ (cutAt l k).map f)) K) : SX n E I L (H0 ++ l.map f) K :=
  sx_perm (((cut_perm f hk).append_left H0).trans List.perm_middle) h
theorem sx_push (H0 : List Res) (x : α) (hk : k < l.length) (h : SX n E I L (H0 ++ (l.set k x).map f) K) : SX n E I L (f x :: (H0 ++ (cutAt l k).map f)) K :=
  sx_perm ((List.perm_middle.symm).trans ((set_perm f hk x).append_left H0)) h
theorem sx_join (H0 : List Res) (x : α) (h : SX n E I L (H0 ++ (l ++ [x]).map f) K) : SX n E I L (f x :: (H0 ++ l.map f)) K := by
  refine sx_perm ?_ h
  rw [List.map_append, List.map_cons, List.map_nil, ← List.append_assoc]
  exact (List.perm_append_singleton (f x) (H0 ++ l.map f)).symm
theorem sx_pull2 (hk : k < l.length) (h : SX n E I L (f l[k] :: a :: b :: (cutAt l k).map f) K) : SX n E I L (a :: b :: l.map f) K := sx_pull [a, b] hk h
theorem sx_pull3 (hk : k < l.length) (h : SX n E I L (f l[k] :: a :: b :: c :: (cutAt l k).map f) K) : SX n E I L (a :: b :: c :: l.map f) K := sx_pull [a, b, c] hk h
theorem sx_pull4 (hk : k < l.length) (h : SX n E I L (f l[k] :: a :: b :: c :: d :: (cutAt l k).map f) K) : SX n E I L (a :: b :: c :: d :: l.map f) K := sx_pull [a, b, c, d] hk h
theorem sx_push2 (x : α) (hk : k < l.length) (h : SX n E I L (a :: b :: (l.set k x).map f) K) : SX n E I L (f x :: a :: b :: (cutAt l k).map f) K := sx_push [a, b] x hk h
theorem sx_push3 (x : α) (hk : k < l.length) (h : SX n E I L (a :: b :: c :: (l.set k x).map f) K) : SX n E I L (f x :: a :: b :: c :: (cutAt l k).map f) K := sx_push [a, b, c] x hk h
theorem sx_push4 (x : α) (hk : k < l.length) (h : SX n E I L (a :: b :: c :: d :: (l.set k x).map f) K) : SX n E I L (f x :: a :: b :: c :: d :: (cutAt l k).map f) K := sx_push [a, b, c, d] x hk h
theorem sx_join2 (x : α) (h : SX n E I L (a :: b :: (l ++ [x]).map f) K) : SX n E I L (f x :: a :: b :: l.map f) K := sx_join [a, b] x h
theorem sx_join3 (x : α) (h : SX n E I L (a :: b :: c :: (l ++ [x]).map f) K) : SX n E I L (f x :: a :: b :: c :: l.map f) K := sx_join [a, b, c] x h
theorem sx_join4 (x : α) (h : SX n E I L (a :: b :: c :: d :: (l ++ [x]).map f) K) : SX n E I L (f x :: a :: b :: c :: d :: l.map f) K := sx_join [a, b, c, d] x h
end
/-! lists of numbers of one's own -/
/-- a list of numbers: its value, its elements -/
abbrev Lst := Value × List Nat
abbrev lstR (e : Nat) (p : Lst) : Res := .row p.1 e 1 p.2.length (natC p.2).flatten
section
variable {P : Program} {n : Sz} {E : Ent} {I : IMap} {L : LL} {H : List Res} {K : Act → World → Prop} {e : Nat}
/-- all of them become immutable -/
theorem sx_publst : ∀ (Q : List Lst) {I : IMap}, (∀ I', ILe I I' → (∀ p ∈ Q, RdS I' p.1 (nI p.2)) → SX n E I' L H K) → SX n E I L (Q.map (lstR e) ++ H) K
  | [], I, h => h I (ILe.refl _) fun p hp => by cases hp
  | q :: Q, I, h => by
    show SX n E I L (lstR e q :: (Q.map (lstR e) ++ H)) K
    refine sx_pubrow (l := nI q.2) rfl (nI_len _).symm (natC_flat _) fun I1 j1 R1 => ?_
    refine sx_publst Q fun I' hI h2 => h I' (j1.trans hI) fun p hp => ?_
    rcases List.mem_cons.1 hp with rfl | hp
    · exact R1.le hI
    · exact h2 p hp
theorem sx_publst1 {r : Res} (Q : List Lst) (h : ∀ I', ILe I I' → (∀ p ∈ Q, RdS I' p.1 (nI p.2)) → SX n E I' L [r] K) : SX n E I L (r :: Q.map (lstR e)) K :=
  sx_perm (by simpa using (List.perm_append_comm (l₁ := [r]) (l₂ := Q.map (lstR e)))) (sx_publst Q h)
/-- the values of lists, as_ the elements of a list -/
theorem lst_flat {I : IMap} : ∀ (Q : List Lst), (∀ p ∈ Q, RdS I p.1 (nI p.2)) → Flat I (Q.map (·.1)) (Q.map fun p => nI p.2)
  | [], _ => .nil
  | q :: Q, h => .cons (vs := [q.1]) ⟨_, rfl, h q (by simp)⟩ (lst_flat Q fun p hp => h p (by simp [hp]))
end
/-- the values of lists in cells -/
def vC (P : List Lst) : List (List Value) := P.map fun p => [p.1]
section
variable {P : List Lst} {rest : List (List Value)} {k : Nat}
theorem vC_uk (P : List Lst) : Uk 1 (vC P) := fun c hc => by obtain ⟨x, _, rfl⟩ := List.mem_map.1 hc; rfl
theorem vC_len (P : List Lst) : (vC P).length = P.length := by simp [vC]
theorem vC_flat (P : List Lst) : (vC P).flatten = P.map Prod.fst := by
  induction P with
  | nil => rfl
  | cons p P ih => simp only [vC, List.map_cons, List.flatten_cons] at ih ⊢; rw [ih]; rfl
theorem vC_at (h : k < P.length) : (vC P ++ rest)[k]? = some [P[k].1] := by
  rw [List.getElem?_append_left (by rw [vC_len]; exact h)]; simp [vC, h]
theorem vC_set (h : k < P.length) (x : Lst) : (vC P ++ rest).set k [x.1] = vC (P.set k x) ++ rest := by
  rw [List.set_append_left _ _ (by rw [vC_len]; exact h)]; simp [vC, List.map_set]
end
section
variable {n : Sz} {E : Ent} {I : IMap} {L : LL} {H : List Res} {K : Act → World → Prop} {e : Nat} {v : Value} {q : List Nat} {x : Nat}
theorem sx_lstsnoc (h : SX n E I L (lstR e (v, q ++ [x]) :: H) K) : SX n E I L (.row v e 1 (q.length + 1) ((natC q).flatten ++ [ci (x : Int)]) :: H) K := by
  have e1 : lstR e (v, q ++ [x]) = .row v e 1 (q.length + 1) ((natC q).flatten ++ [ci (x : Int)]) := by simp [lstR, natC]
  rw [← e1]; exact h
end
/-- an index more, in a part that is there, or in a new one -/
def addQ (Q : List (List Nat)) (o : Option Nat) (i : Nat) : List (List Nat) := match o with | some k => Q.set k (Q.getD k [] ++ [i]) | none => Q ++ [[i]]
/-- the map of the places, then -/
def addK (kvs : List (Int × Value)) (o : Option Nat) (r : Int) (n : Nat) : List (Int × Value) := match o with | some _ => kvs | none => mput kvs r (.int .i64 (n : Int))
/-- where the parts of roots are -/
def plcN (R : Nat → Nat) (i r : Nat) : Option Nat := if r ∈ rootsN R i then some ((rootsN R i).findIdx fun x => decide (x = r)) else none
section
variable {R : Nat → Nat} {i k r : Nat}
theorem plc_some (h : plcN R i r = some k) : ∃ hk : k < (rootsN R i).length, (rootsN R i)[k] = r := by
  unfold plcN at h
  split at h
  · rename_i hm
    obtain rfl := Option.some.inj h
    have hk : (rootsN R i).findIdx (fun x => decide (x = r)) < (rootsN R i).length := List.findIdx_lt_length_of_exists ⟨r, hm, by simp⟩
    refine ⟨hk, ?_⟩
    have := List.findIdx_getElem (w := hk)
    simpa using this
  · cases h
theorem comps_add (hR : ∀ i, R i ≤ i) (hI : ∀ i, R (R i) = R i) : compsN R (i + 1) = addQ (compsN R i) (plcN R i (R i)) i := by
  cases hp : plcN R i (R i) with
  | none =>
    have hn : R i = i := by
      unfold plcN at hp
      split at hp
      · cases hp
      · rename_i hm
        have := hR i
        rcases Nat.lt_or_ge (R i) i with h | h
        · exact absurd (mem_roots.2 ⟨h, hI i⟩) hm
        · omega
    rw [comps_new hR hn]; rfl
  | some k =>
    obtain ⟨hk, h1⟩ := plc_some hp
    rw [comps_old hk h1]
    have hk2 : k < (compsN R i).length := by rw [comps_len]; exact hk
    simp only [addQ]
    congr 2
    simp [List.getD, hk2]
theorem plc_len (h : plcN R i r = some k) : k < (compsN R i).length := by
  obtain ⟨hk, _⟩ := plc_some h; rw [comps_len]; exact hk
theorem findIdx_snoc {l : List Nat} {x r : Nat} (h : r ∈ l) : (l ++ [x]).findIdx (fun y => decide (y = r)) = l.findIdx fun y => decide (y = r) := by
  rw [List.findIdx_append, if_pos (List.findIdx_lt_length_of_exists ⟨r, h, by simp⟩)]
theorem plc_step (hR : ∀ i, R i ≤ i) (hI : ∀ i, R (R i) = R i) (r : Nat) : plcN R (i + 1) r = match plcN R i (R i) with | some _ => plcN R i r | none => if R i = r then some (compsN R i).length else plcN R i r := by
  cases hp : plcN R i (R i) with
  | some k =>
    obtain ⟨hk, h1⟩ := plc_some hp
    have hlt : R i < i := by have := (mem_roots.1 (List.getElem_mem hk)).1; omega
    have e : rootsN R (i + 1) = rootsN R i := by rw [roots_succ, if_neg (by omega)]
    simp only [plcN, e]
  | none =>
    have hn : R i = i := by
      unfold plcN at hp
      split at hp
      · cases hp
      · rename_i hm
        have := hR i
        rcases Nat.lt_or_ge (R i) i with h | h
        · exact absurd (mem_roots.2 ⟨h, hI i⟩) hm
        · omega
    have e : rootsN R (i + 1) = rootsN R i ++ [i] := by rw [roots_succ, if_pos hn]
    have hni : i ∉ rootsN R i := fun h => by have := (mem_roots.1 h).1; omega
    simp only
    by_cases h1 : R i = r
    · rw [if_pos h1]
      have hr : r = i := by omega
      subst hr
      unfold plcN
      rw [e, if_pos (by simp), comps_len, List.findIdx_append, if_neg]
      · simp
      · intro h
        have h2 := List.findIdx_getElem (w := h)
        have h3 : (rootsN R r)[List.findIdx (fun x => decide (x = r)) (rootsN R r)] = r := by simpa using h2
        have h4 := List.getElem_mem h
        rw [h3] at h4
        exact hni h4
    · rw [if_neg h1]
      unfold plcN
      rw [e]
      by_cases h2 : r ∈ rootsN R i
      · rw [if_pos (List.mem_append_left _ h2), if_pos h2, findIdx_snoc h2]
      · rw [if_neg h2, if_neg]
        intro h3
        rcases List.mem_append.1 h3 with h3 | h3
        · exact h2 h3
        · rw [List.mem_singleton] at h3; omega
end
theorem plc_put {R : Nat → Nat} {i : Nat} {kvs : List (Int × Value)} (hR : ∀ i, R i ≤ i) (hI : ∀ i, R (R i) = R i) (h : ∀ r : Nat, mget kvs (r : Int) = (plcN R i r).map fun (k : Nat) => Value.int .i64 (k : Int)) (r : Nat) :
    mget (addK kvs (plcN R i (R i)) (R i : Nat) (compsN R i).length) (r : Int) = (plcN R (i + 1) r).map fun (k : Nat) => Value.int .i64 (k : Int) := by
  rw [plc_step hR hI]
  cases hp : plcN R i (R i) with
  | some k => exact h r
  | none =>
    simp only [addK]
    rw [mget_mput, h r]
    by_cases h1 : R i = r
    · rw [if_pos (by rw [h1]), if_pos h1]; rfl
    · rw [if_neg (by omega), if_neg h1]
theorem comps_bound {R : Nat → Nat} {i : Nat} : (compsN R i).length ≤ i ∧ ∀ q ∈ compsN R i, q.length ≤ i := by
  refine ⟨?_, fun q hq => ?_⟩
  · rw [comps_len]; unfold rootsN
    exact Nat.le_trans (List.length_filter_le _ _) (by simp)
  · obtain ⟨r, _, rfl⟩ := List.mem_map.1 hq
    unfold membN
    exact Nat.le_trans (List.length_filter_le _ _) (by simp)
theorem map_put {kvs : List (ByteArray × Value)} {fm : ByteArray → Option Nat} (hM : ∀ z, mget kvs z = (fm z).map fun (q : Nat) => Value.int .i64 (q : Int)) (k : ByteArray) (i : Nat) : ∀ z, mget (mput kvs k (.int .i64 (i : Int))) z = (if k = z then some i else fm z).map fun (q : Nat) => Value.int .i64 (q : Int) := fun z => by
  rw [mget_mput, hM z]; split <;> rfl
/-- steps of linking -/
theorem lkd_next {a : Prop} {k i j : Nat} {z : ByteArray} {ns : List ByteArray} (hj : j < ns.length) (h : a ∨ (k = i ∧ z ∈ ns.take (j + 1))) : (a ∨ (k = i ∧ z ∈ ns.take j)) ∨ (k = i ∧ z = ns[j]) := by
  rcases h with h | ⟨h1, h2⟩
  · exact .inl (.inl h)
  · rw [← take_succ_of hj] at h2
    rcases List.mem_append.1 h2 with h2 | h2
    · exact .inl (.inr ⟨h1, h2⟩)
    · exact .inr ⟨h1, List.mem_singleton.1 h2⟩
theorem lkd_row {l : List Rep} {i k : Nat} {z : ByteArray} {ns : List ByteArray} (hi : i < l.length) (hn : NamesOf l[i] ns) (h : k < i + 1 ∧ ∃ h : k < l.length, nm l[k] z) : (k < i ∧ ∃ h : k < l.length, nm l[k] z) ∨ (k = i ∧ z ∈ ns) := by
  obtain ⟨h1, h2, h3⟩ := h
  rcases Nat.lt_or_ge k i with h4 | h4
  · exact .inl ⟨h4, h2, h3⟩
  · obtain rfl : k = i := by omega
    exact .inr ⟨rfl, (nm_of hn z).2 h3⟩
end Go.Sx

/- Histories of all reports are those of the components, put together. -/
set_option linter.all false
namespace Go.Sx
open Go
/-- the elements at some indices -/
def pickN {α : Type} (l : List α) (C : List Nat) : List α := C.filterMap fun i => l[i]?
section
variable {α : Type} {l : List α} {C : List Nat}
theorem pickN_cons {i : Nat} (h : i < l.length) (C : List Nat) : pickN l (i :: C) = l[i] :: pickN l C := by
  simp [pickN, List.filterMap_cons, h]
theorem pickN_len (h : ∀ i ∈ C, i < l.length) : (pickN l C).length = C.length := by
  induction C with
  | nil => rfl
  | cons i C ih => rw [pickN_cons (h i (by simp))]; simp [ih fun k hk => h k (by simp [hk])]
theorem pickN_at (h : ∀ i ∈ C, i < l.length) {k : Nat} (hk : k < C.length) : (pickN l C)[k]? = some (l[C[k]]'(h _ (List.getElem_mem hk))) := by
  induction C generalizing k with
  | nil => simp at hk
  | cons i C ih =>
    rw [pickN_cons (h i (by simp))]
    cases k with
    | zero => simp
    | succ k => simpa using ih (fun k hk => h k (by simp [hk])) (by simpa using hk)
theorem pickN_get (h : ∀ i ∈ C, i < l.length) {k : Nat} (hk : k < C.length) (h2 : k < (pickN l C).length) : (pickN l C)[k] = l[C[k]]'(h _ (List.getElem_mem hk)) := by
  have := pickN_at h hk
  rw [List.getElem?_eq_getElem h2] at this
  exact Option.some.inj this
theorem pickN_mem {x : α} (h : x ∈ pickN l C) : x ∈ l := by
  obtain ⟨i, _, hi⟩ := List.mem_filterMap.1 h
  exact List.mem_of_getElem? hi
theorem pickN_append (A B : List Nat) : pickN l (A ++ B) = pickN l A ++ pickN l B := by simp [pickN]
theorem pickN_range (l : List α) : pickN l (List.range l.length) = l := by
  refine List.ext_getElem ?_ fun k h1 h2 => ?_
  · rw [pickN_len (fun i hi => List.mem_range.1 hi), List.length_range]
  · rw [pickN_get (fun i hi => List.mem_range.1 hi) (by simpa using h2)]; simp
end
/-- the event that an index picks -/
def gE (d : Int) (l : List Rep) (t : List Int) (i : Nat) : Option Evt := (at2 (optAt d) l t i).join
theorem pickE_pick {d : Int} {l : List Rep} {t : List Int} {C : List Nat} (hl : t.length = l.length) (h : ∀ i ∈ C, i < l.length) : pickE d (pickN l C) (pickN t C) = C.filterMap (gE d l t) := by
  induction C with
  | nil => rfl
  | cons i C ih =>
    have hi := h i (by simp)
    rw [pickN_cons hi, pickN_cons (by omega), pickE, List.zip_cons_cons, List.filterMap_cons, List.filterMap_cons, gE, at2_eq hi (by omega)]
    have := ih fun k hk => h k (by simp [hk])
    rw [pickE] at this
    simp only [Option.join_some]
    rw [this]
theorem pickE_range {d : Int} {l : List Rep} {t : List Int} (hl : t.length = l.length) : pickE d l t = (List.range l.length).filterMap (gE d l t) := by
  have := pickE_pick (d := d) (l := l) (t := t) (C := List.range l.length) hl fun i hi => List.mem_range.1 hi
  rw [pickN_range] at this
  conv at this => lhs; arg 3; rw [← hl, pickN_range]
  exact this
/-- whether events are possible -/
def okE (c : List Kind) (E : List Evt) : Bool := (runsTo c [] (sortF E)).isSome
theorem ok_split {c : List Kind} {D : ByteArray → Bool} {E : List Evt} (hv : validC c = true) (hl : E.length < 20000) (hE : ∀ e ∈ E, Dev D e ∨ Dev (fun n => !D n) e) : okE c E = (okE c (E.filter fun e => D e.part) && okE c (E.filter fun e => !D e.part)) := by
  have hc := vs_nil hv
  have hlen : (sortF E).length < 20000 := by rw [sortF_len]; exact hl
  unfold okE
  rw [runs_split (D := D) _ [] [] [] (Spl.nil _) hc hc hc (by simpa using hlen) (by simpa using hlen) (by simpa using hlen) (fun e he => hE e (sortF_mem.1 he)), sortF_filt (fun e : Evt => D e.part), sortF_filt (fun e : Evt => !D e.part)]
theorem fm_congr {α β : Type} {f g : α → Option β} : ∀ {l : List α}, (∀ x ∈ l, f x = g x) → l.filterMap f = l.filterMap g
  | [], _ => rfl
  | x :: l, h => by rw [List.filterMap_cons, List.filterMap_cons, h x (by simp), fm_congr fun y hy => h y (by simp [hy])]
theorem all_same {α : Type} {f g : α → Bool} : ∀ {l : List α}, (∀ x ∈ l, f x = g x) → l.all f = l.all g
  | [], _ => rfl
  | x :: l, h => by rw [List.all_cons, List.all_cons, h x (by simp), all_same fun y hy => h y (by simp [hy])]
theorem ok_prod {c : List Kind} (D : Nat → ByteArray → Bool) (hv : validC c = true) : ∀ (rs : List Nat) (E : List Evt), rs.Nodup → E.length < 20000 → (∀ e ∈ E, ∃ r ∈ rs, Dev (D r) e ∧ ∀ r' ∈ rs, r' ≠ r → Dev (fun n => !D r' n) e) → okE c E = rs.all fun r => okE c (E.filter fun e => D r e.part)
  | [], E, _, _, h => by
    cases E with
    | nil => rfl
    | cons e E => obtain ⟨r, hr, _⟩ := h e (by simp); cases hr
  | r :: rs, E, hn, hl, h => by
    have hn' := List.nodup_cons.1 hn
    rw [ok_split (D := D r) hv hl (fun e he => by
      obtain ⟨q, hq, h1, h2⟩ := h e he
      by_cases e1 : q = r
      · subst e1; exact .inl h1
      · exact .inr (h2 r (by simp) fun h => e1 h.symm)), List.all_cons]
    congr 1
    rw [ok_prod D hv rs _ hn'.2 (Nat.lt_of_le_of_lt (List.length_filter_le _ _) hl) fun e he => ?_]
    · refine all_same fun q hq => ?_
      rw [List.filter_filter]
      congr 1
      refine List.filter_congr fun e he => ?_
      cases hd : D q e.part with
      | false => rfl
      | true =>
        obtain ⟨q0, hq0, h1, h2⟩ := h e he
        have hne : r ≠ q0 := by
          rintro rfl
          have := (h2 q (by simp [hq]) (fun e => hn'.1 (e ▸ hq))).part
          simp [hd] at this
        have := (h2 r (by simp) hne).part
        simpa using this
    · obtain ⟨he, hd⟩ := List.mem_filter.1 he
      obtain ⟨q, hq, h1, h2⟩ := h e he
      rcases List.mem_cons.1 hq with rfl | hq'
      · have := h1.part; simp [this] at hd
      · exact ⟨q, hq', h1, fun r' hr' => h2 r' (by simp [hr'])⟩
/-- whether some report of a component mentions a name -/
def clsB (l : List Rep) (R : Nat → Nat) (r : Nat) (z : ByteArray) : Bool := (List.range l.length).any fun i => decide (R i = r) && ((l[i]?).map fun q : Rep => q.options.any fun e => decide (z ∈ mentions e)).getD false
section
variable {c : List Kind} {l : List Rep} {R : Nat → Nat} {t : List Int} {r : Nat}
theorem clsB_is {z : ByteArray} : clsB l R r z = true ↔ ∃ i, ∃ h : i < l.length, R i = r ∧ ∃ e ∈ l[i].options, z ∈ mentions e := by
  unfold clsB
  rw [List.any_eq_true]
  constructor
  · rintro ⟨i, hi, h⟩
    have hi := List.mem_range.1 hi
    rw [List.getElem?_eq_getElem hi] at h
    simp only [Bool.and_eq_true, decide_eq_true_eq, Option.map_some, Option.getD_some, List.any_eq_true] at h
    exact ⟨i, hi, h.1, h.2⟩
  · rintro ⟨i, hi, h1, h2⟩
    refine ⟨i, List.mem_range.2 hi, ?_⟩
    rw [List.getElem?_eq_getElem hi]
    simp only [Bool.and_eq_true, decide_eq_true_eq, Option.map_some, Option.getD_some, List.any_eq_true]
    exact ⟨h1, h2⟩
theorem memb_lt {n i : Nat} (h : i ∈ membN R n r) : i < n := (mem_memb.1 h).1
theorem memb_nodup {n : Nat} : (membN R n r).Nodup := List.nodup_range.filter _
theorem pick_given (hc : validC c = true) (hp : ∀ q ∈ l, chs q ≠ 0) (ht : t ∈ allCh l) {C : List Nat} (h : ∀ i ∈ C, i < l.length) : pickN t C ∈ allCh (pickN l C) := by
  obtain ⟨hl, hb⟩ := all_mem.1 ht
  have h' : ∀ i ∈ C, i < t.length := fun i hi => by rw [hl]; exact h i hi
  refine all_mem.2 ⟨by rw [pickN_len h, pickN_len h'], fun i h1 h2 => ?_⟩
  have hi : i < C.length := by rw [pickN_len h] at h1; exact h1
  rw [pickN_get h hi, pickN_get h' hi]
  exact hb _ (h _ (List.getElem_mem hi)) (h' _ (List.getElem_mem hi))
theorem pick_pos (hp : ∀ q ∈ l, chs q ≠ 0) (C : List Nat) : ∀ q ∈ pickN l C, chs q ≠ 0 := fun q hq => hp q (pickN_mem hq)
theorem valid_chs {q : Rep} (h : chs q ≠ 0) : validRep q = true := by
  cases hv : validRep q with
  | true => rfl
  | false => exact absurd (by simp [chs, hv]) h
theorem hist_prod (hR : Rts l R) (hc : validC c = true) (hp : ∀ q ∈ l, chs q ≠ 0) (hl : l.length < 20000) (ht : t ∈ allCh l) : isF c l t = (rootsN R l.length).all fun r => isF c (pickN l (membN R l.length r)) (pickN t (membN R l.length r)) := by
  obtain ⟨htl, hb⟩ := all_mem.1 ht
  rw [is_ev ((all_given hc hp t).2 ht)]
  have h1 : ∀ r ∈ rootsN R l.length, isF c (pickN l (membN R l.length r)) (pickN t (membN R l.length r)) = okE c ((membN R l.length r).filterMap (gE 40001 l t)) := fun r _ => by
    rw [is_ev ((all_given hc (pick_pos hp _) _).2 (pick_given hc hp ht fun i hi => memb_lt hi)), pickE_pick htl fun i hi => memb_lt hi]; rfl
  rw [all_same h1]
  have hg : ∀ i e, gE 40001 l t i = some e → ∃ h : i < l.length, e ∈ l[i].options := fun i e he => by
    rcases Nat.lt_or_ge i l.length with hi | hi
    · rw [gE, at2_eq hi (by omega)] at he
      exact ⟨hi, opt_some (by simpa using he)⟩
    · rw [gE, at2, List.getElem?_eq_none hi] at he; simp at he
  have hcl : ∀ i e, gE 40001 l t i = some e → ∀ z ∈ mentions e, ∀ r, clsB l R r z = decide (R i = r) := fun i e he z hz r => by
    obtain ⟨hi, hm⟩ := hg i e he
    rw [Bool.eq_iff_iff, clsB_is, decide_eq_true_eq]
    constructor
    · rintro ⟨k, hk, rfl, f, hf, h2⟩
      exact hR.share hi hk ⟨valid_chs (hp _ (List.getElem_mem hi)), e, hm, hz⟩ ⟨valid_chs (hp _ (List.getElem_mem hk)), f, hf, h2⟩
    · rintro rfl
      exact ⟨i, hi, rfl, e, hm, hz⟩
  have hpart : ∀ e : Evt, e.part ∈ mentions e := fun e => by unfold mentions; split <;> simp
  show okE c (pickE 40001 l t) = _
  rw [pickE_range htl, ok_prod (clsB l R) hc (rootsN R l.length) _ roots_nodup (Nat.lt_of_le_of_lt (List.length_filterMap_le _ _) (by simpa using hl)) fun e he => ?_]
  · refine all_same fun r _ => ?_
    congr 1
    unfold membN
    rw [List.filter_filterMap, List.filterMap_filter]
    refine fm_congr fun i _ => ?_
    cases hq : gE 40001 l t i with
    | none => simp
    | some e =>
      have := hcl i e hq e.part (hpart e) r
      simp [Option.filter_some, this]
  · obtain ⟨i, hi, he⟩ := List.mem_filterMap.1 he
    have hi := List.mem_range.1 hi
    refine ⟨R i, mem_roots.2 ⟨Nat.lt_of_le_of_lt (hR.le i) hi, hR.idem i⟩, fun z hz => by rw [hcl i e he z hz]; simp, fun r' _ hne z hz => by
      show (!clsB l R r' z) = true
      rw [hcl i e he z hz]; simpa using fun h => hne h.symm⟩
end
end Go.Sx

/- The choices that some history has: a table, marked component by component. -/
set_option linter.all false
namespace Go.Sx
open Go
/-- the place of an index in its component -/
def posN (R : Nat → Nat) (i : Nat) : Nat := (membN R i (R i)).length
section
variable {c : List Kind} {l : List Rep} {R : Nat → Nat} {t : List Int} {r i n : Nat}
theorem memb_split (h : i < n) (hr : R i = r) : ∃ z, membN R n r = membN R i r ++ i :: z := by
  have e2 : List.range n = List.range i ++ i :: (List.range (n - (i + 1))).map (i + 1 + ·) := range_split h
  unfold membN
  rw [e2, List.filter_append, List.filter_cons, if_pos (by simpa using hr)]
  exact ⟨_, rfl⟩
theorem pos_at (h : i < n) : ∃ hp : posN R i < (membN R n (R i)).length, (membN R n (R i))[posN R i] = i := by
  obtain ⟨z, hz⟩ := memb_split (R := R) h rfl
  have h1 : posN R i < (membN R n (R i)).length := by rw [hz]; simp [posN]
  refine ⟨h1, ?_⟩
  have : (membN R n (R i))[posN R i]? = some i := by rw [hz, List.getElem?_append_right (by simp [posN])]; simp [posN]
  rw [List.getElem?_eq_getElem h1] at this
  exact Option.some.inj this
theorem nodup_inj {α : Type} {l : List α} (h : l.Nodup) {a b : Nat} (ha : a < l.length) (hb : b < l.length) (e : l[a] = l[b]) : a = b := by
  rcases Nat.lt_trichotomy a b with h1 | h1 | h1
  · exact absurd e (List.pairwise_iff_getElem.1 h a b ha hb h1)
  · exact h1
  · exact absurd e.symm (List.pairwise_iff_getElem.1 h b a hb ha h1)
theorem pos_of {k : Nat} (hk : k < (membN R n r).length) : posN R (membN R n r)[k] = k ∧ R (membN R n r)[k] = r := by
  obtain ⟨x, hx⟩ : ∃ x, (membN R n r)[k] = x := ⟨_, rfl⟩
  have hm : x ∈ membN R n r := hx ▸ List.getElem_mem hk
  rw [hx]
  obtain ⟨h1, h2⟩ := mem_memb.1 hm
  subst h2
  obtain ⟨h3, h4⟩ := pos_at (R := R) h1
  exact ⟨nodup_inj (memb_nodup (R := R) (n := n) (r := R x)) h3 hk (h4.trans hx.symm), rfl⟩
theorem hist_in_all (h : t ∈ histF c l) : t ∈ allCh l := (List.mem_filter.1 h).1
theorem hist_pick (hR : Rts l R) (hc : validC c = true) (hp : ∀ q ∈ l, chs q ≠ 0) (hl : l.length < 20000) (ht : t ∈ histF c l) (hr : r ∈ rootsN R l.length) : pickN t (membN R l.length r) ∈ histF c (pickN l (membN R l.length r)) := by
  have h := (hist_mem t).1 ht
  rw [hist_prod hR hc hp hl (hist_in_all ht), List.all_eq_true] at h
  exact (hist_mem _).2 (h r hr)
/-- histories of the components, put together -/
def glueF (n : Nat) (R : Nat → Nat) (H : Nat → List Int) : List Int := (List.range n).map fun i => (H (R i)).getD (posN R i) 0
theorem glue_pick (hr : r ∈ rootsN R n) {H : Nat → List Int} (hl : (H r).length = (membN R n r).length) : pickN (glueF n R H) (membN R n r) = H r := by
  have hg : (glueF n R H).length = n := by simp [glueF]
  have hlt : ∀ i ∈ membN R n r, i < (glueF n R H).length := fun i hi => by rw [hg]; exact memb_lt hi
  refine List.ext_getElem (by rw [pickN_len hlt, hl]) fun k h1 h2 => ?_
  have hk : k < (membN R n r).length := by omega
  rw [pickN_get hlt hk]
  obtain ⟨h3, h4⟩ := pos_of hk
  simp only [glueF, List.getElem_map, List.getElem_range, h3, h4]
  simp [List.getD, h2]
theorem glue_hist (hR : Rts l R) (hc : validC c = true) (hp : ∀ q ∈ l, chs q ≠ 0) (hl : l.length < 20000) {H : Nat → List Int} (hH : ∀ r ∈ rootsN R l.length, H r ∈ histF c (pickN l (membN R l.length r))) :
    glueF l.length R H ∈ histF c l ∧ ∀ r ∈ rootsN R l.length, pickN (glueF l.length R H) (membN R l.length r) = H r := by
  have hlen : ∀ r ∈ rootsN R l.length, (H r).length = (membN R l.length r).length := fun r hr => by
    rw [(all_mem.1 (hist_in_all (hH r hr))).1, pickN_len fun i hi => memb_lt hi]
  have hpk : ∀ r ∈ rootsN R l.length, pickN (glueF l.length R H) (membN R l.length r) = H r := fun r hr => glue_pick hr (hlen r hr)
  refine ⟨?_, hpk⟩
  have hg : (glueF l.length R H).length = l.length := by simp [glueF]
  have ha : glueF l.length R H ∈ allCh l := by
    refine all_mem.2 ⟨hg, fun i h1 h2 => ?_⟩
    have hri : R i ∈ rootsN R l.length := mem_roots.2 ⟨Nat.lt_of_le_of_lt (hR.le i) h1, hR.idem i⟩
    obtain ⟨h3, h4⟩ := pos_at (R := R) h1
    have hlt : ∀ j ∈ membN R l.length (R i), j < l.length := fun j hj => memb_lt hj
    have h5 : posN R i < (pickN l (membN R l.length (R i))).length := by rw [pickN_len hlt]; exact h3
    have h6 : posN R i < (H (R i)).length := by rw [hlen _ hri]; exact h3
    have := (all_mem.1 (hist_in_all (hH _ hri))).2 (posN R i) h5 h6
    rw [pickN_get hlt h3] at this
    simp only [h4] at this
    simp only [glueF, List.getElem_map, List.getElem_range]
    simpa [List.getD, h6] using this
  rw [hist_mem, hist_prod hR hc hp hl ha, List.all_eq_true]
  intro r hr
  rw [hpk r hr]
  exact (hist_mem _).1 (hH r hr)
theorem hist_none_iff (hR : Rts l R) (hc : validC c = true) (hp : ∀ q ∈ l, chs q ≠ 0) (hl : l.length < 20000) : histF c l = [] ↔ ∃ r ∈ rootsN R l.length, histF c (pickN l (membN R l.length r)) = [] := by
  constructor
  · intro h
    refine Classical.byContradiction fun hn => ?_
    have hH : ∀ r ∈ rootsN R l.length, (histF c (pickN l (membN R l.length r))).headD [] ∈ histF c (pickN l (membN R l.length r)) := fun r hr => by
      cases hq : histF c (pickN l (membN R l.length r)) with
      | nil => exact absurd ⟨r, hr, hq⟩ hn
      | cons a b => simp
    have := (glue_hist hR hc hp hl (H := fun r => (histF c (pickN l (membN R l.length r))).headD []) hH).1
    rw [h] at this; cases this
  · rintro ⟨r, hr, h⟩
    cases hq : histF c l with
    | nil => rfl
    | cons a b =>
      have := hist_pick hR hc hp hl (t := a) (by rw [hq]; simp) hr
      rw [h] at this; cases this
/-! tables -/
/-- a table with a row for each report -/
def Tab (l : List Rep) (M : Nat → Int → Bool) : List (List Bool) := l.mapIdx fun i q => (List.range (chs q).toNat).map fun (k : Nat) => M i (k : Int)
theorem tab_len (l : List Rep) (M : Nat → Int → Bool) : (Tab l M).length = l.length := by simp [Tab]
theorem tab_at (M : Nat → Int → Bool) (hi : i < l.length) (h : i < (Tab l M).length) : (Tab l M)[i] = (List.range (chs l[i]).toNat).map fun (k : Nat) => M i (k : Int) := by simp [Tab]
theorem tab_congr {M M' : Nat → Int → Bool} (h : ∀ i, ∀ (hi : i < l.length) (k : Int), 0 ≤ k → k < chs l[i] → M i k = M' i k) : Tab l M = Tab l M' := by
  refine List.ext_getElem (by simp [tab_len]) fun i h1 h2 => ?_
  have hi : i < l.length := by rw [tab_len] at h1; exact h1
  rw [tab_at M hi, tab_at M' hi]
  refine List.map_congr_left fun k hk => ?_
  have := List.mem_range.1 hk
  exact h i hi k (by omega) (by omega)
/-- one more that is marked -/
def mark1 (M : Nat → Int → Bool) (i : Nat) (k : Int) : Nat → Int → Bool := fun i' k' => M i' k' || (decide (i' = i) && decide (k' = k))
theorem tab_mark {M : Nat → Int → Bool} {k : Int} (hi : i < l.length) (h0 : 0 ≤ k) (h1 : k < chs l[i]) (h : i < (Tab l M).length) : (Tab l M).set i ((Tab l M)[i].set k.toNat true) = Tab l (mark1 M i k) := by
  refine List.ext_getElem (by simp [tab_len]) fun j h2 h3 => ?_
  have hj : j < l.length := by rw [tab_len] at h3; exact h3
  rw [tab_at _ hj, List.getElem_set]
  split
  · rename_i e; subst e
    refine List.ext_getElem (by simp [tab_at M hi]) fun q h4 h5 => ?_
    rw [List.getElem_set]
    simp only [tab_at M hi, List.getElem_map, List.getElem_range, mark1]
    by_cases e : k.toNat = q
    · have : (q : Int) = k := by omega
      simp [e, this]
    · have : ¬ (q : Int) = k := by omega
      simp [e, this]
  · rename_i e
    rw [tab_at _ hj]
    refine List.map_congr_left fun q _ => ?_
    have : ¬ j = i := fun h => e h.symm
    simp [mark1, this]
/-- the choices of a history of a component are marked -/
def markM (M : Nat → Int → Bool) (C : List Nat) (h : List Int) : Nat → Int → Bool := fun i k => M i k || (C.zip h).any fun p => decide (i = p.1) && decide (k = p.2)
theorem markM_nil (M : Nat → Int → Bool) (C : List Nat) (h : List Int) : markM M (C.take 0) (h.take 0) = M := by funext i k; simp [markM]
theorem markM_succ {M : Nat → Int → Bool} {C : List Nat} {h : List Int} {k : Nat} (h1 : k < C.length) (h2 : k < h.length) : markM M (C.take (k + 1)) (h.take (k + 1)) = mark1 (markM M (C.take k) (h.take k)) C[k] h[k] := by
  funext i q
  have e : (C.take (k + 1)).zip (h.take (k + 1)) = (C.take k).zip (h.take k) ++ [(C[k], h[k])] := by
    rw [← take_succ_of h1, ← take_succ_of h2, List.zip_append (by simp; omega)]; rfl
  simp [markM, mark1, e, Bool.or_assoc]
def markA (M : Nat → Int → Bool) (C : List Nat) (Hs : List (List Int)) : Nat → Int → Bool := fun i k => M i k || Hs.any fun h => (C.zip h).any fun p => decide (i = p.1) && decide (k = p.2)
theorem markA_nil (M : Nat → Int → Bool) (C : List Nat) (Hs : List (List Int)) : markA M C (Hs.take 0) = M := by funext i k; simp [markA]
theorem markA_succ {M : Nat → Int → Bool} {C : List Nat} {Hs : List (List Int)} {k : Nat} (h : k < Hs.length) : markA M C (Hs.take (k + 1)) = markM (markA M C (Hs.take k)) C Hs[k] := by
  funext i q
  rw [← take_succ_of h]
  simp only [markA, markM, List.any_append, List.any_cons, List.any_nil, Bool.or_false, Bool.or_assoc]
/-- all components of some roots -/
def markR (c : List Kind) (l : List Rep) (R : Nat → Nat) (rs : List Nat) : Nat → Int → Bool := fun i k => rs.any fun r => (histF c (pickN l (membN R l.length r))).any fun h => ((membN R l.length r).zip h).any fun p => decide (i = p.1) && decide (k = p.2)
theorem markR_nil : markR c l R ((rootsN R l.length).take 0) = fun _ _ => false := by funext i k; simp [markR]
theorem markR_succ {k : Nat} (h : k < (rootsN R l.length).length) : markR c l R ((rootsN R l.length).take (k + 1)) = markA (markR c l R ((rootsN R l.length).take k)) (membN R l.length (rootsN R l.length)[k]) (histF c (pickN l (membN R l.length (rootsN R l.length)[k]))) := by
  funext i q
  rw [← take_succ_of h]
  simp only [markR, markA, List.any_append, List.any_cons, List.any_nil, Bool.or_false]
/-- which choices some history has -/
def hasF (c : List Kind) (l : List Rep) : Nat → Int → Bool := fun i k => (histF c l).any fun t => decide (t.getD i 0 = k)
theorem zip_at {C : List Nat} {h : List Int} {i : Nat} {k : Int} : ((C.zip h).any fun p => decide (i = p.1) && decide (k = p.2)) = true ↔ ∃ j, ∃ (h1 : j < C.length) (h2 : j < h.length), C[j] = i ∧ h[j] = k := by
  rw [List.any_eq_true]
  constructor
  · rintro ⟨p, hp, h1⟩
    obtain ⟨j, hj, rfl⟩ := List.getElem_of_mem hp
    simp only [List.getElem_zip, Bool.and_eq_true, decide_eq_true_eq] at h1
    have hj' : j < C.length ∧ j < h.length := by simp at hj; omega
    exact ⟨j, hj'.1, hj'.2, h1.1.symm, h1.2.symm⟩
  · rintro ⟨j, h1, h2, rfl, rfl⟩
    exact ⟨(C[j], h[j]), by
      have : j < (C.zip h).length := by simp; omega
      have e := List.getElem_mem this
      rwa [List.getElem_zip] at e, by simp⟩
theorem mark_has (hR : Rts l R) (hc : validC c = true) (hp : ∀ q ∈ l, chs q ≠ 0) (hl : l.length < 20000) (hn : histF c l ≠ []) (hi : i < l.length) (k : Int) : markR c l R (rootsN R l.length) i k = hasF c l i k := by
  rw [Bool.eq_iff_iff]
  unfold markR hasF
  rw [List.any_eq_true, List.any_eq_true]
  constructor
  · rintro ⟨r, hr, h1⟩
    obtain ⟨h, hh, h2⟩ := List.any_eq_true.1 h1
    obtain ⟨j, h3, h4, h5, h6⟩ := zip_at.1 h2
    have hH : ∀ q ∈ rootsN R l.length, (if q = r then h else (histF c (pickN l (membN R l.length q))).headD []) ∈ histF c (pickN l (membN R l.length q)) := fun q hq => by
      split
      · rename_i e; subst e; exact hh
      · cases hz : histF c (pickN l (membN R l.length q)) with
        | nil => exact absurd ((hist_none_iff hR hc hp hl).2 ⟨q, hq, hz⟩) hn
        | cons a b => simp
    obtain ⟨g1, g2⟩ := glue_hist hR hc hp hl (H := fun q => if q = r then h else (histF c (pickN l (membN R l.length q))).headD []) hH
    refine ⟨_, g1, ?_⟩
    have := g2 r hr
    simp only [if_true] at this
    have hlen : (glueF l.length R fun q => if q = r then h else (histF c (pickN l (membN R l.length q))).headD []).length = l.length := by simp [glueF]
    have hlt : ∀ i ∈ membN R l.length r, i < (glueF l.length R fun q => if q = r then h else (histF c (pickN l (membN R l.length q))).headD []).length := fun i hi => by rw [hlen]; exact memb_lt hi
    have h7 := pickN_at hlt h3
    rw [this, List.getElem?_eq_getElem h4] at h7
    have h8 := Option.some.inj h7
    rw [h6] at h8
    simp only [h5] at h8
    rw [decide_eq_true_eq, getD_at (by rw [hlen]; exact hi), ← h8]
  · rintro ⟨t, ht, h1⟩
    have h1 : t.getD i 0 = k := by simpa using h1
    have htl := (all_mem.1 (hist_in_all ht)).1
    have hri : R i ∈ rootsN R l.length := mem_roots.2 ⟨Nat.lt_of_le_of_lt (hR.le i) hi, hR.idem i⟩
    refine ⟨R i, hri, List.any_eq_true.2 ⟨_, hist_pick hR hc hp hl ht hri, zip_at.2 ?_⟩⟩
    obtain ⟨h3, h4⟩ := pos_at (R := R) hi
    have hlt : ∀ j ∈ membN R l.length (R i), j < t.length := fun j hj => by rw [htl]; exact memb_lt hj
    refine ⟨posN R i, h3, by rw [pickN_len hlt]; exact h3, h4, ?_⟩
    rw [pickN_get hlt h3]
    simp only [h4]
    rw [← h1, getD_at (by rw [htl]; exact hi)]
/-- what Choices answers -/
def choF (c : List Kind) (l : List Rep) : List (List Bool) × Int := if validC c = false then ([], 1) else if l.any (fun r => decide (chs r = 0)) = true then ([], 1) else if histF c l = [] then ([], 21) else (Tab l (hasF c l), 0)
end
end Go.Sx

/- Walks, printed by a program out of the code of the functions: each theorem is a contract of one function. -/
namespace Go.Proofs.YtoadjlmbdliceaaGreat
open Go Go.Sx
set_option linter.all false
set_option maxRecDepth 20000
set_option maxHeartbeats 4000000
instance T.elt_98 : Has (eltK Tryz.prog 98) (3, 1) := ⟨by kernel_rfl⟩
instance T.ty_103 : Has (tyK Tryz.prog 103) (false, 1) := ⟨by kernel_rfl⟩
instance T.und_103 : Has (Tryz.prog.underlying 103) (.map 3 3) := ⟨by kernel_rfl⟩
instance T.und_98 : Has (Tryz.prog.underlying 98) (.slice 3) := ⟨by kernel_rfl⟩
instance T.zero_103 : Has (zeroK Tryz.prog 103) [.map none] := ⟨by kernel_rfl⟩
theorem linkRoot (I : IMap) (g cap : Nat) (F : List Nat) (rest : List (List Value)) (hR : Uk 1 rest) (hF : Fst F) (i : Nat) (hi : i < F.length) :
    FnG Tryz.prog 73 #[.slice (some ⟨g, 0, none⟩) F.length cap, .int .i64 ((i : Nat) : Int)] I (.blk g 3 (natC F ++ rest).flatten) (fun u J r => ∃ G, u = .int .i64 ((rt F i : Nat) : Int) ∧ r = .blk g 3 (natC G ++ rest).flatten ∧ G.length = F.length ∧ Fst G ∧ ∀ q, rt G q = rt F q) := by
 refine enter Tryz.func73 Tryz.call73 rfl Tryz.ntmps73 rfl (fun w0 => ?_)
 refine go 7 ?_
 refine c_loop2 (i) (F) (fun j G => I)
  (fun j G => [(0, .slice (some ⟨g, 0, none⟩) F.length cap), (1, .int .i64 ((j : Nat) : Int))])
  (fun j G => [.blk g 3 (natC G ++ rest).flatten])
  (fun j G => j < F.length ∧ G.length = F.length ∧ Fst G ∧ (∀ q, rt G q = rt F q) ∧ rt F j = rt F i)
  (fun j G => j) ⟨hi, rfl, hF, fun _ => rfl, rfl⟩ rfl sb rfl ?_
 intro j G ⟨hj, hG, hFG, hr, hje0⟩
 have hjG : j < G.length := by omega
 have hup : up G j = G[j] := up_at hjG
 have hle : G[j] ≤ j := by rw [← hup]; exact hFG j
 have hgG : G[j] < G.length := by omega
 have hup2 : up G (up G j) = G[G[j]] := by rw [hup]; exact up_at hgG
 have hle2 : G[G[j]] ≤ G[j] := by have := hFG G[j]; rw [up_at hgG] at this; exact this
 refine go 5 ?_
 refine o_v rfl (v_idx he rfl rfl rfl (j) (by omega) (by omega)) ?_
 refine o_v rfl (v_lds m0 (Uk.append (natC_uk _) hR) he rfl (j) (by omega) (natC_at hjG)) ?_
 refine go 4 ?_
 refine cb rfl (fun h10 p10 => ?_) (fun h10 p10 => ?_)
 ·have hjne : G[j] < j := by omega
  refine go 10 ?_
  refine o_v rfl (v_idx he rfl rfl rfl (j) (by omega) (by omega)) ?_
  refine o_v rfl (v_lds m0 (Uk.append (natC_uk _) hR) he rfl (j) (by omega) (natC_at hjG)) ?_
  refine o_v rfl (v_idx he rfl rfl rfl (G[j]) (by omega) (by omega)) ?_
  refine o_v rfl (v_lds m0 (Uk.append (natC_uk _) hR) he rfl (G[j]) (by omega) (natC_at hgG)) ?_
  refine o_v rfl (v_idx he rfl rfl rfl (j) (by omega) (by omega)) ?_
  refine go 1 ?_
  refine o_stc _ (j) (Uk.append (natC_uk _) hR) he rfl rfl rfl rfl rfl (by omega) (by rw [List.length_append, natC_len]; omega) ?_
  refine sx_blkeq (natC (G.set j G[G[j]]) ++ rest).flatten (by rw [natC_set hjG]) ?_
  refine go 5 ?_
  refine o_v rfl (v_idx he rfl rfl rfl (j) (by omega) (by omega)) ?_
  refine o_v rfl (OV.cast (u := .int .i64 ((G[G[j]] : Nat) : Int)) (v_lds m0 (Uk.append (natC_uk _) hR) he rfl (j) (by omega) (natC_at (by simp; omega))) (congrArg (Value.int .i64) (by simp))) ?_
  refine go 4 ?_
  exact q_next2 (G[G[j]]) (G.set j G[G[j]]) ⟨by omega, by simp [hG], hup2 ▸ (hFG.half hjG).1, fun q => by rw [← hup2, (hFG.half hjG).2 q, hr q], by rw [← hje0, ← hr, ← hr j, ← hup2, hFG.rt_up, hFG.rt_up]⟩ (by omega) rfl sb rfl
 ·have hje : rt F i = j := by rw [← hje0, ← hr j]; exact rt_stop (by omega)
  refine go 12 ?_
  refine fin1 rfl rfl ?_
  exact q_g ⟨G, by rw [hje], rfl, hG, hFG, hr⟩

theorem linkJoin (I : IMap) (g cap : Nat) (F : List Nat) (rest : List (List Value)) (hR : Uk 1 rest) (hF : Fst F) (a b : Nat) (ha : a < F.length) (hb : b < F.length) :
    FnG Tryz.prog 100 #[.slice (some ⟨g, 0, none⟩) F.length cap, .int .i64 ((a : Nat) : Int), .int .i64 ((b : Nat) : Int)] I (.blk g 3 (natC F ++ rest).flatten) (fun u J r => ∃ G, u = .tuple #[] ∧ r = .blk g 3 (natC G ++ rest).flatten ∧ G.length = F.length ∧ Fst G ∧ ∀ q, rt G q = if rt F q = rt F a ∨ rt F q = rt F b then min (rt F a) (rt F b) else rt F q) := by
 refine enter Tryz.func100 Tryz.call100 rfl Tryz.ntmps100 rfl (fun w0 => ?_)
 refine go 5 ?_
 refine o_callG (linkRoot _ g cap F rest hR hF a ha) rfl rfl (fun v10 I10 s10 j10 q10 => ?_)
 obtain ⟨G, rfl, rfl, hG, hFG, hr⟩ := q10
 refine go 3 ?_
 refine o_callG (hG ▸ linkRoot _ g cap G rest hR hFG b (by omega)) rfl rfl (fun v13 I13 s13 j13 q13 => ?_)
 obtain ⟨G2, rfl, rfl, hG2, hFG2, hr2⟩ := q13
 have hra := rt_le F a
 have hrb := rt_le F b
 rw [hr b]
 have hmx : max (rt F a) (rt F b) < G2.length := by omega
 refine go 8 ?_
 refine o_v rfl (OV.cast (u := .int .i64 ((max (rt F a) (rt F b) : Nat) : Int)) (v_max rfl rfl) (congrArg (Value.int .i64) (by split <;> omega))) ?_
 refine go 2 ?_
 refine o_v rfl (OV.cast (u := .int .i64 ((min (rt F a) (rt F b) : Nat) : Int)) (v_min rfl rfl) (congrArg (Value.int .i64) (by split <;> omega))) ?_
 refine o_v rfl (v_idx he rfl rfl rfl (max (rt F a) (rt F b)) (by omega) (by omega)) ?_
 refine go 1 ?_
 refine o_stc _ (max (rt F a) (rt F b)) (Uk.append (natC_uk _) hR) he rfl rfl rfl rfl rfl (by omega) (by rw [List.length_append, natC_len]; omega) ?_
 refine sx_blkeq (natC (G2.set (max (rt F a) (rt F b)) (min (rt F a) (rt F b))) ++ rest).flatten (by rw [natC_set hmx]) ?_
 refine go 1 ?_
 refine end0 rfl ?_
 have hid : ∀ q, rt G2 q = rt F q := fun q => (hr2 q).trans (hr q)
 obtain ⟨m1, m2⟩ := hFG2.meet (a := rt F a) (b := rt F b) (by rw [hid, rt_idem]) (by rw [hid, rt_idem]) (by omega) (by omega)
 exact q_g ⟨_, rfl, rfl, by simp; omega, m1, fun q => by rw [m2 q, hid q]⟩

theorem linkLinked (I : IMap) (v : Value) (l : List Rep) (hv : RdS I v l) (hl : l.length ≤ 1000000) (hsl : ∀ r ∈ l, ∀ e ∈ r.options, SmE e)  :
    FnH Tryz.prog 72 #[v] I [] (fun u J H2 => ∃ w m F kvs fm, u = .tuple #[w, .map (some m)] ∧ H2 = [.row w 3 1 F.length (natC F).flatten, .mp m (emap Value.string kvs)] ∧ Lkd l l.length (fun k z => ∃ h : k < l.length, nm l[k] z) F fm ∧ (∀ z, mget kvs z = (fm z).map fun (q : Nat) => Value.int .i64 (q : Int))) := by
 have hv0 := hv
 obtain ⟨A, c0, rfl, hA, hc, hm⟩ := hv
 refine enter Tryz.func72 Tryz.call72 rfl Tryz.ntmps72 rfl (fun w0 => ?_)
 refine go 8 ?_
 refine sx_nilrow 3 1 ?_
 refine go 6 ?_
 refine o_map0 (Value.string) he rfl (fun r11 => ?_)
 refine go 12 ?_
 refine bring1 ?_
 refine c_loop6 ((0 : Nat)) (_) ([]) ([]) ((fun _ => none)) (I) (fun i v4 F kvs fm J => J)
  (fun i v4 F kvs fm J => [(0, .slice A l.length c0), (5, .map (some r11)), (13, .int .i64 ((l.length : Nat) : Int)), (14, .int .i64 ((i : Nat) : Int)), (4, v4)])
  (fun i v4 F kvs fm J => [.row v4 3 1 F.length (natC F).flatten, .mp r11 (emap Value.string kvs)])
  (fun i v4 F kvs fm J => i ≤ l.length ∧ ILe I J ∧ Lkd l i (fun k z => k < i ∧ ∃ h : k < l.length, nm l[k] z) F fm ∧ (∀ z, mget kvs z = (fm z).map fun (q : Nat) => Value.int .i64 (q : Int)))
  (fun i v4 F kvs fm J => l.length - i) ⟨Nat.zero_le _, ILe.refl _, Lkd.start.congr (fun k z h => absurd h.1 (Nat.not_lt_zero k)), fun z => rfl⟩ rfl sb rfl ?_
 intro i v4 F kvs fm J ⟨hi, hJ, hK, hM⟩
 have hlF := hK.len
 have hv0 := hv0.le hJ
 have hA := hA.le hJ
 refine go 6 ?_
 refine cb rfl (fun h15 p15 => ?_) (fun h15 p15 => ?_)
 ·have hlt : i < l.length := by omega
  refine go 15 ?_
  refine o_buildSlice he he rfl rfl rfl rfl rfl rfl rfl (fun v19 => ?_)
  refine go 1 ?_
  refine bring1 ?_
  refine o_appendO he he rfl rfl rfl rfl rfl (by omega) (by omega) rfl (fun v20 => ?_)
  refine go 5 ?_
  refine sx_roweq (ys := (natC (F ++ [i])).flatten) (show _ = _ from natC_snoc F i) ?_
  refine sx_row (natC_uk (F ++ [i])) (by simp [natC_len]) (fun h0 _ => by omega) (fun g21 cap21 rest21 hv21 hR21 hcap21 hmax21 => ?_)
  subst hv21
  refine go 2 ?_
  obtain ⟨b23, o23, w23, e23, c23, r23⟩ := RdA.at_ hA (i := i) (by omega)
  obtain ⟨q23, rfl, S23, d23, rfl, hS23, hd23, hm23⟩ := r23
  refine o_v rfl (v_idx he rfl rfl e23 (i) (by omega) (by omega)) ?_
  refine o_v rfl (v_ldIa he rfl c23 rfl) ?_
  refine go 1 ?_
  refine o_call (repNames _ l[i] S23 d23 ⟨_, _, rfl, hS23, hd23, hm23⟩ (hsl _ (List.getElem_mem hlt))) rfl rfl (fun v25 I25 j25 q25 => ?_)
  try have hv0 := hv0.le j25
  try have hA := hA.le j25
  try have hNA := hNA.le j25
  obtain ⟨ns, hns, hno⟩ := q25
  obtain ⟨NA, nc, rfl, hNA, _, _⟩ := hns
  have hnl := hno.2
  refine go 5 ?_
  refine bring1 ?_
  refine sx_drop ?_
  refine c_loop5 ((0 : Nat)) ((F ++ [i])) (kvs) (fm) (_) (fun j G kvs2 fm2 J2 => J2)
   (fun j G kvs2 fm2 J2 => [(0, .slice A l.length c0), (5, .map (some r11)), (13, .int .i64 ((l.length : Nat) : Int)), (14, .int .i64 ((i : Nat) : Int)), (4, .slice (some ⟨g21, 0, none⟩) (F.length + 1) cap21), (6, .int .i64 ((i : Nat) : Int)), (25, .slice NA ns.length nc), (26, .int .i64 ((ns.length : Nat) : Int)), (27, .int .i64 ((j : Nat) : Int))])
   (fun j G kvs2 fm2 J2 => [.blk g21 3 (natC G ++ rest21).flatten, .mp r11 (emap Value.string kvs2)])
   (fun j G kvs2 fm2 J2 => j ≤ ns.length ∧ ILe I25 J2 ∧ Lkd l (i + 1) (fun k z => (k < i ∧ ∃ h : k < l.length, nm l[k] z) ∨ (k = i ∧ z ∈ ns.take j)) G fm2 ∧ (∀ z, mget kvs2 z = (fm2 z).map fun (q : Nat) => Value.int .i64 (q : Int)))
   (fun j G kvs2 fm2 J2 => ns.length - j) ⟨Nat.zero_le _, ILe.refl _, (hK.push hlt).congr (fun k z h => h.elim id fun h => by simp at h), hM⟩ rfl sb rfl ?_
  intro j G kvs2 fm2 J2 ⟨hj, hJ2, hK2, hM2⟩
  have hGl : G.length = F.length + 1 := by rw [hK2.len, hlF]
  have hG1 := hK2.len
  have hv0 := hv0.le hJ2
  have hA := hA.le hJ2
  have hNA := hNA.le hJ2
  refine go 6 ?_
  refine cb rfl (fun h28 p28 => ?_) (fun h28 p28 => ?_)
  ·have hlj : j < ns.length := by omega
   refine go 6 ?_
   obtain ⟨b29, o29, w29, e29, c29, r29⟩ := RdA.at_ hNA (i := j) (by omega)
   obtain rfl := r29
   refine o_v rfl (v_idx he rfl rfl e29 (j) (by omega) (by omega)) ?_
   refine o_v rfl (v_ldI he rfl (c29 0 _ rfl)) ?_
   refine go 7 ?_
   refine o_v rfl (v_get2 m1 (key_string he) he he (ns[j]) rfl rfl rfl rfl) ?_
   refine go 12 ?_
   refine cb rfl (fun h37 p37 => ?_) (fun h37 p37 => ?_)
   ·obtain ⟨q, hq⟩ : ∃ q, fm2 ns[j] = some q := by
      rw [hM2] at h37
      cases hq : fm2 ns[j] with
      | none => rw [hq] at h37; cases h37
      | some q => exact ⟨q, rfl⟩
    have hmg : (mget kvs2 ns[j]).getD (.int .i64 0) = .int .i64 (q : Int) := by rw [hM2, hq]; rfl
    rw [hmg]
    have hq1 := (hK2.own _ q hq).1
    refine go 5 ?_
    refine o_callG (hGl ▸ linkJoin _ g21 cap21 G rest21 hR21 hK2.fst q i (by omega) (by omega)) rfl rfl (fun v41 I41 s41 j41 q41 => ?_)
    try have hv0 := hv0.le j41
    try have hA := hA.le j41
    try have hNA := hNA.le j41
    obtain ⟨G2, rfl, rfl, hG2, hFG2, hr2⟩ := q41
    refine go 8 ?_
    exact q_next5 (j + 1) (G2) (kvs2) (fm2) (_) ⟨by omega, hJ2.trans j41, (hK2.hit (by omega) ⟨hlt, (nm_of hno _).1 (List.getElem_mem hlj)⟩ hq hFG2 (hG2.trans hGl.symm) hr2).congr fun k z h => lkd_next hlj h, hM2⟩ (by omega) rfl sb rfl
   ·have hq0 : fm2 ns[j] = none := by
      rw [hM2] at h37
      cases hq : fm2 ns[j] with
      | none => rfl
      | some q => rw [hq] at h37; cases h37
    refine go 5 ?_
    refine bring1 ?_
    refine o_mapPut (mput kvs2 ns[j] (.int .i64 (i : Int))) (key_string he) he (ns[j]) rfl rfl rfl (rfl) ?_
    refine go 8 ?_
    refine bring1 ?_
    exact q_next5 (j + 1) (G) ((mput kvs2 ns[j] (.int .i64 (i : Int)))) ((fun y => if ns[j] = y then some i else fm2 y)) (_) ⟨by omega, hJ2, (hK2.new (by omega) ⟨hlt, (nm_of hno _).1 (List.getElem_mem hlj)⟩ hq0).congr fun k z h => lkd_next hlj h, map_put hM2 ns[j] i⟩ (by omega) rfl sb rfl
  ·obtain rfl : j = ns.length := by omega
   rw [List.take_length] at hK2
   refine sx_unrow (natC_uk G) hR21 (by rw [natC_len]; omega) hcap21 hmax21 ?_
   refine go 11 ?_
   exact q_next6 (i + 1) (_) (G) (kvs2) (fm2) (_) ⟨by omega, hJ.trans (j25.trans hJ2), hK2.congr (fun k z h => lkd_row hlt hno h), hM2⟩ (by omega) rfl sb (by simp only [hGl])
 ·obtain rfl : i = l.length := by omega
  refine go 14 ?_
  refine fin2 rfl rfl rfl ?_
  exact q_post (fun _ m => m) ⟨_, _, F, kvs, fm, rfl, rfl, hK.congr (fun k z h => ⟨h.1, h⟩), hM⟩

theorem linkAdd (I : IMap) (g6 g7 m : Nat) (vo : Value) (P : List Lst) (kvs : List (Int × Value)) (o : Option Nat) (i r : Nat) (ho : mget kvs (r : Int) = o.map fun (k : Nat) => Value.int .i64 (k : Int)) (hk : ∀ k, o = some k → k < P.length) (hP : P.length ≤ 1000000) (hS : ∀ p ∈ P, p.2.length ≤ 1000000) :
    FnH Tryz.prog 74 #[.int .i64 ((i : Nat) : Int), .int .i64 ((r : Nat) : Int), .pointer (some ⟨g6, 0, none⟩), .pointer (some ⟨g7, 0, none⟩)] I (.blk g6 103 [.map (some m)] :: .mp m (emap encI kvs) :: .blk g7 32 [vo] :: .row vo 28 1 (List.length P) (List.map Prod.fst P) :: List.map (lstR 3) P) (fun u J H2 => ∃ (vo2 : Value) (P2 : List Lst) (kvs2 : List (Int × Value)), H2 = .blk g6 103 [.map (some m)] :: .mp m (emap encI kvs2) :: .blk g7 32 [vo2] :: .row vo2 28 1 (List.length P2) (List.map Prod.fst P2) :: List.map (lstR 3) P2 ∧ P2.map Prod.snd = addQ (P.map Prod.snd) o i ∧ kvs2 = (addK kvs o (r : Int) P.length)) := by
 refine enter Tryz.func74 Tryz.call74 rfl Tryz.ntmps74 rfl (fun w0 => ?_)
 refine go 2 ?_
 refine bring3 ?_
 refine sx_rowslice (fun Ao co hvo => ?_)
 subst hvo
 refine go 2 ?_
 refine o_v rfl (v_get2 m2 (key_int he) he he ((r : Int)) rfl rfl rfl rfl) ?_
 refine go 8 ?_
 refine c_cutx4 (Ix := (fun vo2 P1 kvs2 k => I)) (Lx := (fun vo2 P1 kvs2 k => [(0, .int .i64 ((i : Nat) : Int)), (6, .int .i64 ((k : Nat) : Int)), (3, .pointer (some ⟨g7, 0, none⟩))])) (Hx := (fun vo2 P1 kvs2 k => .blk g6 103 [.map (some m)] :: .mp m (emap encI kvs2) :: .blk g7 32 [vo2] :: .row vo2 28 1 (List.length P1) (List.map Prod.fst P1) :: List.map (lstR 3) P1)) (p := (fun vo2 P1 kvs2 k => k < List.length P1 ∧ List.length P1 ≤ 1000001 ∧ (∀ p ∈ P1, (p : Lst).2.length ≤ 1000000) ∧ (List.map Prod.snd P1).set k ((List.map Prod.snd P1).getD k [] ++ [i]) = addQ (P.map Prod.snd) o i ∧ kvs2 = (addK kvs o (r : Int) P.length))) ?_ ?_
 ·refine go 6 ?_
  refine cb rfl (fun h15 p15 => ?_) (fun h15 p15 => ?_)
  ·have hon : o = none := by
     cases hq : o with
     | none => rfl
     | some q => rw [ho, hq] at h15; cases h15
   refine go 13 ?_
   refine bring2 ?_
   refine o_mapPut (mput kvs (r : Int) (.int .i64 (P.length : Int))) (key_int he) he ((r : Int)) rfl rfl rfl (rfl) ?_
   refine go 5 ?_
   refine o_buildSlice he he rfl rfl rfl rfl rfl rfl rfl (fun v22 => ?_)
   refine go 1 ?_
   refine bring2 ?_
   refine o_appendO he he rfl rfl rfl rfl rfl (by omega) (by omega) rfl (fun v23 => ?_)
   refine sx_rowslice (fun A23 c23 hv23 => ?_)
   subst hv23
   refine go 1 ?_
   refine bring4 ?_
   refine o_stw _ he rfl rfl rfl rfl rfl rfl ?_
   refine go 2 ?_
   refine bring2 ?_
   refine sx_drop ?_
   refine bring1 ?_
   refine bring1 ?_
   refine bring2 ?_
   refine bring3 ?_
   refine sx_nilrow 3 1 ?_
   refine sx_join4 (f := lstR 3) (l := P) (.slice none 0 0, []) ?_
   exact q_cutx4 (_) (P ++ [(.slice none 0 0, [])]) (_) (P.length) ⟨by simp, by simp; omega, fun p hp => (List.mem_append.1 hp).elim (hS p) (fun h => by rw [List.mem_singleton.1 h]; exact Nat.zero_le _), by rw [hon]; simp [addQ], by subst hon; rfl⟩ sb (by simp only [List.length_append, List.map_append]; rfl) rfl
  ·obtain ⟨k0, hk0⟩ : ∃ k0, o = some k0 := by
     cases hq : o with
     | none => rw [ho, hq] at h15; cases h15
     | some q => exact ⟨q, rfl⟩
   have hmg : (mget kvs (r : Int)).getD (.int .i64 0) = .int .i64 (k0 : Int) := by rw [ho, hk0]; rfl
   rw [hmg]
   have hkp := hk k0 hk0
   refine go 2 ?_
   refine bring3 ?_
   refine bring3 ?_
   refine bring3 ?_
   
   exact q_cutx4 (_) (P) (kvs) (k0) ⟨hkp, by omega, hS, by rw [hk0]; rfl, by subst hk0; rfl⟩ sb rfl rfl
 ·intro vo2 P1 kvs2 k ⟨hk1, hP1, hS1, hadd, hkv⟩
  refine sx_pull4 (f := lstR 3) hk1 ?_
  refine bring4 ?_
  refine sx_roweq (ys := (vC P1).flatten) (vC_flat P1).symm ?_
  refine sx_row (vC_uk P1) (vC_len P1) (fun h0 _ => by omega) (fun g5 cap5 rest5 hv5 hR5 hc5 hl5 => ?_)
  subst hv5
  have hq1 := hS1 _ (List.getElem_mem hk1)
  refine bring1 ?_
  refine bring1 ?_
  refine d_start2 T.mixed ?_
  refine d_tv 0 rfl rfl (by kernel_rfl) rfl (.cons _ (.cons _ (.refl _))) rfl (v_ld m2 he rfl rfl) ?_
  refine d_tv 1 rfl rfl (by kernel_rfl) rfl (.cons _ (.cons _ (.refl _))) rfl (v_move rfl) ?_
  refine d_tv 2 rfl rfl (by kernel_rfl) rfl (.cons _ (.cons _ (.refl _))) rfl (v_ld m2 he rfl rfl) ?_
  refine d_tv 3 rfl rfl (by kernel_rfl) rfl (.cons _ (.cons _ (.refl _))) rfl (v_move rfl) ?_
  refine d_tv 4 rfl rfl (by kernel_rfl) rfl (.cons _ (.cons _ (.refl _))) rfl (v_idx he rfl rfl rfl (k) (by omega) (by omega)) ?_
  refine d_tv 6 rfl rfl (by kernel_rfl) rfl (.cons _ (.cons _ (.refl _))) rfl (v_move rfl) ?_
  refine d_two 5 7 (by kernel_rfl) rfl rfl ?_ ?_
  ·refine o_val rfl (v_lds m0 (Uk.append (vC_uk P1) hR5) he rfl (k) (by omega) (vC_at hk1)) ?_
   refine d_on (fun _ m => m.keeps (.cons _ (.cons _ (.refl _)))) ?_
   refine d_one 7 (by kernel_rfl) rfl ?_
   refine o_buildSlice he he rfl rfl rfl rfl rfl rfl rfl (fun v31 => ?_)
   refine d_on (fun _ m => m.keeps (.cons _ (.cons _ (.cons _ (.refl _))))) ?_
   refine d_one 8 (by kernel_rfl) rfl ?_
   refine bring2 ?_
   refine o_appendO he he rfl rfl rfl rfl rfl (by omega) (by omega) rfl (fun v32 => ?_)
   refine sx_rowslice (fun A32 c32 hv32 => ?_)
   subst hv32
   refine d_on (fun _ m => m.keeps (.cons _ (.cons _ (.cons _ (.refl _))))) ?_
   refine d_tv 9 rfl rfl (by kernel_rfl) rfl (.cons _ (.cons _ (.cons _ (.refl _)))) rfl (v_idx he rfl rfl rfl (k) (by omega) (by omega)) ?_
   refine d_one 10 (by kernel_rfl) rfl ?_
   refine bring2 ?_
   refine o_stc _ (k) (Uk.append (vC_uk P1) hR5) he rfl rfl rfl rfl rfl (by omega) (by rw [List.length_append, vC_len]; omega) ?_
   refine sx_blkeq (vC (P1.set k (.slice A32 (P1[k].2.length + 1) c32, P1[k].2 ++ [i])) ++ rest5).flatten (by rw [← vC_set hk1]) ?_
   refine d_on (fun _ m => m.keeps (.cons _ (.cons _ (.cons _ (.refl _))))) ?_
   refine d_done (by kernel_rfl) ?_
   refine end0 rfl ?_
   refine bring2 ?_
   refine sx_drop ?_
   refine sx_unrow (vC_uk _) hR5 (by rw [vC_len, List.length_set]) hc5 hl5 ?_
   refine sx_roweq (ys := (P1.set k (.slice A32 (P1[k].2.length + 1) c32, P1[k].2 ++ [i])).map Prod.fst) (vC_flat _) ?_
   refine bring1 ?_
   refine sx_lstsnoc ?_
   refine sx_push4 (f := lstR 3) (l := P1) (.slice A32 (P1[k].2.length + 1) c32, P1[k].2 ++ [i]) hk1 ?_
   refine bring3 ?_
   refine bring3 ?_
   refine bring3 ?_
   refine q_post (fun _ m => m) ⟨_, P1.set k (.slice A32 (P1[k].2.length + 1) c32, P1[k].2 ++ [i]), kvs2, by rw [List.length_set], ?_, hkv⟩
   rw [← hadd, List.map_set]
   simp [List.getD, hk1]
  ·refine o_buildSlice he he rfl rfl rfl rfl rfl rfl rfl (fun v31 => ?_)
   refine d_on (fun _ m => m.keeps (.cons _ (.cons _ (.cons _ (.refl _))))) ?_
   refine d_one 5 (by kernel_rfl) rfl ?_
   refine o_val rfl (v_lds m1 (Uk.append (vC_uk P1) hR5) he rfl (k) (by omega) (vC_at hk1)) ?_
   refine d_on (fun _ m => m.keeps (.cons _ (.cons _ (.cons _ (.refl _))))) ?_
   refine d_one 8 (by kernel_rfl) rfl ?_
   refine bring2 ?_
   refine o_appendO he he rfl rfl rfl rfl rfl (by omega) (by omega) rfl (fun v32 => ?_)
   refine sx_rowslice (fun A32 c32 hv32 => ?_)
   subst hv32
   refine d_on (fun _ m => m.keeps (.cons _ (.cons _ (.cons _ (.refl _))))) ?_
   refine d_tv 9 rfl rfl (by kernel_rfl) rfl (.cons _ (.cons _ (.cons _ (.refl _)))) rfl (v_idx he rfl rfl rfl (k) (by omega) (by omega)) ?_
   refine d_one 10 (by kernel_rfl) rfl ?_
   refine bring2 ?_
   refine o_stc _ (k) (Uk.append (vC_uk P1) hR5) he rfl rfl rfl rfl rfl (by omega) (by rw [List.length_append, vC_len]; omega) ?_
   refine sx_blkeq (vC (P1.set k (.slice A32 (P1[k].2.length + 1) c32, P1[k].2 ++ [i])) ++ rest5).flatten (by rw [← vC_set hk1]) ?_
   refine d_on (fun _ m => m.keeps (.cons _ (.cons _ (.cons _ (.refl _))))) ?_
   refine d_done (by kernel_rfl) ?_
   refine end0 rfl ?_
   refine bring2 ?_
   refine sx_drop ?_
   refine sx_unrow (vC_uk _) hR5 (by rw [vC_len, List.length_set]) hc5 hl5 ?_
   refine sx_roweq (ys := (P1.set k (.slice A32 (P1[k].2.length + 1) c32, P1[k].2 ++ [i])).map Prod.fst) (vC_flat _) ?_
   refine bring1 ?_
   refine sx_lstsnoc ?_
   refine sx_push4 (f := lstR 3) (l := P1) (.slice A32 (P1[k].2.length + 1) c32, P1[k].2 ++ [i]) hk1 ?_
   refine bring3 ?_
   refine bring3 ?_
   refine bring3 ?_
   refine q_post (fun _ m => m) ⟨_, P1.set k (.slice A32 (P1[k].2.length + 1) c32, P1[k].2 ++ [i]), kvs2, by rw [List.length_set], ?_, hkv⟩
   rw [← hadd, List.map_set]
   simp [List.getD, hk1]

theorem linkComps (I : IMap) (v : Value) (l : List Rep) (hv : RdS I v l) (hl : l.length ≤ 1000000) (hsl : ∀ r ∈ l, ∀ e ∈ r.options, SmE e) (R : Nat → Nat) (hRt : Rts l R) :
    FnI Tryz.prog 44 #[v] I (fun u J => RdS J u ((compsN R l.length).map nI)) := by
 refine enter Tryz.func44 Tryz.call44 rfl Tryz.ntmps44 rfl (fun w0 => ?_)
 refine go 9 ?_
 refine o_callA (linkLinked _ _ l hv hl hsl) rfl rfl (fun v12 I12 H12 j12 q12 => ?_)
 obtain ⟨w, m, F, kvs0, fm, rfl, rfl, hK, hM⟩ := q12
 have hR : rt F = R := (hK.done (fun k z hk h => ⟨hk, h⟩)).uniq hRt
 have hFl := hK.len
 have hle := hRt.le
 have hid := hRt.idem
 refine go 9 ?_
 refine sx_rowslice (fun Aw cw hw => ?_)
 subst hw
 refine go 1 ?_
 refine o_v rfl (v_makeFunc rfl rfl) ?_
 refine go 6 ?_
 refine o_map0 (encI) he rfl (fun r17 => ?_)
 refine go 1 ?_
 refine o_alloc he rfl (fun g6 => ?_)
 refine go 1 ?_
 refine o_stw _ he rfl rfl rfl rfl rfl rfl ?_
 refine go 5 ?_
 refine o_alloc he rfl (fun g7 => ?_)
 refine go 4 ?_
 refine o_v rfl (v_makeFunc rfl rfl) ?_
 refine go 6 ?_
 refine sx_nilrow 28 1 ?_
 refine go 6 ?_
 refine bring5 ?_
 refine sx_drop ?_
 refine bring1 ?_
 refine bring3 ?_
 refine bring3 ?_
 refine bring4 ?_
 refine c_loop6 ((0 : Nat)) (F) (_) ([]) ([]) (_) (fun i F1 vo P kvs J => J)
  (fun i F1 vo P kvs J => [(3, .slice Aw F.length cw), (5, .func (.func 73) #[.slice Aw F.length cw] #[]), (7, .pointer (some ⟨g7, 0, none⟩)), (8, .func (.func 74) #[] #[.pointer (some ⟨g6, 0, none⟩), .pointer (some ⟨g7, 0, none⟩)]), (20, .int .i64 ((F.length : Nat) : Int)), (21, .int .i64 ((i : Nat) : Int))])
  (fun i F1 vo P kvs J => .row (.slice Aw F.length cw) 3 1 F.length (natC F1).flatten :: .blk g6 103 [.map (some r17)] :: .mp r17 (emap encI kvs) :: .blk g7 32 [vo] :: .row vo 28 1 (List.length P) (List.map Prod.fst P) :: List.map (lstR 3) P)
  (fun i F1 vo P kvs J => i ≤ F.length ∧ ILe I12 J ∧ F1.length = F.length ∧ Fst F1 ∧ (∀ q, rt F1 q = R q) ∧ List.map Prod.snd P = compsN R i ∧ ∀ r : Nat, mget kvs (r : Int) = (plcN R i r).map fun (k : Nat) => Value.int .i64 (k : Int))
  (fun i F1 vo P kvs J => F.length - i) ⟨Nat.zero_le _, ILe.refl _, rfl, hK.fst, fun q => by rw [hR], rfl, fun r => rfl⟩ rfl sb rfl ?_
 intro i F1 vo P kvs J ⟨hi, hJ, hF1l, hF1, hr1, hP, hpl⟩
 have hPl : P.length = (compsN R i).length := by rw [← hP, List.length_map]
 have hcb := comps_bound (R := R) (i := i)
 have hPs : ∀ p ∈ P, p.2.length ≤ 1000000 := fun p hp => by have := hcb.2 p.2 (by rw [← hP]; exact List.mem_map_of_mem hp); omega
 refine go 6 ?_
 refine cb rfl (fun h22 p22 => ?_) (fun h22 p22 => ?_)
 ·have hlt : i < F.length := by omega
  refine go 11 ?_
  refine sx_row (natC_uk F1) (by rw [natC_len]; exact hF1l) (fun h0 _ => by omega) (fun g9 cap9 rest9 hv9 hR9 hc9 hl9 => ?_)
  cases hv9
  refine go 5 ?_
  refine o_callG (hF1l ▸ linkRoot _ g9 cw F1 rest9 hR9 hF1 i (by omega)) rfl rfl (fun v28 I28 s28 j28 q28 => ?_)
  obtain ⟨G, rfl, rfl, hG, hFG, hr⟩ := q28
  rw [hr1 i]
  refine go 1 ?_
  refine o_callT (linkAdd _ g6 g7 r17 _ P kvs (plcN R i (R i)) i (R i) (hpl (R i)) (fun k hk => by have := plc_len hk; omega) (by omega) hPs) rfl rfl (fun v29 I29 H29 j29 q29 => ?_)
  obtain ⟨vo2, P2, kvs2, rfl, hP2, hkv⟩ := q29
  refine go 4 ?_
  refine sx_unrow (natC_uk G) hR9 (by rw [natC_len]; omega) hc9 hl9 ?_
  refine go 4 ?_
  exact q_next6 (i + 1) (G) (_) (P2) (_) (_) ⟨by omega, hJ.trans (j28.trans j29), hG, hFG, fun q => (hr q).trans (hr1 q), by rw [hP2, hP, comps_add hle hid], fun r => by rw [hkv, hPl]; exact plc_put hle hid hpl r⟩ (by omega) rfl sb rfl
 ·obtain rfl : i = F.length := by omega
  refine go 12 ?_
  refine fin1 rfl rfl ?_
  refine sx_drop ?_
  refine sx_drop ?_
  refine sx_drop ?_
  refine sx_drop ?_
  refine sx_publst1 P (fun I9 hI9 h9 => ?_)
  refine sx_pubrow (l := P.map fun p => nI p.2) rfl (by simp) (lst_flat P h9) (fun I10 j10 R10 => ?_)
  exact q_i (by rw [← hFl, ← hP, List.map_map]; exact R10)

end Go.Proofs.YtoadjlmbdliceaaGreat

/- A table of one's own; what is possible, component by component. -/
set_option linter.all false
namespace Go.Sx
open Go
/-! rows of a table, each in a block of its own -/
abbrev Row := Nat × List Bool
def bC (l : List Bool) : List Value := l.map Value.bool
abbrev tabR (e : Nat) (p : Row) : Res := .blk p.1 e (bC p.2)
def oV (p : Row) : Value := .slice (some ⟨p.1, 0, none⟩) p.2.length p.2.length
def oC (Q : List Row) : List (List Value) := Q.map fun p => [oV p]
theorem bC_len (l : List Bool) : (bC l).length = l.length := by simp [bC]
theorem bC_set (l : List Bool) (i : Nat) (x : Bool) : (bC l).set i (.bool x) = bC (l.set i x) := by simp [bC, List.map_set]
theorem bC_flat {I : IMap} (l : List Bool) : Flat I (bC l) l := by
  induction l with
  | nil => exact .nil
  | cons x l ih => exact .cons (vs := [.bool x]) rfl ih
theorem bC_rep (n : Nat) : (List.replicate n [Value.bool false]).flatten = bC (List.replicate n false) := by
  induction n with
  | zero => rfl
  | succ n ih => rw [List.replicate_succ, List.flatten_cons, ih]; rfl
section
variable {Q : List Row} {rest : List (List Value)} {k : Nat}
theorem oC_uk (Q : List Row) : Uk 1 (oC Q) := fun c hc => by obtain ⟨x, _, rfl⟩ := List.mem_map.1 hc; rfl
theorem oC_len (Q : List Row) : (oC Q).length = Q.length := by simp [oC]
theorem oC_at0 (h : k < Q.length) : (oC Q)[k]? = some [oV Q[k]] := by simp [oC, h]
theorem oC_set (h : k < Q.length) (l : List Bool) (hl : l.length = Q[k].2.length) : oC (Q.set k (Q[k].1, l)) = oC Q := by
  refine List.ext_getElem (by simp [oC_len]) fun j h1 h2 => ?_
  simp only [oC, List.getElem_map, List.getElem_set]
  split
  · rename_i e; subst e; simp [oV, hl]
  · rfl
theorem rep_uk (n : Nat) : Uk 1 (List.replicate n [Value.slice none 0 0]) := fun c hc => by rw [List.eq_of_mem_replicate hc]; rfl
theorem oC_next {n : Nat} (x : Row) (h : Q.length < n) : (oC Q ++ List.replicate (n - Q.length) [Value.slice none 0 0]).set Q.length [oV x] = oC (Q ++ [x]) ++ List.replicate (n - (Q.length + 1)) [Value.slice none 0 0] := by
  rw [List.set_append_right _ _ (by rw [oC_len]; exact Nat.le_refl _), oC_len, Nat.sub_self, show n - Q.length = (n - (Q.length + 1)) + 1 by omega, List.replicate_succ]
  simp [oC]
end
section
variable {P : Program} {n : Sz} {E : Ent} {I : IMap} {L : LL} {H : List Res} {K : Act → World → Prop} {e : Nat}
theorem bC_rds {I : IMap} {g : Nat} {l : List Bool} (h : ICells I g 0 (bC l)) (hl : l.length ≤ 9223372036854775807) : RdS I (.slice (some ⟨g, 0, none⟩) l.length l.length) l := ⟨_, _, rfl, Flat.rda (bC_flat l) h, Nat.le_refl _, hl⟩
/-- all rows become immutable -/
theorem sx_pubtab : ∀ (Q : List Row) {I : IMap}, (∀ p ∈ Q, p.2.length ≤ 9223372036854775807) → (∀ I', ILe I I' → (∀ p ∈ Q, RdS I' (oV p) p.2) → SX n E I' L H K) → SX n E I L (Q.map (tabR e) ++ H) K
  | [], I, _, h => h I (ILe.refl _) fun p hp => by cases hp
  | q :: Q, I, hl, h => by
    show SX n E I L (tabR e q :: (Q.map (tabR e) ++ H)) K
    refine sx_pub fun I1 j1 c1 => ?_
    refine sx_pubtab Q (fun p hp => hl p (by simp [hp])) fun I' hI h2 => h I' (j1.trans hI) fun p hp => ?_
    rcases List.mem_cons.1 hp with rfl | hp
    · exact (bC_rds c1 (hl _ (by simp))).le hI
    · exact h2 p hp
theorem sx_pubtab1 {r : Res} (Q : List Row) (hl : ∀ p ∈ Q, p.2.length ≤ 9223372036854775807) (h : ∀ I', ILe I I' → (∀ p ∈ Q, RdS I' (oV p) p.2) → SX n E I' L [r] K) : SX n E I L (r :: Q.map (tabR e)) K :=
  sx_perm (by simpa using (List.perm_append_comm (l₁ := [r]) (l₂ := Q.map (tabR e)))) (sx_pubtab Q hl h)
theorem oC_flat {I : IMap} : ∀ (Q : List Row), (∀ p ∈ Q, RdS I (oV p) p.2) → Flat I (oC Q).flatten (Q.map Prod.snd)
  | [], _ => .nil
  | q :: Q, h => .cons (vs := [oV q]) ⟨_, rfl, h q (by simp)⟩ (oC_flat Q fun p hp => h p (by simp [hp]))
end
/-! components, one after the other -/
section
variable {c : List Kind} {l : List Rep} {R : Nat → Nat} {i j n r : Nat}
theorem tab_next (h : i < l.length) : ((l.take (i + 1)).map fun r => List.replicate (chs r).toNat false) = ((l.take i).map fun r => List.replicate (chs r).toNat false) ++ [List.replicate (chs l[i]).toNat false] := by
  rw [← take_succ_of h, List.map_append]; rfl
theorem tab_zero : (l.map fun r => List.replicate (chs r).toNat false) = Tab l fun _ _ => false := by
  refine List.ext_getElem (by simp [tab_len]) fun i h1 h2 => ?_
  have hi : i < l.length := by simpa using h1
  rw [tab_at _ hi]
  simp [List.map_const']
theorem ways_sub : ∀ {a b : List Rep}, a.Sublist b → (∀ r ∈ b, chs r ≠ 0) → waysN a ≤ waysN b := by
  intro a b h
  induction h with
  | slnil => intro _; exact Nat.le_refl _
  | cons x h ih =>
    intro hp
    have h1 := ih fun r hr => hp r (by simp [hr])
    have h2 := hp x (by simp)
    have h3 := chs_nn x
    rw [waysN]
    exact Nat.le_trans h1 (Nat.le_mul_of_pos_left _ (by omega))
  | cons_cons x h ih =>
    intro hp
    rw [waysN, waysN]
    exact Nat.mul_le_mul_left _ (ih fun r hr => hp r (by simp [hr]))
theorem pick_sub (n r : Nat) : (pickN l (membN R l.length r)).Sublist l := by
  have : (membN R l.length r).Sublist (List.range l.length) := List.filter_sublist
  have h2 := this.filterMap fun i => l[i]?
  have h3 : (List.range l.length).filterMap (fun i => l[i]?) = l := pickN_range l
  rw [h3] at h2
  exact h2
/-- what is found in one component -/
theorem pk_all (hc : validC c = true) (hp : ∀ q ∈ l, chs q ≠ 0) (h30 : l.length ≤ 30) (hw : waysN l < 4096) (r : Nat) : (allF c (pickN l (membN R l.length r)) 4096).1 = histF c (pickN l (membN R l.length r)) ∧ (allF c (pickN l (membN R l.length r)) 4096).2 = (if histF c (pickN l (membN R l.length r)) = [] then 21 else 0) ∧ (histF c (pickN l (membN R l.length r))).length < 4096 := by
  have hs := pick_sub (l := l) (R := R) 0 r
  have he : errF c (pickN l (membN R l.length r)) = 0 := err_few0 (Nat.le_trans hs.length_le h30) hc (pick_pos hp _)
  have hn : (histF c (pickN l (membN R l.length r))).length < 4096 := Nat.lt_of_le_of_lt (Nat.le_trans (hist_len _ _) (ways_sub hs hp)) hw
  refine ⟨(all_few he (by omega)).1, ?_, hn⟩
  rw [all_code (by decide) (by decide), if_neg (show ¬ (errF c (pickN l (membN R l.length r)) ≠ 0) by simp [he])]
/-- 21 as_ soon as_ a component has no history -/
def dbtR (c : List Kind) (l : List Rep) (R : Nat → Nat) (rs : List Nat) : Int := if rs.any (fun r => decide (histF c (pickN l (membN R l.length r)) = [])) = true then 21 else 0
theorem dbtR_succ (h : j < (rootsN R l.length).length) : dbtR c l R ((rootsN R l.length).take (j + 1)) = if histF c (pickN l (membN R l.length (rootsN R l.length)[j])) = [] then 21 else dbtR c l R ((rootsN R l.length).take j) := by
  unfold dbtR
  rw [← take_succ_of h, List.any_append]
  by_cases hq : histF c (pickN l (membN R l.length (rootsN R l.length)[j])) = []
  · simp [hq]
  · simp [hq]
theorem dbtR_all (hR : Rts l R) (hc : validC c = true) (hp : ∀ q ∈ l, chs q ≠ 0) (hl : l.length < 20000) : dbtR c l R (rootsN R l.length) = if histF c l = [] then 21 else 0 := by
  unfold dbtR
  by_cases h : histF c l = []
  · obtain ⟨r, hr, hq⟩ := (hist_none_iff hR hc hp hl).1 h
    rw [if_pos h, if_pos (List.any_eq_true.2 ⟨r, hr, by simp [hq]⟩)]
  · rw [if_neg h, if_neg]
    rw [List.any_eq_true]
    rintro ⟨r, hr, hq⟩
    exact h ((hist_none_iff hR hc hp hl).2 ⟨r, hr, by simpa using hq⟩)
theorem cho_bad (h : validC c = false ∨ l.any (fun r => decide (chs r = 0)) = true) : choF c l = ([], 1) := by
  unfold choF
  rcases h with h | h
  · rw [if_pos h]
  · by_cases hc : validC c = false
    · rw [if_pos hc]
    · rw [if_neg hc, if_pos h]
theorem cho_ok (hc : validC c = true) (hp : ∀ q ∈ l, chs q ≠ 0) : choF c l = if histF c l = [] then ([], 21) else (Tab l (hasF c l), 0) := by
  unfold choF
  rw [if_neg (by rw [hc]; decide), if_neg]
  rw [List.any_eq_true]; rintro ⟨r, hr, h0⟩; exact hp r hr (by simpa using h0)
theorem comp_at (h : j < (rootsN R n).length) (h2 : j < ((compsN R n).map nI).length) : ((compsN R n).map nI)[j] = nI (membN R n (rootsN R n)[j]) := by simp [compsN]
theorem bad_any : (l.any fun r => !validRep r) = l.any fun r => decide (chs r = 0) := by
  congr 1; funext r
  cases hv : validRep r with
  | true => have := chs_pos hv; simp; omega
  | false => simp [chs, hv]
end
theorem FnV.cast {P : Program} {f : FuncId} {args : Array Value} {I : IMap} {v u : Value} (h : FnV P f args I v) (e : v = u) : FnV P f args I u := e ▸ h
section
variable {Q : List Row} {M : Nat → Int → Bool} {l : List Rep} {i n g q : Nat} {k : Int} {c : List Kind}
theorem oC_next' (hQi : Q.length = i) (h : i < n) (g q : Nat) : (oC Q ++ List.replicate (n - Q.length) [Value.slice none 0 0]).set i [.slice (some ⟨g, 0, none⟩) q q] = oC (Q ++ [(g, List.replicate q false)]) ++ List.replicate (n - (Q.length + 1)) [Value.slice none 0 0] := by
  subst hQi
  rw [← oC_next (g, List.replicate q false) h]
  simp [oV]
theorem row_len (hQ : Q.map Prod.snd = Tab l M) : Q.length = l.length := by
  have := congrArg List.length hQ
  simpa [tab_len] using this
theorem row_at (hQ : Q.map Prod.snd = Tab l M) (hi : i < l.length) (hq : i < Q.length) : Q[i].2 = (List.range (chs l[i]).toNat).map fun (k : Nat) => M i (k : Int) := by
  have h1 : i < (Q.map Prod.snd).length := by simpa using hq
  have h2 : (Q.map Prod.snd)[i] = Q[i].2 := by simp
  rw [← h2, ← tab_at M hi (by rw [tab_len]; exact hi)]
  simp only [hQ]
theorem row_mark (hQ : Q.map Prod.snd = Tab l M) (hi : i < l.length) (h0 : 0 ≤ k) (h1 : k < chs l[i]) (hq : i < Q.length) : (Q.set i (Q[i].1, Q[i].2.set k.toNat true)).map Prod.snd = Tab l (mark1 M i k) := by
  have ht : i < (Tab l M).length := by rw [tab_len]; exact hi
  rw [← tab_mark hi h0 h1 ht, List.map_set, hQ]
  congr 2
  rw [row_at hQ hi hq, tab_at M hi]
theorem pk_fit {C : List Nat} {t : List Int} (hC : ∀ i ∈ C, i < l.length) (ht : t ∈ histF c (pickN l C)) : C.length = t.length ∧ ∀ q (h1 : q < C.length) (h2 : q < t.length), ∃ h3 : C[q] < l.length, 0 ≤ t[q] ∧ t[q] < chs l[C[q]] := by
  obtain ⟨h1, h2⟩ := all_mem.1 (hist_in_all ht)
  rw [pickN_len hC] at h1
  refine ⟨h1.symm, fun q h3 h4 => ⟨hC _ (List.getElem_mem h3), ?_⟩⟩
  have := h2 q (by rw [pickN_len hC]; exact h3) h4
  rwa [pickN_get hC h3] at this
theorem pick_sm {C : List Nat} (h : ∀ r ∈ l, ∀ e ∈ r.options, SmE e) : ∀ r ∈ pickN l C, ∀ e ∈ r.options, SmE e := fun r hr => h r (pickN_mem hr)
theorem memb_le {R : Nat → Nat} {n r : Nat} : (membN R n r).length ≤ n := by
  unfold membN
  exact Nat.le_trans (List.length_filter_le _ _) (by simp)
end
end Go.Sx

/- Walks, printed by a program out of the code of the functions: each theorem is a contract of one function. -/
namespace Go.Proofs.YtoadjlmbdliceaaGreat
open Go Go.Sx
set_option linter.all false
set_option maxRecDepth 20000
set_option maxHeartbeats 4000000
instance T.by_4 : Has (bytesK Tryz.prog 4) ([.bool false], 1, 1) := ⟨by kernel_rfl⟩
instance T.by_68 : Has (bytesK Tryz.prog 68) ([.slice none 0 0], 1, 24) := ⟨by kernel_rfl⟩
instance T.elt_64 : Has (eltK Tryz.prog 64) (68, 1) := ⟨by kernel_rfl⟩
instance T.elt_68 : Has (eltK Tryz.prog 68) (4, 1) := ⟨by kernel_rfl⟩
instance T.ty_64 : Has (tyK Tryz.prog 64) (false, 1) := ⟨by kernel_rfl⟩
instance T.ty_68 : Has (tyK Tryz.prog 68) (false, 1) := ⟨by kernel_rfl⟩
instance T.und_64 : Has (Tryz.prog.underlying 64) (.slice 68) := ⟨by kernel_rfl⟩
instance T.und_68 : Has (Tryz.prog.underlying 68) (.slice 4) := ⟨by kernel_rfl⟩
instance T.zero_64 : Has (zeroK Tryz.prog 64) [.slice none 0 0] := ⟨by kernel_rfl⟩
theorem indexFunc_Rep (I : IMap) (v : Value) (l : List Rep) (hv : RdS I v l) (f : FuncId) (cs : List Value) (p : Rep → Bool) (hp : ∀ x ∈ l, ∀ vs, Enc.rd I vs x → FnV Tryz.prog f ([Value.agg vs.toArray] ++ cs).toArray I (.bool (p x))) :
    FnV Tryz.prog 97 #[v, .func (.func f) #[] cs.toArray] I (.int .i64 (idxF p l)) := by
 obtain ⟨A, c, rfl, hA, hc, hm⟩ := hv
 refine enter Tryz.func97 Tryz.call97 rfl Tryz.ntmps97 rfl (fun w0 => ?_)
 refine go 14 ?_
 refine c_loop (α := Nat) 0 (fun i => I)
  (fun i => [(0, .slice A l.length c), (1, .func (.func f) #[] cs.toArray), (7, .int .i64 (l.length : Int)), (8, .int .i64 (i : Int))])
  (fun i => [])
  (fun i => i ≤ l.length ∧ ∀ j x, j < i → l[j]? = some x → p x = false)
  (fun i => l.length - i) ⟨Nat.zero_le _, fun j x hj => absurd hj (Nat.not_lt_zero j)⟩ rfl sb rfl ?_
 intro i ⟨hi, hn⟩
 refine go 6 ?_
 refine cb rfl (fun h9 p9 => ?_) (fun h9 p9 => ?_)
 ·have hlt : i < l.length := by omega
  refine go 15 ?_
  obtain ⟨b14, o14, w14, e14, c14, r14⟩ := RdA.at_ hA (i := i) hlt
  refine o_v rfl (v_idx he rfl rfl e14 (i) (by omega) hlt) ?_
  refine o_v rfl (v_ldIa he rfl c14 (Enc.len r14)) ?_
  refine go 1 ?_
  refine o_callV (hp _ (List.getElem_mem hlt) _ r14) rfl rfl ?_
  refine go 2 ?_
  refine cb rfl (fun h16 p16 => ?_) (fun h16 p16 => ?_)
  ·refine go 12 ?_
   refine fin1 rfl rfl ?_
   exact q_v (congrArg (Value.int .i64) (idxF_found hlt p16 hn).symm)
  ·refine go 8 ?_
   exact q_next (i + 1) ⟨by omega, idx_next hn hlt p16⟩ (by omega) rfl sb rfl
 ·refine go 11 ?_
  refine fin1 rfl rfl ?_
  exact q_v (congrArg (Value.int .i64) (idxF_none (fun j x hj => hn j x (by omega))).symm)

theorem containsFunc_Rep (I : IMap) (v : Value) (l : List Rep) (hv : RdS I v l) (f : FuncId) (cs : List Value) (p : Rep → Bool) (hp : ∀ x ∈ l, ∀ vs, Enc.rd I vs x → FnV Tryz.prog f ([Value.agg vs.toArray] ++ cs).toArray I (.bool (p x))) :
    FnV Tryz.prog 61 #[v, .func (.func f) #[] cs.toArray] I (.bool (l.any p)) := by
 refine enter Tryz.func61 Tryz.call61 rfl Tryz.ntmps61 rfl (fun w0 => ?_)
 refine go 10 ?_
 refine o_callV (indexFunc_Rep I v l hv f cs p hp) rfl rfl ?_
 refine go 5 ?_
 refine fin1 rfl rfl ?_
 exact q_v (congrArg Value.bool (idxF_any p l))

theorem index_bool (I : IMap) (v : Value) (l : List Bool) (hv : RdS I v l) (b : Bool) :
    FnV Tryz.prog 69 #[v, .bool b] I (.int .i64 (idxF (fun x => b == x) l)) := by
 obtain ⟨A, c, rfl, hA, hc, hm⟩ := hv
 refine enter Tryz.func69 Tryz.call69 rfl Tryz.ntmps69 rfl (fun w0 => ?_)
 refine go 14 ?_
 refine c_loop (α := Nat) 0 (fun i => I)
  (fun i => [(0, .slice A l.length c), (1, .bool b), (7, .int .i64 ((l.length : Nat) : Int)), (8, .int .i64 ((i : Nat) : Int))])
  (fun i => [])
  (fun i => i ≤ l.length ∧ ∀ j x, j < i → l[j]? = some x → (fun x => b == x) x = false)
  (fun i => l.length - i) ⟨Nat.zero_le _, fun j x hj => absurd hj (Nat.not_lt_zero j)⟩ rfl sb rfl ?_
 intro i ⟨hi, hn⟩
 refine go 6 ?_
 refine cb rfl (fun h9 p9 => ?_) (fun h9 p9 => ?_)
 ·have hlt : i < l.length := by omega
  refine go 15 ?_
  obtain ⟨b14, o14, w14, e14, c14, r14⟩ := RdA.at_ hA (i := i) hlt
  obtain rfl := r14
  refine o_v rfl (v_idx he rfl rfl e14 (i) (by omega) hlt) ?_
  refine o_v rfl (v_ldI he rfl (c14 0 _ rfl)) ?_
  refine o_v rfl (v_beql he rfl rfl) ?_
  refine go 2 ?_
  refine cb rfl (fun h16 p16 => ?_) (fun h16 p16 => ?_)
  ·refine go 12 ?_
   refine fin1 rfl rfl ?_
   exact q_v (congrArg (Value.int .i64) (idxF_found (p := (fun x => b == x)) hlt h16 hn).symm)
  ·refine go 8 ?_
   exact q_next (i + 1) ⟨by omega, idx_next (p := (fun x => b == x)) hn hlt h16⟩ (by omega) rfl sb rfl
 ·refine go 11 ?_
  refine fin1 rfl rfl ?_
  exact q_v (congrArg (Value.int .i64) (idxF_none (p := (fun x => b == x)) (fun j x hj => hn j x (by omega))).symm)

theorem contains_bool (I : IMap) (v : Value) (l : List Bool) (hv : RdS I v l) (b : Bool) :
    FnV Tryz.prog 70 #[v, .bool b] I (.bool (l.any (fun x => b == x))) := by
 refine enter Tryz.func70 Tryz.call70 rfl Tryz.ntmps70 rfl (fun w0 => ?_)
 refine go 10 ?_
 refine o_callV (index_bool I v l hv b) rfl rfl ?_
 refine go 5 ?_
 refine fin1 rfl rfl ?_
 exact q_v (congrArg Value.bool (idxF_any _ l))

theorem possBad (I : IMap) (r : Rep) (vs : List Value) (h : Enc.rd I vs r) (hs : ∀ e ∈ r.options, SmE e) :
    FnV Tryz.prog 62 #[.agg vs.toArray] I (.bool (!validRep r)) := by
 obtain ⟨s, rfl, hr0⟩ := h
 have hr1 := hr0
 obtain ⟨S, d, rfl, _⟩ := hr1
 have hr := hr0
 refine enter Tryz.func62 Tryz.call62 rfl Tryz.ntmps62 rfl (fun w0 => ?_)
 refine go 3 ?_
 refine o_box _ rfl rfl rfl (fun g1 => ?_)
 refine go 7 ?_
 refine o_callV (repValid _ r S d hr hs) rfl rfl ?_
 refine go 5 ?_
 refine fin1 rfl rfl ?_
 exact q_v rfl

theorem possPick (I : IMap) (v : Value) (l : List Rep) (hv : RdS I v l) (w : Value) (C : List Nat) (hw : RdS I w (nI C)) (hC : ∀ i ∈ C, i < l.length) (hC6 : C.length ≤ 1000000) :
    FnI Tryz.prog 63 #[v, w] I (fun u J => RdS J u (pickN l C)) := by
 have hv0 := hv
 obtain ⟨A, c0, rfl, hA, hc, hm⟩ := hv
 obtain ⟨B, c1, rfl, hB, hcb, hmb⟩ := hw
 rw [nI_len] at hcb ⊢
 refine enter Tryz.func63 Tryz.call63 rfl Tryz.ntmps63 rfl (fun w0 => ?_)
 refine go 7 ?_
 refine sx_nilrow 47 2 ?_
 refine go 12 ?_
 refine c_loop3 ((0 : Nat)) (_) ([]) (fun i v5 xs => I)
  (fun i v5 xs => [(0, .slice A l.length c0), (5, v5), (8, .slice B C.length c1), (9, .int .i64 ((C.length : Nat) : Int)), (10, .int .i64 ((i : Nat) : Int))])
  (fun i v5 xs => [.row v5 47 2 i xs])
  (fun i v5 xs => i ≤ C.length ∧ Flat I xs (pickN l (C.take i)))
  (fun i v5 xs => C.length - i) ⟨Nat.zero_le _, .nil⟩ rfl sb rfl ?_
 intro i v5 xs ⟨hi, hF⟩
 refine go 6 ?_
 refine cb rfl (fun h11 p11 => ?_) (fun h11 p11 => ?_)
 ·have hlt : i < C.length := by omega
  have hcl := hC _ (List.getElem_mem hlt)
  refine go 6 ?_
  obtain ⟨b12, o12, w12, e12, c12, r12⟩ := RdA.at_ hB (i := i) (by first | exact hlt | (rw [nI_len]; exact hlt))
  rw [nI_at hlt] at r12
  obtain rfl := r12
  refine o_v rfl (v_idx he rfl rfl e12 (i) (by omega) (by first | exact hlt | (rw [nI_len]; exact hlt))) ?_
  refine o_v rfl (v_ldI he rfl (c12 0 _ rfl)) ?_
  refine go 7 ?_
  obtain ⟨b17, o17, w17, e17, c17, r17⟩ := RdA.at_ hA (i := C[i]) hcl
  obtain ⟨q17, rfl, S17, d17, rfl, hS17, hd17, hm17⟩ := r17
  refine o_v rfl (v_idx he rfl rfl e17 (C[i]) (by omega) hcl) ?_
  refine o_v rfl (v_ldIa he rfl c17 rfl) ?_
  refine go 1 ?_
  refine o_buildSlice he he rfl rfl rfl rfl rfl rfl rfl (fun v19 => ?_)
  refine go 1 ?_
  refine bring1 ?_
  refine o_appendO he he rfl rfl rfl rfl rfl (by omega) (by omega) rfl (fun v20 => ?_)
  refine go 9 ?_
  refine bring1 ?_
  refine sx_drop ?_
  exact q_next3 (i + 1) (_) (_) ⟨by omega, by rw [← take_succ_of hlt, pickN_append, pickN_cons hcl]; exact hF.append (.one ⟨_, rfl, ⟨_, _, rfl, hS17, hd17, hm17⟩⟩)⟩ (by omega) rfl sb rfl
 ·obtain rfl : i = C.length := by omega
  rw [List.take_length] at hF
  refine go 7 ?_
  refine sx_pubrow (l := pickN l C) rfl (by rw [pickN_len hC]) (hF) (fun Ip jp Rp => ?_)
  refine go 5 ?_
  refine fin1 rfl rfl ?_
  exact q_i Rp

theorem ref14Picked (I : IMap) (v : Value) (l : List Rep) (hv : RdS I v l) (w : Value) (C : List Nat) (hw : RdS I w (nI C)) (hC : ∀ i ∈ C, i < l.length) (hC6 : C.length ≤ 1000000) :
    FnI Tryz.prog 45 #[v, w] I (fun u J => RdS J u (pickN l C)) := by
 have hv0 := hv
 obtain ⟨A, c0, rfl, hA, hc, hm⟩ := hv
 obtain ⟨B, c1, rfl, hB, hcb, hmb⟩ := hw
 rw [nI_len] at hcb ⊢
 refine enter Tryz.func45 Tryz.call45 rfl Tryz.ntmps45 rfl (fun w0 => ?_)
 refine go 7 ?_
 refine sx_nilrow 47 2 ?_
 refine go 10 ?_
 refine c_loop3 ((0 : Nat)) (_) ([]) (fun i v5 xs => I)
  (fun i v5 xs => [(0, .slice A l.length c0), (1, .slice B C.length c1), (5, v5), (6, .int .i64 ((i : Nat) : Int))])
  (fun i v5 xs => [.row v5 47 2 i xs])
  (fun i v5 xs => i ≤ C.length ∧ Flat I xs (pickN l (C.take i)))
  (fun i v5 xs => C.length - i) ⟨Nat.zero_le _, .nil⟩ rfl sb rfl ?_
 intro i v5 xs ⟨hi, hF⟩
 refine go 9 ?_
 refine cb rfl (fun h10 p10 => ?_) (fun h10 p10 => ?_)
 ·have hlt : i < C.length := by omega
  have hcl := hC _ (List.getElem_mem hlt)
  refine go 9 ?_
  obtain ⟨b17, o17, w17, e17, c17, r17⟩ := RdA.at_ hB (i := i) (by first | exact hlt | (rw [nI_len]; exact hlt))
  rw [nI_at hlt] at r17
  obtain rfl := r17
  refine o_v rfl (v_idx he rfl rfl e17 (i) (by omega) (by first | exact hlt | (rw [nI_len]; exact hlt))) ?_
  refine o_v rfl (v_ldI he rfl (c17 0 _ rfl)) ?_
  obtain ⟨b19, o19, w19, e19, c19, r19⟩ := RdA.at_ hA (i := C[i]) hcl
  obtain ⟨q19, rfl, S19, d19, rfl, hS19, hd19, hm19⟩ := r19
  refine o_v rfl (v_idx he rfl rfl e19 (C[i]) (by omega) hcl) ?_
  refine o_v rfl (v_ldIa he rfl c19 rfl) ?_
  refine go 1 ?_
  refine o_buildSlice he he rfl rfl rfl rfl rfl rfl rfl (fun v21 => ?_)
  refine go 1 ?_
  refine bring1 ?_
  refine o_appendO he he rfl rfl rfl rfl rfl (by omega) (by omega) rfl (fun v22 => ?_)
  refine go 10 ?_
  refine bring1 ?_
  refine sx_drop ?_
  exact q_next3 (i + 1) (_) (_) ⟨by omega, by rw [← take_succ_of hlt, pickN_append, pickN_cons hcl]; exact hF.append (.one ⟨_, rfl, ⟨_, _, rfl, hS19, hd19, hm19⟩⟩)⟩ (by omega) rfl sb rfl
 ·obtain rfl : i = C.length := by omega
  rw [List.take_length] at hF
  refine go 7 ?_
  refine sx_pubrow (l := pickN l C) rfl (by rw [pickN_len hC]) (hF) (fun Ip jp Rp => ?_)
  refine go 5 ?_
  refine fin1 rfl rfl ?_
  exact q_i Rp

theorem possMark (I : IMap) (g10 g6 gO : Nat) (C : List Nat) (CA : Option Addr) (cC : Nat) (hCA : RdA I CA (nI C)) (w : Value) (h : List Int) (hw : RdS I w h) (hch : C.length = h.length) (l : List Rep) (M : Nat → Int → Bool) (Q : List Row) (hQ : List.map Prod.snd Q = Tab l M) (hCl : ∀ q (h1 : q < C.length) (h2 : q < h.length), ∃ h3 : C[q] < l.length, 0 ≤ h[q] ∧ h[q] < chs l[C[q]]) (hh : h.length ≤ 1000000) :
    FnH Tryz.prog 64 #[w, .pointer (some ⟨g10, 0, none⟩), .pointer (some ⟨g6, 0, none⟩)] I (.blk g10 28 [.slice CA C.length cC] :: .blk gO 68 (oC Q).flatten :: .blk g6 64 [.slice (some ⟨gO, 0, none⟩) l.length l.length] :: List.map (tabR 4) Q) (fun u J H2 => ∃ Q2 : List Row, H2 = .blk g10 28 [.slice CA C.length cC] :: .blk gO 68 (oC Q2).flatten :: .blk g6 64 [.slice (some ⟨gO, 0, none⟩) l.length l.length] :: List.map (tabR 4) Q2 ∧ List.map Prod.snd Q2 = Tab l (markM M C h)) := by
 have hw0 := hw
 obtain ⟨HA, hc, rfl, hH, hhc, hhm⟩ := hw
 have hC6 : C.length ≤ 1000000 := by omega
 refine enter Tryz.func64 Tryz.call64 rfl Tryz.ntmps64 rfl (fun w0 => ?_)
 refine go 8 ?_
 refine c_loop2 ((0 : Nat)) (Q) (fun k Q1 => I)
  (fun k Q1 => [(0, .slice HA h.length hc), (2, .pointer (some ⟨g6, 0, none⟩)), (6, .slice CA C.length cC), (7, .int .i64 ((C.length : Nat) : Int)), (8, .int .i64 ((k : Nat) : Int))])
  (fun k Q1 => .blk g10 28 [.slice CA C.length cC] :: .blk gO 68 (oC Q1).flatten :: .blk g6 64 [.slice (some ⟨gO, 0, none⟩) l.length l.length] :: List.map (tabR 4) Q1)
  (fun k Q1 => k ≤ C.length ∧ List.map Prod.snd Q1 = Tab l (markM M (C.take k) (h.take k)))
  (fun k Q1 => C.length - k) ⟨Nat.zero_le _, by rw [markM_nil]; exact hQ⟩ rfl sb rfl ?_
 intro k Q1 ⟨hk, hQ1⟩
 have hQl := row_len hQ1
 refine go 6 ?_
 refine cb rfl (fun h9 p9 => ?_) (fun h9 p9 => ?_)
 ·have hlt : k < C.length := by omega
  have hlh : k < h.length := by omega
  obtain ⟨hcl, h0, h1⟩ := hCl k hlt hlh
  have hq : C[k] < Q1.length := by omega
  have hrl : Q1[C[k]].2.length = (chs l[C[k]]).toNat := by rw [row_at hQ1 hcl hq]; simp
  have hx : h[k].toNat < Q1[C[k]].2.length := by omega
  refine go 7 ?_
  obtain ⟨b11, o11, w11, e11, c11, r11⟩ := RdA.at_ hCA (i := k) (by first | exact hlt | (rw [nI_len]; exact hlt))
  rw [nI_at hlt] at r11
  obtain rfl := r11
  refine o_v rfl (v_idx he rfl rfl e11 (k) (by omega) (by first | exact hlt | (rw [nI_len]; exact hlt))) ?_
  refine o_v rfl (v_ldI he rfl (c11 0 _ rfl)) ?_
  refine go 4 ?_
  refine sx_pull3 (f := tabR 4) hq ?_
  refine d_start1 T.mixed ?_
  refine d_tv 0 rfl rfl (by kernel_rfl) rfl (.cons _ (.refl _)) rfl (v_ld m2 he rfl rfl) ?_
  refine d_tv 1 rfl rfl (by kernel_rfl) rfl (.cons _ (.refl _)) rfl (v_move rfl) ?_
  refine d_tv 2 rfl rfl (by kernel_rfl) rfl (.cons _ (.refl _)) rfl (v_idx he rfl rfl rfl (C[k]) (by omega) hcl) ?_
  refine d_tv 3 rfl rfl (by kernel_rfl) rfl (.cons _ (.refl _)) rfl (v_lds m1 (oC_uk _) he rfl (C[k]) (by omega) (oC_at0 hq)) ?_
  refine d_tv 4 rfl rfl (by kernel_rfl) rfl (.cons _ (.refl _)) rfl (v_move rfl) ?_
  refine d_tv 5 rfl rfl (by kernel_rfl) rfl (.cons _ (.refl _)) rfl (v_move rfl) ?_
  obtain ⟨b19, o19, w19, e19, c19, r19⟩ := RdA.at_ hH (i := k) (by omega)
  obtain rfl := r19
  refine d_tv 6 rfl rfl (by kernel_rfl) rfl (.cons _ (.refl _)) rfl (v_idx he rfl rfl e19 (k) (by omega) (by omega)) ?_
  refine d_tv 7 rfl rfl (by kernel_rfl) rfl (.cons _ (.refl _)) rfl (v_ldI he rfl (c19 0 _ rfl)) ?_
  refine d_tv 8 rfl rfl (by kernel_rfl) rfl (.cons _ (.refl _)) rfl (v_idx he rfl rfl rfl (h[k].toNat) (by omega) hx) ?_
  refine d_one 9 (by kernel_rfl) rfl ?_
  refine o_st1 he rfl rfl rfl (by rw [bC_len, Nat.blt_eq]; omega) ?_
  refine sx_blkeq (bC (Q1[C[k]].2.set h[k].toNat true)) (by rw [Nat.zero_add, Nat.mul_one, bC_set]) ?_
  refine d_on (fun _ m => m.keeps (.cons _ (.refl _))) ?_
  refine d_done (by kernel_rfl) ?_
  refine go 3 ?_
  refine sx_push3 (f := tabR 4) (Q1[C[k]].1, Q1[C[k]].2.set h[k].toNat true) hq ?_
  refine go 4 ?_
  exact q_next2 (k + 1) ((Q1.set C[k] (Q1[C[k]].1, Q1[C[k]].2.set h[k].toNat true))) ⟨by omega, by rw [markM_succ hlt hlh]; exact row_mark hQ1 hcl h0 h1 hq⟩ (by omega) rfl sb (by rw [oC_set hq _ (by simp)])
 ·obtain rfl : k = C.length := by omega
  rw [List.take_length, hch, List.take_length] at hQ1
  refine go 4 ?_
  refine end0 rfl ?_
  exact q_post (fun _ m => m) ⟨Q1, rfl, hQ1⟩

theorem possChoices (I : IMap) (vc : Value) (c : List Kind) (hvc : RdS I vc c) (hsc : SmC c) (v : Value) (l : List Rep) (hv : RdS I v l) (hl : l.length ≤ 1000000) (hsl : ∀ r ∈ l, ∀ e ∈ r.options, SmE e) (h30 : l.length ≤ 30) (hw : waysN l < 4096) :
    FnI Tryz.prog 37 #[.agg #[vc], v] I (fun u J => ∃ w, u = .tuple #[w, .int .i64 (choF c l).2] ∧ RdS J w (choF c l).1) := by
 obtain ⟨R, hRt⟩ := roots_ex l
 have hv0 := hv
 obtain ⟨A, c0, rfl, hA, hc, hm⟩ := hv
 refine enter Tryz.func37 Tryz.call37 rfl Tryz.ntmps37 rfl (fun w0 => ?_)
 refine go 3 ?_
 refine o_box _ rfl rfl rfl (fun g2 => ?_)
 refine go 9 ?_
 refine o_callV (catValid _ vc c hvc hsc) rfl rfl ?_
 refine go 2 ?_
 refine sxb 19 rfl (fun h19 p19 => ?_) (fun h19 p19 => ?_)
 ·have hbad : validC c = false ∨ l.any (fun r => decide (chs r = 0)) = true := .inl (by simpa using h19)
  refine go 5 ?_
  refine c_true rfl ?_
  refine go 8 ?_
  refine fin2 rfl rfl rfl ?_
  exact q_i ⟨_, by rw [cho_bad hbad], by rw [cho_bad hbad]; exact RdS.nil'⟩
 ·refine go 2 ?_
  refine o_yes rfl rfl h19 (o_callV (containsFunc_Rep _ _ l hv0 _ [] (fun r => !validRep r) (fun x hx vs h => possBad _ x vs h (hsl x hx))) rfl rfl ?_)
  refine go 3 ?_
  refine cb rfl (fun h22 p22 => ?_) (fun h22 p22 => ?_)
  ·have hbad : validC c = false ∨ l.any (fun r => decide (chs r = 0)) = true := .inr (by rw [← bad_any]; exact h22)
   refine go 8 ?_
   refine fin2 rfl rfl rfl ?_
   exact q_i ⟨_, by rw [cho_bad hbad], by rw [cho_bad hbad]; exact RdS.nil'⟩
  ·have hC : validC c = true := by simpa using h19
   have hP : ∀ q ∈ l, chs q ≠ 0 := fun q hq h0 => by
     rw [bad_any] at h22
     have := List.any_eq_false.1 h22 q hq
     simp [h0] at this
   refine go 7 ?_
   refine o_makeSlice he he rfl rfl rfl (by omega) (by omega) rfl (fun g25 => ?_)
   refine go 1 ?_
   refine o_alloc he rfl (fun g6 => ?_)
   refine go 1 ?_
   refine o_stw _ he rfl rfl rfl rfl rfl rfl ?_
   refine go 11 ?_
   refine bring2 ?_
   refine bring1 ?_
   refine bring2 ?_
   refine c_loop2 ((0 : Nat)) ([]) (fun i Q => I)
    (fun i Q => [(1, .slice A l.length c0), (2, .pointer (some ⟨g2, 0, none⟩)), (6, .pointer (some ⟨g6, 0, none⟩)), (27, .int .i64 ((l.length : Nat) : Int)), (28, .int .i64 ((i : Nat) : Int))])
    (fun i Q => .blk g25 68 (oC Q ++ List.replicate (l.length - List.length Q) [Value.slice none 0 0]).flatten :: .blk g6 64 [.slice (some ⟨g25, 0, none⟩) l.length l.length] :: .blk g2 24 [vc] :: List.map (tabR 4) Q)
    (fun i Q => i ≤ l.length ∧ List.length Q = i ∧ List.map Prod.snd Q = (l.take i).map fun r => List.replicate (chs r).toNat false)
    (fun i Q => l.length - i) ⟨Nat.zero_le _, rfl, rfl⟩ rfl sb rfl ?_
   intro i Q ⟨hi, hQi, hQs⟩
   refine go 6 ?_
   refine cb rfl (fun h29 p29 => ?_) (fun h29 p29 => ?_)
   ·have hlt : i < l.length := by omega
    have hc5 := chs_five l[i]
    refine go 10 ?_
    refine d_start1 T.mixed ?_
    refine d_tv 0 rfl rfl (by kernel_rfl) rfl (.cons _ (.refl _)) rfl (v_ld m0 he rfl rfl) ?_
    refine d_tv 1 rfl rfl (by kernel_rfl) rfl (.cons _ (.refl _)) rfl (v_move rfl) ?_
    refine d_tv 2 rfl rfl (by kernel_rfl) rfl (.cons _ (.refl _)) rfl (v_move rfl) ?_
    refine d_tv 3 rfl rfl (by kernel_rfl) rfl (.cons _ (.refl _)) rfl (v_move rfl) ?_
    obtain ⟨b35, o35, w35, e35, c35, r35⟩ := RdA.at_ hA (i := i) (by omega)
    obtain ⟨q35, rfl, S35, d35, rfl, hS35, hd35, hm35⟩ := r35
    refine d_tv 4 rfl rfl (by kernel_rfl) rfl (.cons _ (.refl _)) rfl (v_idx he rfl rfl e35 (i) (by omega) (by omega)) ?_
    refine d_tv 5 rfl rfl (by kernel_rfl) rfl (.cons _ (.refl _)) rfl (v_ldIa he rfl c35 rfl) ?_
    refine d_one 6 (by kernel_rfl) rfl ?_
    refine o_callV (FnV.cast (repChoices _ l[i] S35 d35 ⟨_, _, rfl, hS35, hd35, hm35⟩ (hsl _ (List.getElem_mem hlt))) (congrArg (Value.int .i64) (Int.toNat_of_nonneg (chs_nn _)).symm)) rfl rfl ?_
    refine d_on (fun _ m => m.keeps (.cons _ (.refl _))) ?_
    refine d_one 7 (by kernel_rfl) rfl ?_
    refine o_makeSlice he he rfl rfl rfl (by omega) (by omega) rfl (fun g38 => ?_)
    refine d_on (fun _ m => m.keeps (.cons _ (.cons _ (.refl _)))) ?_
    refine d_tv 8 rfl rfl (by kernel_rfl) rfl (.cons _ (.cons _ (.refl _))) rfl (v_idx he rfl rfl rfl (i) (by omega) (by omega)) ?_
    refine d_one 9 (by kernel_rfl) rfl ?_
    refine bring1 ?_
    refine o_stc _ (i) (Uk.append (oC_uk _) (rep_uk _)) he rfl rfl rfl rfl rfl (by omega) (by simp [oC_len]; omega) ?_
    refine sx_blkeq _ (congrArg List.flatten (oC_next' hQi hlt g38 (chs l[i]).toNat)) ?_
    refine d_on (fun _ m => m.keeps (.cons _ (.cons _ (.refl _)))) ?_
    refine d_done (by kernel_rfl) ?_
    refine go 3 ?_
    refine bring3 ?_
    refine bring3 ?_
    refine bring2 ?_
    refine bring3 ?_
    refine sx_blkeq _ (bC_rep _) ?_
    refine sx_join3 (f := tabR 4) (l := Q) (g38, List.replicate (chs l[i]).toNat false) ?_
    refine go 4 ?_
    exact q_next2 (i + 1) ((Q ++ [(g38, List.replicate (chs l[i]).toNat false)])) ⟨by omega, by simp [hQi], by rw [tab_next hlt, List.map_append, hQs]; rfl⟩ (by omega) rfl sb (by simp only [List.length_append]; rfl)
   ·obtain rfl : i = l.length := by omega
    rw [List.take_length, tab_zero] at hQs
    refine sx_blkeq (oC Q).flatten (by rw [hQi, Nat.sub_self]; simp) ?_
    refine go 15 ?_
    refine o_call (linkComps _ _ l hv0 hl hsl R hRt) rfl rfl (fun v42 I42 j42 q42 => ?_)
    try have hvc := hvc.le j42
    try have hv0 := hv0.le j42
    try have hA := hA.le j42
    try have hCA := hCA.le j42
    try have q52 := q52.le j42
    try have hS46 := hS46.le j42
    try have hHA := hHA.le j42
    try have hw53 := hw53.le j42
    have q42s := q42
    obtain ⟨CA, cc, rfl, hCA, _, _⟩ := q42s
    have hcl0 : ((compsN R l.length).map nI).length = (rootsN R l.length).length := by simp [compsN]
    refine o_v rfl (OV.cast (u := .int .i64 (((rootsN R l.length).length : Nat) : Int)) (v_len_slice he rfl) (congrArg (Value.int .i64) (by rw [hcl0]))) ?_
    refine go 4 ?_
    refine c_loop4 ((0 : Nat)) (Q) (0) (I42) (fun j Q1 z J => J)
     (fun j Q1 z J => [(1, .slice A l.length c0), (2, .pointer (some ⟨g2, 0, none⟩)), (6, .pointer (some ⟨g6, 0, none⟩)), (42, .slice CA ((compsN R l.length).map nI).length cc), (43, .int .i64 (((rootsN R l.length).length : Nat) : Int)), (44, .int .i64 ((j : Nat) : Int)), (8, .int .i64 z)])
     (fun j Q1 z J => .blk g25 68 (oC Q1).flatten :: .blk g6 64 [.slice (some ⟨g25, 0, none⟩) l.length l.length] :: .blk g2 24 [vc] :: List.map (tabR 4) Q1)
     (fun j Q1 z J => j ≤ (rootsN R l.length).length ∧ ILe I42 J ∧ List.map Prod.snd Q1 = Tab l (markR c l R ((rootsN R l.length).take j)) ∧ z = dbtR c l R ((rootsN R l.length).take j))
     (fun j Q1 z J => (rootsN R l.length).length - j) ⟨Nat.zero_le _, ILe.refl _, by rw [markR_nil]; exact hQs, by simp [dbtR]⟩ rfl sb rfl ?_
    intro j Q1 z J ⟨hj, hJ, hQ1, hz⟩
    have hvc := hvc.le hJ
    have hv0 := hv0.le hJ
    have hA := hA.le hJ
    have hCA := hCA.le hJ
    refine go 6 ?_
    refine cb rfl (fun h45 p45 => ?_) (fun h45 p45 => ?_)
    ·have hlt : j < (rootsN R l.length).length := by omega
     obtain ⟨Hs, hHs⟩ : ∃ q, q = histF c (pickN l (membN R l.length (rootsN R l.length)[j])) := ⟨_, rfl⟩
     have hpk := pk_all (R := R) hC hP h30 hw (rootsN R l.length)[j]
     rw [← hHs] at hpk
     have hmb := memb_le (R := R) (n := l.length) (r := (rootsN R l.length)[j])
     refine go 6 ?_
     obtain ⟨b46, o46, w46, e46, c46, r46⟩ := RdA.at_ hCA (i := j) (by omega)
     rw [comp_at hlt] at r46
     obtain ⟨q46, rfl, S46, d46, rfl, hS46, hd46, hm46⟩ := r46
     refine o_v rfl (v_idx he rfl rfl e46 (j) (by omega) (by omega)) ?_
     refine o_v rfl (OV.cast (u := .slice S46 (membN R l.length (rootsN R l.length)[j]).length d46) (v_ldI he rfl (c46 0 _ rfl)) (by rw [nI_len])) ?_
     refine go 1 ?_
     refine o_alloc he rfl (fun g10 => ?_)
     refine go 1 ?_
     refine o_stw _ he rfl rfl rfl rfl rfl rfl ?_
     refine go 3 ?_
     refine sx_knowI (fun hE13 hf13 => ?_)
     refine d_startH T.mixed ?_
     refine d_tv 0 rfl rfl (by kernel_rfl) rfl (.refl _) rfl (v_ldw m3 he rfl rfl) ?_
     refine d_tv 1 rfl rfl (by kernel_rfl) rfl (.refl _) rfl (v_move rfl) ?_
     refine d_tv 2 rfl rfl (by kernel_rfl) rfl (.refl _) rfl (v_ld m0 he rfl rfl) ?_
     refine d_one 3 (by kernel_rfl) rfl ?_
     refine o_call (possPick _ _ l hv0 _ (membN R l.length (rootsN R l.length)[j]) ⟨S46, d46, by rw [nI_len], hS46, hd46, hm46⟩ (fun i hi => memb_lt hi) (by omega)) rfl rfl (fun v52 I52 j52 q52 => ?_)
     try have hvc := hvc.le j52
     try have hv0 := hv0.le j52
     try have hA := hA.le j52
     try have hCA := hCA.le j52
     try have q52 := q52.le j52
     try have hS46 := hS46.le j52
     try have hHA := hHA.le j52
     try have hw53 := hw53.le j52
     refine d_on (fun _ m => m.keepsI (.refl _) (j52) hE13 hf13) ?_
     refine d_one 4 (by kernel_rfl) rfl ?_
     refine o_call (seAll _ vc c hvc hsc _ (pickN l (membN R l.length (rootsN R l.length)[j])) q52 (by rw [pickN_len fun i hi => memb_lt hi]; omega) (pick_sm hsl) 4096) rfl rfl (fun v53 I53 j53 q53 => ?_)
     try have hvc := hvc.le j53
     try have hv0 := hv0.le j53
     try have hA := hA.le j53
     try have hCA := hCA.le j53
     try have q52 := q52.le j53
     try have hS46 := hS46.le j53
     try have hHA := hHA.le j53
     try have hw53 := hw53.le j53
     obtain ⟨w53, rfl, hw53⟩ := q53
     rw [hpk.1] at hw53
     rw [hpk.2.1]
     obtain ⟨HA, hcc, rfl, hHA, _, _⟩ := hw53
     refine d_on (fun _ m => m.keepsI (.refl _) ((j52).trans j53) hE13 hf13) ?_
     refine d_t 5 rfl rfl (by kernel_rfl) rfl (fun _ m => m.keepsI (.refl _) ((j52).trans j53) hE13 hf13) (y_v rfl (v_move rfl)) ?_
     refine d_t 6 rfl rfl (by kernel_rfl) rfl (fun _ m => m.keepsI (.refl _) ((j52).trans j53) hE13 hf13) (y_v rfl (v_extract rfl rfl)) ?_
     refine d_t 7 rfl rfl (by kernel_rfl) rfl (fun _ m => m.keepsI (.refl _) ((j52).trans j53) hE13 hf13) (y_v rfl (v_extract rfl rfl)) ?_
     refine d_t 8 rfl rfl (by kernel_rfl) rfl (fun _ m => m.keepsI (.refl _) ((j52).trans j53) hE13 hf13) (y_v rfl (v_assign rfl)) ?_
     refine d_t 9 rfl rfl (by kernel_rfl) rfl (fun _ m => m.keepsI (.refl _) ((j52).trans j53) hE13 hf13) (y_v rfl (v_assign rfl)) ?_
     refine d_done (by kernel_rfl) ?_
     refine go 2 ?_
     refine c_cutx (α := Int) (Ix := (fun z2 => I53)) (Lx := (fun z2 => [(1, .slice A l.length c0), (2, .pointer (some ⟨g2, 0, none⟩)), (6, .pointer (some ⟨g6, 0, none⟩)), (42, .slice CA ((compsN R l.length).map nI).length cc), (43, .int .i64 (((rootsN R l.length).length : Nat) : Int)), (44, .int .i64 ((j : Nat) : Int)), (8, .int .i64 z2), (10, .pointer (some ⟨g10, 0, none⟩)), (11, .slice HA Hs.length hcc)])) (Hx := (fun z2 => .blk g10 28 [.slice S46 (membN R l.length (rootsN R l.length)[j]).length d46] :: .blk g25 68 (oC Q1).flatten :: .blk g6 64 [.slice (some ⟨g25, 0, none⟩) l.length l.length] :: .blk g2 24 [vc] :: List.map (tabR 4) Q1)) (p := (fun z2 => z2 = dbtR c l R ((rootsN R l.length).take (j + 1)))) ?_ ?_
     ·refine go 4 ?_
      refine o_v rfl (OV.cast (u := .bool false) (v_eql rfl rfl) (congrArg Value.bool (by split <;> decide))) ?_
      refine go 3 ?_
      refine o_cons (o_yes rfl rfl rfl (o_val rfl (OV.cast (u := .bool false) (v_eql rfl rfl) (congrArg Value.bool (decide_eq_false (by have := hpk.2.2; omega)))) ?_))
      refine go 4 ?_
      refine c_false rfl ?_
      refine go 7 ?_
      refine cb rfl (fun h64 p64 => ?_) (fun h64 p64 => ?_)
      ·have hHn : Hs = [] := Classical.byContradiction fun h => by simp [h] at h64
       refine go 6 ?_
       exact q_cutx (if Hs = [] then (21 : Int) else 0) (by rw [dbtR_succ hlt, ← hHs, if_pos hHn, if_pos hHn]) sb rfl rfl
      ·have hHn : ¬ Hs = [] := fun h => by simp [h] at h64
       refine go 3 ?_
       exact q_cutx z (by rw [dbtR_succ hlt, ← hHs, if_neg hHn]; exact hz) sb rfl rfl
     ·intro z2 hz2
      refine go 2 ?_
      refine o_v rfl (v_makeFunc rfl rfl) ?_
      refine go 11 ?_
      refine c_loop3 ((0 : Nat)) (Q1) (I53) (fun k Q2 J2 => J2)
       (fun k Q2 J2 => [(1, .slice A l.length c0), (2, .pointer (some ⟨g2, 0, none⟩)), (6, .pointer (some ⟨g6, 0, none⟩)), (42, .slice CA ((compsN R l.length).map nI).length cc), (43, .int .i64 (((rootsN R l.length).length : Nat) : Int)), (44, .int .i64 ((j : Nat) : Int)), (8, .int .i64 z2), (13, .func (.func 64) #[] #[.pointer (some ⟨g10, 0, none⟩), .pointer (some ⟨g6, 0, none⟩)]), (69, .slice HA Hs.length hcc), (70, .int .i64 ((Hs.length : Nat) : Int)), (71, .int .i64 ((k : Nat) : Int))])
       (fun k Q2 J2 => .blk g10 28 [.slice S46 (membN R l.length (rootsN R l.length)[j]).length d46] :: .blk g25 68 (oC Q2).flatten :: .blk g6 64 [.slice (some ⟨g25, 0, none⟩) l.length l.length] :: .blk g2 24 [vc] :: List.map (tabR 4) Q2)
       (fun k Q2 J2 => k ≤ Hs.length ∧ ILe I53 J2 ∧ List.map Prod.snd Q2 = Tab l (markA (markR c l R ((rootsN R l.length).take j)) (membN R l.length (rootsN R l.length)[j]) (Hs.take k)))
       (fun k Q2 J2 => Hs.length - k) ⟨Nat.zero_le _, ILe.refl _, by rw [markA_nil]; exact hQ1⟩ rfl sb rfl ?_
      intro k Q2 J2 ⟨hk, hJ2, hQ2⟩
      have hHA := hHA.le hJ2
      have hS46 := hS46.le hJ2
      refine go 6 ?_
      refine cb rfl (fun h72 p72 => ?_) (fun h72 p72 => ?_)
      ·have hlk : k < Hs.length := by omega
       have hfit := pk_fit (c := c) (l := l) (C := (membN R l.length (rootsN R l.length)[j])) (t := Hs[k]) (fun i hi => memb_lt hi) (by rw [← hHs]; exact List.getElem_mem hlk)
       refine go 6 ?_
       obtain ⟨b73, o73, w73, e73, c73, r73⟩ := RdA.at_ hHA (i := k) (by omega)
       obtain ⟨q73, rfl, S73, d73, rfl, hS73, hd73, hm73⟩ := r73
       refine o_v rfl (v_idx he rfl rfl e73 (k) (by omega) (by omega)) ?_
       refine o_v rfl (v_ldI he rfl (c73 0 _ rfl)) ?_
       refine go 7 ?_
       refine bring3 ?_
       refine o_callT (possMark _ g10 g6 g25 (membN R l.length (rootsN R l.length)[j]) S46 d46 hS46 _ Hs[k] ⟨_, _, rfl, hS73, hd73, hm73⟩ hfit.1 l _ Q2 hQ2 hfit.2 (by have := hfit.1; omega)) rfl rfl (fun v77 I77 H77 j77 q77 => ?_)
       obtain ⟨Q3, rfl, hQ3⟩ := q77
       refine go 8 ?_
       refine bring3 ?_
       refine bring3 ?_
       refine bring3 ?_
       exact q_next3 (k + 1) (Q3) (_) ⟨by omega, hJ2.trans j77, by rw [hQ3, markA_succ hlk]⟩ (by omega) rfl sb rfl
      ·obtain rfl : k = Hs.length := by omega
       rw [List.take_length] at hQ2
       refine go 11 ?_
       refine sx_drop ?_
       exact q_next4 (j + 1) (Q2) (z2) (_) ⟨by omega, hJ.trans (j52.trans (j53.trans hJ2)), by rw [hQ2, markR_succ hlt, ← hHs], hz2⟩ (by omega) rfl sb rfl
    ·obtain rfl : j = (rootsN R l.length).length := by omega
     rw [List.take_length] at hQ1 hz
     rw [dbtR_all hRt hC hP (by omega)] at hz
     refine go 12 ?_
     refine cb rfl (fun h81 p81 => ?_) (fun h81 p81 => ?_)
     ·refine go 9 ?_
      refine fin2 rfl rfl rfl ?_
      have hn : histF c l = [] := Classical.byContradiction fun h => p81 (by rw [hz, if_neg h])
      exact q_i ⟨_, by rw [cho_ok hC hP, if_pos hn, hz, if_pos hn], by rw [cho_ok hC hP, if_pos hn]; exact RdS.nil'⟩
     ·have hn : ¬ histF c l = [] := fun h => by rw [hz, if_pos h] at h81; cases h81
      have hQl := row_len hQ1
      have hrow : ∀ p ∈ Q1, p.2.length ≤ 9223372036854775807 := fun p hp => by
        obtain ⟨i, hi, rfl⟩ := List.getElem_of_mem hp
        have h5 := chs_five (l[i]'(by omega))
        rw [row_at hQ1 (by omega) hi, List.length_map, List.length_range]; omega
      have htab : List.map Prod.snd Q1 = Tab l (hasF c l) := by rw [hQ1]; exact tab_congr fun i hi k _ _ => mark_has hRt hC hP (by omega) hn hi k
      refine go 10 ?_
      refine fin2 rfl rfl rfl ?_
      refine bring1 ?_
      refine sx_drop ?_
      refine bring1 ?_
      refine sx_drop ?_
      refine sx_pubtab1 Q1 hrow (fun I9 hI9 h9 => ?_)
      refine sx_pub (fun I10 j10 c10 => ?_)
      exact q_i ⟨_, by rw [cho_ok hC hP, if_neg hn], by rw [cho_ok hC hP, if_neg hn, ← htab]; exact ⟨_, _, by rw [List.length_map, hQl], Flat.rda (oC_flat Q1 fun p hp => (h9 p hp).le j10) c10, by rw [List.length_map]; omega, by omega⟩⟩

end Go.Proofs.YtoadjlmbdliceaaGreat

/- What is possible and what is sure: the plain laws. -/
set_option linter.all false
namespace Go.Sx
open Go
/-! the only true one of a list -/
def fstT (l : List Bool) : Int := idxF (fun x => true == x) l
def onlyF (l : List Bool) : Int := if ((l.drop (fstT l + 1).toNat).any fun x => true == x) = true then -1 else fstT l
def cntF (l : List Bool) : Nat := (l.filter id).length
def lastF : List Bool → Int
  | [] => -1
  | b :: l => if 0 ≤ lastF l then lastF l + 1 else if b = true then 0 else -1
theorem fstT_le (l : List Bool) : -1 ≤ fstT l ∧ fstT l < (l.length : Nat) := by
  refine ⟨idxF_ge _ _, ?_⟩
  rcases idxF_find (fun x => true == x) l with ⟨h, _⟩ | ⟨i, hi, h, _⟩
  · have : fstT l < 0 := h
    omega
  · have : fstT l = i := h
    omega
theorem lastF_ge : ∀ l : List Bool, -1 ≤ lastF l
  | [] => by simp [lastF]
  | b :: l => by
    have := lastF_ge l
    rw [lastF]; split
    · omega
    · split <;> omega
theorem cntF_snoc (l : List Bool) (b : Bool) : cntF (l ++ [b]) = if b = true then cntF l + 1 else cntF l := by
  cases b <;> simp [cntF, List.filter_append]
theorem lastF_snoc : ∀ (l : List Bool) (b : Bool), lastF (l ++ [b]) = if b = true then (l.length : Int) else lastF l
  | [], b => by cases b <;> simp [lastF]
  | x :: l, b => by
    rw [List.cons_append, lastF, lastF_snoc l b, lastF]
    cases b with
    | true => simp
    | false => simp
theorem cntF_step {l : List Bool} {k : Nat} (h : k < l.length) : cntF (l.take (k + 1)) = if l[k] = true then cntF (l.take k) + 1 else cntF (l.take k) := by
  rw [← take_succ_of h, cntF_snoc]
theorem lastF_step {l : List Bool} {k : Nat} (h : k < l.length) : lastF (l.take (k + 1)) = if l[k] = true then (k : Int) else lastF (l.take k) := by
  rw [← take_succ_of h, lastF_snoc, List.length_take, Nat.min_eq_left (by omega)]
/-- one true element, others behind it -/
theorem true_split : ∀ {l : List Bool}, cntF l ≠ 0 → ∃ (q : Nat) (B : List Bool), l = List.replicate q false ++ true :: B
  | [], h => by simp [cntF] at h
  | true :: l, _ => ⟨0, l, rfl⟩
  | false :: l, h => by
    obtain ⟨q, B, e⟩ := true_split (l := l) (by simpa [cntF] using h)
    exact ⟨q + 1, B, by rw [e]; rfl⟩
theorem fst_split (q : Nat) (B : List Bool) : fstT (List.replicate q false ++ true :: B) = q := by
  refine idxF_found (p := fun x => true == x) (i := q) (by simp) (by simp) fun j x hj hx => ?_
  rw [List.getElem?_append_left (by simpa using hj)] at hx
  have : x = false := List.eq_of_mem_replicate (List.mem_of_getElem? hx)
  rw [this]; rfl
theorem cnt_split (q : Nat) (B : List Bool) : cntF (List.replicate q false ++ true :: B) = cntF B + 1 := by
  simp [cntF, List.filter_append, List.filter_replicate]
theorem cntF_zero {B : List Bool} : cntF B = 0 ↔ (B.any fun x => true == x) = false := by
  simp [cntF, List.any_eq_false]
theorem last_none : ∀ {B : List Bool}, cntF B = 0 → lastF B = -1
  | [], _ => rfl
  | true :: B, h => by simp [cntF] at h
  | false :: B, h => by
    have := last_none (B := B) (by simpa [cntF] using h)
    simp [lastF, this]
theorem last_split (B : List Bool) (h : cntF B = 0) : ∀ q, lastF (List.replicate q false ++ true :: B) = q
  | 0 => by simp [lastF, last_none h]
  | q + 1 => by
    rw [List.replicate_succ, List.cons_append, lastF, last_split B h q, if_pos (by omega)]; simp
theorem only_split (q : Nat) (B : List Bool) : onlyF (List.replicate q false ++ true :: B) = if cntF B = 0 then (q : Int) else -1 := by
  unfold onlyF
  rw [fst_split]
  have e : ((q : Int) + 1).toNat = q + 1 := by omega
  have e2 : (List.replicate q false ++ true :: B).drop (q + 1) = B := by
    rw [List.drop_append, List.length_replicate]; simp
  rw [e, e2]
  by_cases h : cntF B = 0
  · rw [if_pos h, if_neg (by rw [cntF_zero.1 h]; decide)]
  · rw [if_neg h, if_pos]
    cases hb : (B.any fun x => true == x) with
    | true => rfl
    | false => exact absurd (cntF_zero.2 hb) h
theorem only_one {l : List Bool} (h : cntF l = 1) : onlyF l = lastF l := by
  obtain ⟨q, B, rfl⟩ := true_split (l := l) (by omega)
  rw [cnt_split] at h
  rw [only_split, if_pos (by omega), last_split B (by omega)]
theorem only_many {l : List Bool} (h : 1 < cntF l) : onlyF l = -1 := by
  obtain ⟨q, B, rfl⟩ := true_split (l := l) (by omega)
  rw [cnt_split] at h
  rw [only_split, if_neg (by omega)]
/-! what Sure answers -/
def sureF (c : List Kind) (l : List Rep) : List Int × Int := if (choF c l).2 ≠ 0 then ([], (choF c l).2) else ((choF c l).1.map onlyF, 0)
section
variable {c : List Kind} {l : List Rep}
theorem cho_zero (h : (choF c l).2 = 0) : validC c = true ∧ (∀ q ∈ l, chs q ≠ 0) ∧ histF c l ≠ [] ∧ (choF c l).1 = Tab l (hasF c l) := by
  unfold choF at h ⊢
  split at h
  · cases h
  · rename_i hc
    split at h
    · cases h
    · rename_i ha
      split at h
      · cases h
      · rename_i hh
        refine ⟨by simpa using hc, fun q hq h0 => ha (List.any_eq_true.2 ⟨q, hq, by simp [h0]⟩), hh, ?_⟩
        rw [if_neg hc, if_neg ha, if_neg hh]
theorem sure_no (h : ¬ (choF c l).2 = 0) : sureF c l = ([], (choF c l).2) := by unfold sureF; rw [if_pos h]
theorem sure_yes (h : (choF c l).2 = 0) : sureF c l = ((choF c l).1.map onlyF, 0) := by unfold sureF; rw [if_neg (fun h' => h' h)]
theorem cho_len (h : (choF c l).2 = 0) : (choF c l).1.length = l.length := by rw [(cho_zero h).2.2.2, tab_len]
end
end Go.Sx

/- What is possible: the example of the chapter, sizes, a report that is decided. -/
set_option linter.all false
namespace Go.Sx
open Go
abbrev pMotor : ByteArray := ⟨#[109, 111, 116, 111, 114]⟩
abbrev pM : ByteArray := ⟨#[109]⟩
abbrev pCoach : ByteArray := ⟨#[99, 111, 97, 99, 104]⟩
abbrev pM1 : ByteArray := ⟨#[109, 49]⟩
abbrev pM2 : ByteArray := ⟨#[109, 50]⟩
abbrev pV1 : ByteArray := ⟨#[118, 49]⟩
def pxMade (p k : ByteArray) : Evt := ⟨1, 1, p, k, nil8, nil8, nil8, nil8, zUse⟩
def pxFit (p : ByteArray) : Evt := ⟨2, 3, p, nil8, pV1, pM, nil8, nil8, zUse⟩
def pxScrap (p : ByteArray) : Evt := ⟨7, 2, p, nil8, nil8, nil8, nil8, nil8, zUse⟩
def pxC : List Kind := [⟨pMotor, false, []⟩, ⟨pCoach, true, [⟨pM, [pMotor], 1⟩]⟩]
def pxL : List Rep := [⟨[pxMade pM1 pMotor], false⟩, ⟨[pxMade pV1 pCoach], false⟩, ⟨[pxFit pM1, pxFit pM2], false⟩, ⟨[pxScrap pM1], true⟩]
theorem px_smC : SmC pxC := by
  intro k hk
  simp only [pxC, List.mem_cons, List.not_mem_nil, or_false] at hk
  rcases hk with rfl | rfl
  · exact ⟨by decide, fun s hs => (by cases hs)⟩
  · refine ⟨by decide, fun s hs => ?_⟩
    obtain rfl := List.mem_singleton.1 hs
    refine ⟨by decide, fun k hk => ?_⟩
    obtain rfl := List.mem_singleton.1 hk
    decide
theorem px_sm : ∀ r ∈ pxL, ∀ e ∈ r.options, SmE e := by
  intro r hr e he
  simp only [pxL, List.mem_cons, List.not_mem_nil, or_false] at hr
  rcases hr with rfl | rfl | rfl | rfl <;> simp only [List.mem_cons, List.not_mem_nil, or_false] at he
  · subst he; exact ⟨by decide, by decide, by decide, by decide, by decide, by decide⟩
  · subst he; exact ⟨by decide, by decide, by decide, by decide, by decide, by decide⟩
  · rcases he with rfl | rfl <;> exact ⟨by decide, by decide, by decide, by decide, by decide, by decide⟩
  · subst he; exact ⟨by decide, by decide, by decide, by decide, by decide, by decide⟩
theorem px_cho : choF pxC pxL = ([[true], [true], [true, false], [false, true]], 0) := by decide +kernel
theorem px_sure : sureF pxC pxL = ([0, 0, 0, 1], 0) := by decide +kernel
theorem px_sure2 : sureF pxC (pxL.drop 2) = ([], 21) := by decide +kernel
/-- few reports, few combinations -/
def few17 (l : List Rep) (n : Int) : Bool := fewR l n && decide (((waysGo 729 1 l : Nat) : Int) ≤ 729)
theorem few17_sm {l : List Rep} {n : Int} (h : few17 l n = true) : fewR l n = true ∧ waysN l ≤ 729 := by
  simp only [few17, Bool.and_eq_true, decide_eq_true_eq] at h
  refine ⟨h.1, ?_⟩
  have := ways_le l 1 h.2
  rw [Nat.one_mul] at this
  omega
section
variable {c : List Kind} {l : List Rep} {i k : Nat}
end
theorem set_take {m : List Int} {j : Nat} (h : j < m.length) (x : Int) : (m.set j x).take (j + 1) = m.take j ++ [x] := by
  have h2 : j < (m.set j x).length := by simpa using h
  rw [← take_succ_of h2]
  simp [List.take_set_of_le]
theorem sure_step {m : List Int} {T : List (List Bool)} {j : Nat} (h : j < m.length) (hT : j < T.length) (hm : m.take j = (T.take j).map onlyF) {x : Int} (hx : onlyF T[j] = x) : (m.set j x).take (j + 1) = (T.take (j + 1)).map onlyF := by
  rw [set_take h, hm, ← take_succ_of hT, List.map_append, ← hx]; rfl
end Go.Sx

/- A region that draws its order, with many loud operations: what each leaves behind does not depend on the order. -/
set_option linter.all false
namespace Go.Sx
open Go
/-- a loud operation: its index, its slot, what it needs (index, slot), what is known of its value -/
structure Bit where
  i : Nat
  d : Nat
  deps : List (Nat × Nat)
  p : IMap → Value → Prop
def Bit.pre (b : Bit) (V : Nat → Value) : LL := b.deps.map fun q => (q.2, V q.1)
def AllB (q : Bit → Prop) : List Bit → Prop
  | [] => True
  | b :: r => q b ∧ AllB q r
theorem AllB.get {q : Bit → Prop} : ∀ {l : List Bit}, AllB q l → ∀ b ∈ l, q b
  | [], _, b, hb => by cases hb
  | x :: l, h, b, hb => by
    rcases List.mem_cons.1 hb with rfl | hb
    · exact h.1
    · exact h.2.get b hb
theorem AllB.mk {q : Bit → Prop} : ∀ {l : List Bit}, (∀ b ∈ l, q b) → AllB q l
  | [], _ => trivial
  | x :: l, h => ⟨h x (by simp), AllB.mk fun b hb => h b (by simp [hb])⟩
/-- what is to be checked of the operations -/
def bagOk (ops : Array Oper) (listed : Array Bool) (bs : List (Nat × Nat × List (Nat × Nat))) (wi : Option Nat) (sz fuel : Nat) : Bool :=
  listed.size == ops.size && (List.range ops.size).all (fun i => listed.getD i false || (bs.any fun b => b.1 == i) || wi == some i) &&
  (bs.all fun b => !listed.getD b.1 true && Nat.blt b.2.1 sz && b.2.2.all fun q => (bs.any fun b' => b'.1 == q.1 && b'.2.1 == q.2) && ((ops[b.1]?).map fun o => o.after.any fun e => Region.binds .any e && e.on == q.1).getD false) &&
  (bs.map (·.1)).Nodup && (bs.map (·.2.1)).Nodup && (match wi with | some i => Nat.blt i ops.size && bs.all fun b => !(b.1 == i) | none => true) &&
  (List.range ops.size).all (fun i => ((ops[i]?).map fun o => o.after.all fun e => !Region.binds .any e || Nat.blt e.on i).getD false) &&
  Nat.ble ((List.range ops.size).filter fun i => !listed.getD i false).length fuel
section
variable {P : Program} {n : Sz} {E : Ent} {I I0 : IMap} {L0 : LL} {H0 H1 F : List Res} {Q : Exit → Act → World → Prop} {ops : Array Oper} {fuel : Nat} {listed : Array Bool}
theorem St.append {a : Act} {A X : LL} (h1 : St n a A) (h2 : St n a X) : St n a (A ++ X) := ⟨h1.size, h1.defers, fun i v h => by
  have key : ∀ A : LL, look (A ++ X) i = (look A i).or (look X i) := fun A => by
    induction A with
    | nil => rfl
    | cons p A ih =>
      simp only [List.cons_append, look]
      cases hb : Nat.beq i p.1 with
      | true => rfl
      | false => exact ih
  rw [key] at h
  cases hq : look A i with
  | none => rw [hq] at h; exact h2.get i v (by simpa using h)
  | some u => rw [hq] at h; exact h1.get i v (by rw [hq]; simpa using h)⟩
theorem St.of_all {a : Act} {X : LL} (hs : a.tmps.size = n.sz) (hd : a.defers = n.marks) (h : ∀ q ∈ X, a.tmps[q.1]? = some q.2) : St n a X := ⟨hs, hd, fun i v hv => by
  induction X with
  | nil => simp [look] at hv
  | cons p X ih =>
    simp only [look] at hv
    cases hb : Nat.beq i p.1 with
    | true =>
      rw [hb] at hv
      have e1 : i = p.1 := Nat.eq_of_beq_eq_true hb
      have e2 : p.2 = v := by simpa using hv
      rw [e1, ← e2]; exact h p (by simp)
    | false => rw [hb] at hv; exact ih (fun q hq => h q (by simp [hq])) (by simpa using hv)⟩
def wH (listed : Array Bool) (wi : Option Nat) (H0 H1 : List Res) : List Res := match wi with | some i => if listed.getD i false = true then H1 else H0 | none => H0
/-- what holds on the way -/
structure BInv (P : Program) (n : Sz) (E : Ent) (I : IMap) (L0 : LL) (H0 H1 : List Res) (Bs : List Bit) (wi : Option Nat) (listed : Array Bool) (a : Act) (w : World) (I1 : IMap) (V : Nat → Value) : Prop where
  le : ILe I I1
  mem : Mem E I1 (wH listed wi H0 H1) w
  st : St n a L0
  bits : ∀ b ∈ Bs, listed.getD b.i false = true → a.tmps[b.d]? = some (V b.i) ∧ b.p I1 (V b.i)
theorem getD_or {l : Array Bool} {i : Nat} (h : l.getD i true = false) : l.getD i false = false ∧ i < l.size := by
  simp only [Array.getD_eq_getD_getElem?] at h ⊢
  cases hh : l[i]? with
  | none => rw [hh] at h; cases h
  | some b => rw [hh] at h; exact ⟨by simpa using h, (Array.getElem?_eq_some_iff.1 hh).1⟩
theorem getD_set {l : Array Bool} {i j : Nat} (h : i < l.size) : (l.setIfInBounds i true).getD j false = if i = j then true else l.getD j false := by
  simp only [Array.getD_eq_getD_getElem?, Array.getElem?_setIfInBounds]
  by_cases e : i = j
  · subst e; simp [h]
  · simp [e]
theorem cnt_set {l : Array Bool} {i m : Nat} (hi : i < m) (h : i < l.size) (h0 : l.getD i false = false) : ((List.range m).filter fun j => !(l.setIfInBounds i true).getD j false).length + 1 = ((List.range m).filter fun j => !l.getD j false).length := by
  induction m with
  | zero => omega
  | succ m ih =>
    rw [List.range_succ, List.filter_append, List.filter_append, List.length_append, List.length_append]
    by_cases e : i = m
    · subst e
      have : ((List.range i).filter fun j => !(l.setIfInBounds i true).getD j false) = (List.range i).filter fun j => !l.getD j false := by
        refine List.filter_congr fun j hj => ?_
        have := List.mem_range.1 hj
        rw [getD_set h, if_neg (by omega)]
      rw [this]
      have e1 : (l.setIfInBounds i true).getD i false = true := by rw [getD_set h, if_pos rfl]
      rw [List.filter_cons, List.filter_cons, e1, h0]
      simp
    · have := ih (by omega)
      have e1 : (l.setIfInBounds i true).getD m false = l.getD m false := by rw [getD_set h, if_neg e]
      have e2 : [m].filter (fun j => !(l.setIfInBounds i true).getD j false) = [m].filter fun j => !l.getD j false := List.filter_congr fun j hj => by rw [List.mem_singleton.1 hj, e1]
      rw [e2]; omega
theorem look_or (A X : LL) (i : Nat) : look (A ++ X) i = (look A i).or (look X i) := by
  induction A with
  | nil => rfl
  | cons p A ih =>
    simp only [List.cons_append, look]
    cases hb : Nat.beq i p.1 with
    | true => rfl
    | false => exact ih
theorem look_mem : ∀ {A : LL} {j : Nat} {u : Value}, look A j = some u → ∃ q ∈ A, q.1 = j ∧ q.2 = u
  | [], _, _, h => by cases h
  | p :: A, j, u, h => by
    simp only [look] at h
    cases hb : Nat.beq j p.1 with
    | true => rw [hb] at h; exact ⟨p, by simp, (Nat.eq_of_beq_eq_true hb).symm, by simpa using h⟩
    | false =>
      rw [hb] at h
      obtain ⟨q, hq, h2⟩ := look_mem (A := A) (by simpa using h)
      exact ⟨q, by simp [hq], h2⟩
theorem look_has : ∀ {A : LL} {q : Nat × Value}, q ∈ A → ∃ u, look A q.1 = some u
  | p :: A, q, h => by
    simp only [look]
    cases hb : Nat.beq q.1 p.1 with
    | true => exact ⟨p.2, rfl⟩
    | false =>
      rcases List.mem_cons.1 h with rfl | h
      · rw [Nat.beq_refl] at hb; cases hb
      · exact look_has h
theorem inj_of_nodup {α β : Type} {f : α → β} : ∀ {l : List α}, (l.map f).Nodup → ∀ a ∈ l, ∀ b ∈ l, f a = f b → a = b
  | [], _, a, ha, _, _, _ => by cases ha
  | x :: l, h, a, ha, b, hb, e => by
    have h' := List.nodup_cons.1 h
    rcases List.mem_cons.1 ha with h1 | h1
    · rcases List.mem_cons.1 hb with h2 | h2
      · rw [h1, h2]
      · exact absurd (by rw [← h1, e]; exact List.mem_map_of_mem h2) h'.1
    · rcases List.mem_cons.1 hb with h2 | h2
      · exact absurd (by rw [← h2, ← e]; exact List.mem_map_of_mem h1) h'.1
      · exact inj_of_nodup h'.2 a h1 b h2 e
def wHe (wi : Option Nat) (H0 H1 : List Res) : List Res := match wi with | some _ => H1 | none => H0
theorem d_bag (Bs : List Bit) (wi : Option Nat) (hok : bagOk ops listed (Bs.map fun b => (b.i, b.d, b.deps)) wi n.sz fuel = true)
    (hmono : AllB (fun b => ∀ I1 I2 v, ILe I1 I2 → b.p I1 v → b.p I2 v) Bs) (hfr : AllB (fun b => look L0 b.d = none) Bs)
    (hw0 : ∀ i, wi = some i → listed.getD i false = false)
    (hC : ∀ I1 w, ILe I I1 → Mem E I1 H0 w → Keeps E I0 F w) (hC1 : ∀ i, wi = some i → ∀ I1 w, ILe I I1 → Mem E I1 H1 w → Keeps E I0 F w)
    (hstep : AllB (fun b => ∀ I1 (V : Nat → Value) X H o, ILe I I1 → ops[b.i]? = some o → AllB (fun b' => (b.deps.any fun q => q.1 == b'.i) = true → b'.p I1 (V b'.i)) Bs → ∀ K, (∀ v I2, ILe I1 I2 → b.p I2 v → SX n E I2 ((b.d, v) :: (b.pre V ++ (L0 ++ X))) H K) → SX n E I1 (b.pre V ++ (L0 ++ X)) H (one P ops (NQ Q) o K)) Bs)
    (hw : ∀ i, wi = some i → ∀ I1 X o, ILe I I1 → ops[i]? = some o → ∀ K, SX n E I1 (L0 ++ X) H1 K → SX n E I1 (L0 ++ X) H0 (one P ops (NQ Q) o K))
    (hend : ∀ I1 (V : Nat → Value), ILe I I1 → AllB (fun b => b.p I1 (V b.i)) Bs → SX n E I1 ((Bs.map fun b => (b.d, V b.i)) ++ L0) (wHe wi H0 H1) (Q .normal)) :
    SX n E I L0 H0 (wpAnyC P ops (NQ Q) (Keeps E I0 F) fuel listed) := by
  simp only [bagOk, Bool.and_eq_true, List.all_eq_true, List.mem_range, Bool.or_eq_true, List.any_eq_true, beq_iff_eq, decide_eq_true_eq, Bool.not_eq_true', List.mem_map] at hok
  obtain ⟨⟨⟨⟨⟨⟨⟨hsz, hcov⟩, hbit⟩, hni⟩, hnd⟩, hwb⟩, hdag⟩, hfu⟩ := hok
  have hfu := Nat.le_of_ble_eq_true hfu
  have hui : ∀ b ∈ Bs, ∀ b' ∈ Bs, b.i = b'.i → b = b' := inj_of_nodup (f := fun b : Bit => b.i) (by simpa [List.map_map, Function.comp_def] using hni)
  have hud : ∀ b ∈ Bs, ∀ b' ∈ Bs, b.d = b'.d → b = b' := inj_of_nodup (f := fun b : Bit => b.d) (by simpa [List.map_map, Function.comp_def] using hnd)
  have hb0 : ∀ b ∈ Bs, listed.getD b.i false = false := fun b hb => (getD_or (hbit (b.i, b.d, b.deps) ⟨b, hb, rfl⟩).1.1).1
  have hwlt : ∀ i, wi = some i → i < ops.size ∧ ∀ b ∈ Bs, b.i ≠ i := fun i hi => by
    subst hi
    simp only [Bool.and_eq_true, List.all_eq_true, List.mem_map, Bool.not_eq_true'] at hwb
    refine ⟨by have := hwb.1; simpa [Nat.blt_eq] using this, fun b hb e => ?_⟩
    have := hwb.2 (b.i, b.d, b.deps) ⟨b, hb, rfl⟩
    simp [e] at this
  have hfin : ∀ (ls : Array Bool) (a : Act) (w : World) (I1 : IMap) (V : Nat → Value), (∀ i < ops.size, ls.getD i false = true) → BInv P n E I L0 H0 H1 Bs wi ls a w I1 V → Q .normal a w := by
    intro ls a w I1 V hall hb
    have hbi : ∀ b ∈ Bs, b.i < ops.size := fun b hb => by
      have := (getD_or (hbit (b.i, b.d, b.deps) ⟨b, hb, rfl⟩).1.1).2
      simpa [hsz] using this
    refine hend I1 V hb.le (AllB.mk fun b h => (hb.bits b h (hall _ (hbi b h))).2) a w (St.append (St.of_all hb.st.size hb.st.defers fun q hq => ?_) hb.st) ?_
    · obtain ⟨b, h, rfl⟩ := List.mem_map.1 hq
      exact (hb.bits b h (hall _ (hbi b h))).1
    · have hm := hb.mem
      unfold wH at hm
      cases hwi : wi with
      | none => rw [hwi] at hm; exact hm
      | some i => rw [hwi] at hm; simp only [hall i (hwlt i hwi).1, if_true] at hm; exact hm
  have key : ∀ (fuel : Nat) (ls : Array Bool) (a : Act) (w : World) (I1 : IMap) (V : Nat → Value), ls.size = ops.size → (∀ i, listed.getD i false = true → ls.getD i false = true) → ((List.range ops.size).filter fun i => !ls.getD i false).length ≤ fuel →
      BInv P n E I L0 H0 H1 Bs wi ls a w I1 V → wpAnyC P ops (NQ Q) (Keeps E I0 F) fuel ls a w := by
    intro fuel
    induction fuel with
    | zero =>
      intro ls a w I1 V hs hle hf hb
      have hall : ∀ i < ops.size, ls.getD i false = true := fun i hi => by
        cases h : ls.getD i false with
        | true => rfl
        | false =>
          have : i ∈ (List.range ops.size).filter fun i => !ls.getD i false := List.mem_filter.2 ⟨List.mem_range.2 hi, by simp [h]⟩
          rw [List.eq_nil_of_length_eq_zero (Nat.le_zero.1 hf)] at this; cases this
      refine ⟨List.eq_nil_iff_forall_not_mem.2 fun i hi => ?_, hfin ls a w I1 V hall hb⟩
      obtain ⟨h1, h2⟩ := getD_or (mem_ready.1 hi).1
      rw [hall i (by omega)] at h1; cases h1
    | succ fuel ih =>
      intro ls a w I1 V hs hle hf hb
      refine ⟨fun hr => hfin ls a w I1 V (fun i hi => ?_) hb, fun i hi => ?_⟩
      · induction i using Nat.strongRecOn with
        | ind i ihi =>
          cases h : ls.getD i false with
          | true => rfl
          | false =>
            exfalso
            have : i ∈ Region.ready .any ops ls := by
              refine mem_ready.2 ⟨?_, ops[i], Array.getElem?_eq_getElem hi, fun e he hbd => ?_⟩
              · have hil : i < ls.size := by omega
                simp only [Array.getD_eq_getD_getElem?, Array.getElem?_eq_getElem hil, Option.getD_some] at h ⊢; exact h
              · have := hdag i hi
                rw [Array.getElem?_eq_getElem hi] at this
                simp only [Option.map_some, Option.getD_some, Array.all_eq_true_iff_forall_mem, Bool.or_eq_true, Bool.not_eq_true'] at this
                rcases this e he with h1 | h1
                · rw [hbd] at h1; cases h1
                · have h2 : e.on < i := by simpa [Nat.blt_eq] using h1
                  exact ihi e.on h2 (by omega)
            rw [hr] at this; cases this
      · obtain ⟨h1, o, ho, haf⟩ := mem_ready.1 hi
        obtain ⟨h2, h3⟩ := getD_or h1
        have hio : i < ops.size := by omega
        have hcnt := cnt_set (m := ops.size) hio h3 h2
        have hX : ∀ q ∈ (Bs.filter fun b => ls.getD b.i false).map (fun b => (b.d, V b.i)), a.tmps[q.1]? = some q.2 := fun q hq => by
          obtain ⟨b, h, rfl⟩ := List.mem_map.1 hq
          obtain ⟨h4, h5⟩ := List.mem_filter.1 h
          exact (hb.bits b h4 h5).1
        have hxl : ∀ b ∈ Bs, ls.getD b.i false = true → ∀ (Y : LL), (∀ u, look Y b.d = some u → u = V b.i) → look (Y ++ (L0 ++ (Bs.filter fun b => ls.getD b.i false).map (fun b => (b.d, V b.i)))) b.d = some (V b.i) := fun b hbm hbd Y hY => by
          rw [look_or]
          cases hq : look Y b.d with
          | some u => rw [hY u hq]; rfl
          | none =>
            rw [look_or, hfr.get b hbm]
            obtain ⟨u, hu⟩ := look_has (A := (Bs.filter fun b => ls.getD b.i false).map (fun b => (b.d, V b.i))) (q := (b.d, V b.i)) (List.mem_map.2 ⟨b, List.mem_filter.2 ⟨hbm, hbd⟩, rfl⟩)
            simp only at hu
            obtain ⟨q, hq1, hq2, hq3⟩ := look_mem hu
            obtain ⟨b2, h6, rfl⟩ := List.mem_map.1 hq1
            have := hud b2 (List.mem_filter.1 h6).1 b hbm hq2
            subst this
            rw [hu, ← hq3]; rfl
        unfold wpO
        simp only [ho]
        rcases hcov i hio with (h4 | ⟨b', ⟨b, hbm, rfl⟩, hbi⟩) | h4
        · rw [hle i h4] at h2; cases h2
        · simp only at hbi
          subst hbi
          have hdp : ∀ q ∈ b.deps, ∃ b' ∈ Bs, b'.i = q.1 ∧ b'.d = q.2 ∧ ls.getD b'.i false = true := fun q hq => by
            obtain ⟨⟨_, ⟨b', hb', rfl⟩, e1, e2⟩, h5⟩ := (hbit (b.i, b.d, b.deps) ⟨b, hbm, rfl⟩).2 q hq
            refine ⟨b', hb', e1, e2, ?_⟩
            simp only [ho, Option.map_some, Option.getD_some] at h5
            obtain ⟨k, hk, h8⟩ := Array.any_eq_true.1 h5
            simp only [Bool.and_eq_true, beq_iff_eq] at h8
            obtain ⟨h6, h7⟩ := h8
            have := haf _ (Array.getElem_mem hk) h6
            rw [h7, ← e1] at this; exact this
          have hpre : ∀ q ∈ b.pre V, a.tmps[q.1]? = some q.2 := fun q hq => by
            obtain ⟨q0, hq0, rfl⟩ := List.mem_map.1 hq
            obtain ⟨b', hb', e1, e2, h5⟩ := hdp q0 hq0
            have := (hb.bits b' hb' h5).1
            rw [e1, e2] at this; exact this
          refine hstep.get b hbm I1 V ((Bs.filter fun b => ls.getD b.i false).map (fun b => (b.d, V b.i))) (wH ls wi H0 H1) o hb.le ho (AllB.mk fun b' hb' hx => ?_) _ (fun v I2 hI2 hp a' w' s' m' => ⟨?_, ih (ls.setIfInBounds b.i true) a' w' I2 (fun j => if j = b.i then v else V j) (by simp [hs]) (fun j hj => ?_) (by omega) ⟨hb.le.trans hI2, ?_, ?_, fun b' hb' hx => ?_⟩⟩) a w (St.append (St.of_all hb.st.size hb.st.defers hpre) (St.append hb.st (St.of_all hb.st.size hb.st.defers hX))) hb.mem
          · obtain ⟨q, hq, e⟩ := List.any_eq_true.1 hx
            obtain ⟨b2, hb2, e1, _, h5⟩ := hdp q hq
            have : b2 = b' := hui b2 hb2 b' hb' (by rw [e1]; simpa using e)
            subst this
            exact (hb.bits b2 hb2 h5).2
          · unfold wH at m'
            cases hwi : wi with
            | none => rw [hwi] at m'; exact hC I2 w' (hb.le.trans hI2) m'
            | some k =>
              rw [hwi] at m'
              simp only at m'
              split at m'
              · exact hC1 k hwi I2 w' (hb.le.trans hI2) m'
              · exact hC I2 w' (hb.le.trans hI2) m'
          · rw [getD_set h3]; split
            · rfl
            · exact hle j hj
          · have e : wH (ls.setIfInBounds b.i true) wi H0 H1 = wH ls wi H0 H1 := by
              unfold wH
              cases hwi : wi with
              | none => rfl
              | some k => simp only; rw [getD_set h3, if_neg ((hwlt k hwi).2 b hbm)]
            rw [e]; exact m'
          · refine ⟨s'.size, s'.defers, fun j u hj => s'.get j u ?_⟩
            have hjd : ∀ b' ∈ Bs, j ≠ b'.d := fun b' hb' e => by rw [e, hfr.get b' hb'] at hj; cases hj
            simp only [look]
            have h6 : Nat.beq j b.d = false := by
              cases h : Nat.beq j b.d with
              | false => rfl
              | true => exact absurd (Nat.eq_of_beq_eq_true h) (hjd b hbm)
            rw [h6]
            simp only [cond_false]
            rw [look_or, look_or, hj]
            cases hq : look (b.pre V) j with
            | none => rfl
            | some u2 =>
              obtain ⟨q, hq1, hq2, _⟩ := look_mem hq
              obtain ⟨q, hq3, rfl⟩ := List.mem_map.1 hq1
              obtain ⟨b', hb', _, e2, _⟩ := hdp q hq3
              exact absurd (hq2.symm.trans e2.symm) (hjd b' hb')
          · by_cases e : b'.i = b.i
            · have := hui b' hb' b hbm e
              subst this
              refine ⟨?_, by simp only [if_true]; exact hp⟩
              simp only [if_true]
              exact s'.get b'.d v (by simp [look, Nat.beq_refl])
            · rw [getD_set h3, if_neg (fun h => e h.symm)] at hx
              simp only [if_neg e]
              refine ⟨s'.get b'.d _ ?_, hmono.get b' hb' I1 I2 _ hI2 (hb.bits b' hb' hx).2⟩
              simp only [look]
              have h6 : Nat.beq b'.d b.d = false := by
                cases h : Nat.beq b'.d b.d with
                | false => rfl
                | true => exact absurd (congrArg Bit.i (hud b' hb' b hbm (Nat.eq_of_beq_eq_true h))) e
              rw [h6]
              simp only [cond_false]
              refine hxl b' hb' hx _ fun u hu => ?_
              obtain ⟨q, hq1, hq2, hq3⟩ := look_mem hu
              obtain ⟨q, hq4, rfl⟩ := List.mem_map.1 hq1
              obtain ⟨b2, hb2, e1, e2, _⟩ := hdp q hq4
              have : b2 = b' := hud b2 hb2 b' hb' (e2.trans hq2)
              subst this
              rw [← hq3, e1]
        · have hwi : wi = some i := by simpa using h4
          have hne : ∀ b ∈ Bs, i ≠ b.i := fun b hbm e => (hwlt i hwi).2 b hbm e.symm
          have hm0 : Mem E I1 H0 w := by
            have hm := hb.mem
            unfold wH at hm
            rw [hwi] at hm
            simp only [h2, Bool.false_eq_true, if_false] at hm; exact hm
          refine hw i hwi I1 ((Bs.filter fun b => ls.getD b.i false).map (fun b => (b.d, V b.i))) o hb.le ho _ (fun a' w' s' m' => ⟨hC1 i hwi I1 w' hb.le m', ih (ls.setIfInBounds i true) a' w' I1 V (by simp [hs]) (fun j hj => ?_) (by omega) ⟨hb.le, ?_, ?_, fun b' hb' hx => ?_⟩⟩) a w (St.append hb.st (St.of_all hb.st.size hb.st.defers hX)) hm0
          · rw [getD_set h3]; split
            · rfl
            · exact hle j hj
          · unfold wH
            rw [hwi]
            simp only [getD_set h3, if_true]; exact m'
          · exact ⟨s'.size, s'.defers, fun j u hj => s'.get j u (by rw [look_or, hj]; rfl)⟩
          · rw [getD_set h3, if_neg (hne b' hb')] at hx
            refine ⟨s'.get b'.d _ ?_, (hb.bits b' hb' hx).2⟩
            have := hxl b' hb' hx [] (fun u hu => by cases hu)
            exact this
  exact fun a w s m => key fuel listed a w I (fun _ => undef) hsz (fun _ h => h) hfu ⟨ILe.refl _, by
    unfold wH
    split
    · rename_i i; rw [if_neg (by rw [hw0 i rfl]; decide)]; exact m
    · exact m, s, fun b hb h => by rw [hb0 b hb] at h; cases h⟩
end
end Go.Sx

/- Walks, printed by a program out of the code of the functions: each theorem is a contract of one function. -/
namespace Go.Proofs.YtoadjlmbdliceaaGreat
open Go Go.Sx
set_option linter.all false
set_option maxRecDepth 20000
set_option maxHeartbeats 4000000
theorem ref17Few (I : IMap) (v : Value) (l : List Rep) (hv : RdS I v l) (n : Int) (hn : n ≤ 1000000) :
    FnV Tryz.prog 59 #[v, .int .i64 n] I (.bool (few17 l n)) := by
 refine enter Tryz.func59 Tryz.call59 rfl Tryz.ntmps59 rfl (fun w0 => ?_)
 refine go 10 ?_
 refine o_callV (ref13Few _ v l hv n) rfl rfl ?_
 refine go 1 ?_
 refine sxb 8 rfl (fun h8 p8 => ?_) (fun h8 p8 => ?_)
 ·refine go 2 ?_
  refine o_yes rfl rfl h8 (o_callV (ref13Ways _ v l hv (by have := (fewR_sm h8).2; omega) (fewR_sm h8).1 729 (by omega)) rfl rfl ?_)
  refine go 6 ?_
  refine fin1 rfl rfl ?_
  exact q_v (congrArg Value.bool (by simp only [few17, h8, bS]))
 ·refine go 8 ?_
  refine fin1 rfl rfl ?_
  exact q_v (congrArg Value.bool (by simp only [few17, h8, bS]))

theorem law17few (I : IMap) (vc : Value) (c : List Kind) (hvc : RdS I vc c) (v : Value) (l : List Rep) (hv : RdS I v l)  :
    FnV Tryz.prog 36 #[.agg #[vc], v] I (.bool (fewC c && few17 l 25)) := by
 refine enter Tryz.func36 Tryz.call36 rfl Tryz.ntmps36 rfl (fun w0 => ?_)
 refine go 3 ?_
 refine o_box _ rfl rfl rfl (fun g2 => ?_)
 refine go 7 ?_
 refine o_callV (refFew _ vc c hvc) rfl rfl ?_
 refine go 1 ?_
 refine sxb 7 rfl (fun h7 p7 => ?_) (fun h7 p7 => ?_)
 ·refine go 2 ?_
  refine o_yes rfl rfl h7 (o_callV (ref17Few _ v l hv 25 (by omega)) rfl rfl ?_)
  refine go 5 ?_
  refine fin1 rfl rfl ?_
  exact q_v (congrArg Value.bool (by simp only [h7, bS]))
 ·refine go 7 ?_
  refine fin1 rfl rfl ?_
  exact q_v (congrArg Value.bool (by simp only [h7, bS]))

theorem ref14Ints (I : IMap) (v : Value) (l : List Int) (hv : RdS I v l) (w : Value) (m : List Int) (hw : RdS I w m) :
    FnV Tryz.prog 42 #[v, w] I (.bool (decide (l = m))) := by
 obtain ⟨A, c0, rfl, hA, hc, hm⟩ := hv
 obtain ⟨B, c1, rfl, hB, hc1, hm1⟩ := hw
 refine enter Tryz.func42 Tryz.call42 rfl Tryz.ntmps42 rfl (fun w0 => ?_)
 refine go 15 ?_
 refine cb rfl (fun h10 p10 => ?_) (fun h10 p10 => ?_)
 ·refine go 7 ?_
  refine fin1 rfl rfl ?_
  exact q_v (congrArg Value.bool (decide_eq_false (by rintro rfl; revert h10; simp)).symm)
 ·have hlm : l.length = m.length := by revert h10; simp; omega
  refine go 9 ?_
  refine c_loop (α := Nat) 0 (fun i => I)
   (fun i => [(0, .slice A l.length c0), (1, .slice B m.length c1), (5, .int .i64 ((i : Nat) : Int))])
   (fun i => [])
   (fun i => i ≤ l.length ∧ l.take i = m.take i)
   (fun i => l.length - i) ⟨Nat.zero_le _, rfl⟩ rfl sb rfl ?_
  intro i ⟨hi, hn⟩
  refine go 9 ?_
  refine cb rfl (fun h14 p14 => ?_) (fun h14 p14 => ?_)
  ·have hlt : i < l.length := by omega
   have hlt2 : i < m.length := by omega
   refine go 5 ?_
   refine d_startH T.mixed ?_
   refine d_tv 0 rfl rfl (by kernel_rfl) rfl .slnil rfl (v_move rfl) ?_
   refine d_tv 1 rfl rfl (by kernel_rfl) rfl .slnil rfl (v_move rfl) ?_
   obtain ⟨b19, o19, w19, e19, c19, r19⟩ := RdA.at_ hA (i := i) (by omega)
   obtain rfl := r19
   refine d_tv 2 rfl rfl (by kernel_rfl) rfl .slnil rfl (v_idx he rfl rfl e19 (i) (by omega) (by omega)) ?_
   refine d_tv 3 rfl rfl (by kernel_rfl) rfl .slnil rfl (v_ldI he rfl (c19 0 _ rfl)) ?_
   refine d_tv 4 rfl rfl (by kernel_rfl) rfl .slnil rfl (v_move rfl) ?_
   refine d_tv 5 rfl rfl (by kernel_rfl) rfl .slnil rfl (v_move rfl) ?_
   obtain ⟨b23, o23, w23, e23, c23, r23⟩ := RdA.at_ hB (i := i) (by omega)
   obtain rfl := r23
   refine d_tv 6 rfl rfl (by kernel_rfl) rfl .slnil rfl (v_idx he rfl rfl e23 (i) (by omega) (by omega)) ?_
   refine d_tv 7 rfl rfl (by kernel_rfl) rfl .slnil rfl (v_ldI he rfl (c23 0 _ rfl)) ?_
   refine d_tv 8 rfl rfl (by kernel_rfl) rfl .slnil rfl (v_neq rfl rfl) ?_
   refine d_done (by kernel_rfl) ?_
   refine go 1 ?_
   refine cb rfl (fun h25 p25 => ?_) (fun h25 p25 => ?_)
   ·refine go 11 ?_
    refine fin1 rfl rfl ?_
    exact q_v (congrArg Value.bool (same_no hlt hlt2 (by simpa using h25)).symm)
   ·refine go 9 ?_
    exact q_next (i + 1) ⟨by omega, same_next hlt hlt2 hn (by simpa using h25)⟩ (by omega) rfl sb rfl
  ·refine go 11 ?_
   refine fin1 rfl rfl ?_
   exact q_v (congrArg Value.bool (decide_eq_true (same_end hlm (by omega) hn)).symm)

theorem ref17Same (I : IMap) (v : Value) (l : List (List Bool)) (hv : RdS I v l) (w : Value) (m : List (List Bool)) (hw : RdS I w m) :
    FnV Tryz.prog 41 #[v, w] I (.bool (decide (l = m))) := by
 obtain ⟨A, c0, rfl, hA, hc, hm⟩ := hv
 obtain ⟨B, c1, rfl, hB, hc1, hm1⟩ := hw
 refine enter Tryz.func41 Tryz.call41 rfl Tryz.ntmps41 rfl (fun w0 => ?_)
 refine go 15 ?_
 refine cb rfl (fun h11 p11 => ?_) (fun h11 p11 => ?_)
 ·refine go 7 ?_
  refine fin1 rfl rfl ?_
  exact q_v (congrArg Value.bool (decide_eq_false (by rintro rfl; revert h11; simp)).symm)
 ·have hlm : l.length = m.length := by revert h11; simp; omega
  refine go 9 ?_
  refine c_loop (α := Nat) 0 (fun i => I)
   (fun i => [(0, .slice A l.length c0), (1, .slice B m.length c1), (5, .int .i64 ((i : Nat) : Int))])
   (fun i => [])
   (fun i => i ≤ l.length ∧ l.take i = m.take i)
   (fun i => l.length - i) ⟨Nat.zero_le _, rfl⟩ rfl sb rfl ?_
  intro i ⟨hi, hn⟩
  refine go 9 ?_
  refine cb rfl (fun h15 p15 => ?_) (fun h15 p15 => ?_)
  ·have hlt : i < l.length := by omega
   have hlt2 : i < m.length := by omega
   refine go 6 ?_
   refine d_startH T.mixed ?_
   refine d_tv 0 rfl rfl (by kernel_rfl) rfl .slnil rfl (v_move rfl) ?_
   refine d_tv 1 rfl rfl (by kernel_rfl) rfl .slnil rfl (v_move rfl) ?_
   obtain ⟨b20, o20, w20, e20, c20, r20⟩ := RdA.at_ hA (i := i) (by omega)
   obtain ⟨q20, rfl, S20, d20, rfl, hS20, hd20, hm20⟩ := r20
   refine d_tv 2 rfl rfl (by kernel_rfl) rfl .slnil rfl (v_idx he rfl rfl e20 (i) (by omega) (by omega)) ?_
   refine d_tv 3 rfl rfl (by kernel_rfl) rfl .slnil rfl (v_ldI he rfl (c20 0 _ rfl)) ?_
   refine d_tv 4 rfl rfl (by kernel_rfl) rfl .slnil rfl (v_len_slice he rfl) ?_
   refine d_tv 5 rfl rfl (by kernel_rfl) rfl .slnil rfl (v_move rfl) ?_
   refine d_tv 6 rfl rfl (by kernel_rfl) rfl .slnil rfl (v_move rfl) ?_
   obtain ⟨b25, o25, w25, e25, c25, r25⟩ := RdA.at_ hB (i := i) (by omega)
   obtain ⟨q25, rfl, S25, d25, rfl, hS25, hd25, hm25⟩ := r25
   refine d_tv 7 rfl rfl (by kernel_rfl) rfl .slnil rfl (v_idx he rfl rfl e25 (i) (by omega) (by omega)) ?_
   refine d_tv 8 rfl rfl (by kernel_rfl) rfl .slnil rfl (v_ldI he rfl (c25 0 _ rfl)) ?_
   refine d_tv 9 rfl rfl (by kernel_rfl) rfl .slnil rfl (v_len_slice he rfl) ?_
   refine d_tv 10 rfl rfl (by kernel_rfl) rfl .slnil rfl (v_neq rfl rfl) ?_
   refine d_done (by kernel_rfl) ?_
   refine go 1 ?_
   refine cb rfl (fun h28 p28 => ?_) (fun h28 p28 => ?_)
   ·refine go 12 ?_
    refine fin1 rfl rfl ?_
    exact q_v (congrArg Value.bool (same_no hlt hlt2 (decide_eq_false fun e => by rw [e] at h28; simp at h28)).symm)
   ·have hrl : l[i].length = m[i].length := by revert h28; simp; omega
    refine go 8 ?_
    refine c_loop (α := Nat) 0 (fun j => I)
     (fun j => [(0, .slice A l.length c0), (1, .slice B m.length c1), (5, .int .i64 ((i : Nat) : Int)), (6, .int .i64 ((j : Nat) : Int))])
     (fun j => [])
     (fun j => j ≤ l[i].length ∧ l[i].take j = m[i].take j)
     (fun j => l[i].length - j) ⟨Nat.zero_le _, rfl⟩ rfl sb rfl ?_
    intro j ⟨hj, hq⟩
    refine go 6 ?_
    obtain ⟨b32, o32, w32, e32, c32, r32⟩ := RdA.at_ hA (i := i) (by omega)
    obtain ⟨q32, rfl, S32, d32, rfl, hS32, hd32, hm32⟩ := r32
    refine o_v rfl (v_idx he rfl rfl e32 (i) (by omega) (by omega)) ?_
    refine o_v rfl (v_ldI he rfl (c32 0 _ rfl)) ?_
    refine go 4 ?_
    refine cb rfl (fun h35 p35 => ?_) (fun h35 p35 => ?_)
    ·have hlj : j < l[i].length := by omega
     have hlj2 : j < m[i].length := by omega
     refine go 5 ?_
     refine d_startH T.mixed ?_
     refine d_tv 0 rfl rfl (by kernel_rfl) rfl .slnil rfl (v_move rfl) ?_
     refine d_tv 1 rfl rfl (by kernel_rfl) rfl .slnil rfl (v_move rfl) ?_
     obtain ⟨b40, o40, w40, e40, c40, r40⟩ := RdA.at_ hA (i := i) (by omega)
     obtain ⟨q40, rfl, S40, d40, rfl, hS40, hd40, hm40⟩ := r40
     refine d_tv 2 rfl rfl (by kernel_rfl) rfl .slnil rfl (v_idx he rfl rfl e40 (i) (by omega) (by omega)) ?_
     refine d_tv 3 rfl rfl (by kernel_rfl) rfl .slnil rfl (v_ldI he rfl (c40 0 _ rfl)) ?_
     refine d_tv 4 rfl rfl (by kernel_rfl) rfl .slnil rfl (v_move rfl) ?_
     obtain ⟨b43, o43, w43, e43, c43, r43⟩ := RdA.at_ hS40 (i := j) (by omega)
     obtain rfl := r43
     refine d_tv 5 rfl rfl (by kernel_rfl) rfl .slnil rfl (v_idx he rfl rfl e43 (j) (by omega) (by omega)) ?_
     refine d_tv 6 rfl rfl (by kernel_rfl) rfl .slnil rfl (v_ldI he rfl (c43 0 _ rfl)) ?_
     refine d_tv 7 rfl rfl (by kernel_rfl) rfl .slnil rfl (v_move rfl) ?_
     refine d_tv 8 rfl rfl (by kernel_rfl) rfl .slnil rfl (v_move rfl) ?_
     obtain ⟨b47, o47, w47, e47, c47, r47⟩ := RdA.at_ hB (i := i) (by omega)
     obtain ⟨q47, rfl, S47, d47, rfl, hS47, hd47, hm47⟩ := r47
     refine d_tv 9 rfl rfl (by kernel_rfl) rfl .slnil rfl (v_idx he rfl rfl e47 (i) (by omega) (by omega)) ?_
     refine d_tv 10 rfl rfl (by kernel_rfl) rfl .slnil rfl (v_ldI he rfl (c47 0 _ rfl)) ?_
     refine d_tv 11 rfl rfl (by kernel_rfl) rfl .slnil rfl (v_move rfl) ?_
     obtain ⟨b50, o50, w50, e50, c50, r50⟩ := RdA.at_ hS47 (i := j) (by omega)
     obtain rfl := r50
     refine d_tv 12 rfl rfl (by kernel_rfl) rfl .slnil rfl (v_idx he rfl rfl e50 (j) (by omega) (by omega)) ?_
     refine d_tv 13 rfl rfl (by kernel_rfl) rfl .slnil rfl (v_ldI he rfl (c50 0 _ rfl)) ?_
     refine d_tv 14 rfl rfl (by kernel_rfl) rfl .slnil rfl (v_bneq he rfl rfl) ?_
     refine d_done (by kernel_rfl) ?_
     refine go 1 ?_
     refine cb rfl (fun h52 p52 => ?_) (fun h52 p52 => ?_)
     ·refine go 15 ?_
      refine fin1 rfl rfl ?_
      exact q_v (congrArg Value.bool (same_no hlt hlt2 (decide_eq_false fun e => by simp only [e] at h52; simp at h52)).symm)
     ·refine go 9 ?_
      exact q_next (j + 1) ⟨by omega, same_next hlj hlj2 hq (by simpa using h52)⟩ (by omega) rfl sb rfl
    ·refine go 12 ?_
     exact q_next (i + 1) ⟨by omega, same_next hlt hlt2 hn (same_end hrl (by omega) hq)⟩ (by omega) rfl sb rfl
  ·refine go 11 ?_
   refine fin1 rfl rfl ?_
   exact q_v (congrArg Value.bool (decide_eq_true (same_end hlm (by omega) hn)).symm)

theorem eqInts14 (I : IMap) (v : Value) (l : List (Int)) (hv : RdS I v l) (w : Value) (hw : RdS I w l) : FnV Tryz.prog 42 #[v, w] I (.bool true) := by
  have := ref14Ints I v l hv w l hw
  rwa [decide_eq_true rfl] at this

theorem eqSame17 (I : IMap) (v : Value) (l : List (List Bool)) (hv : RdS I v l) (w : Value) (hw : RdS I w l) : FnV Tryz.prog 41 #[v, w] I (.bool true) := by
  have := ref17Same I v l hv w l hw
  rwa [decide_eq_true rfl] at this

theorem fit17 (I : IMap) (p : ByteArray) :
    FnV Tryz.prog 96 #[.string p] I (.agg (pxFit p).cells.toArray) := by
 refine enter Tryz.func96 Tryz.call96 rfl Tryz.ntmps96 rfl (fun w0 => ?_)
 refine go 3 ?_
 refine o_alloc he rfl (fun g2 => ?_)
 refine go 6 ?_
 refine o_val rfl (v_build (pl := [(0, 1), (1, 1), (2, 1), (3, 1), (4, 1), (5, 1), (6, 1), (7, 1), (8, 6)]) he he rfl rfl) ?_
 refine go 1 ?_
 refine o_stw _ he rfl rfl rfl rfl rfl rfl ?_
 refine go 3 ?_
 refine fin1 rfl ⟨_, _, _, rfl, m0, .inr ⟨_, he, rfl, rfl⟩⟩ ?_
 exact q_v rfl

theorem sample17 (I : IMap) :
    FnI Tryz.prog 58 #[] I (fun u J => ∃ vc v, u = .tuple #[.agg #[vc], v] ∧ RdS J vc pxC ∧ RdS J v pxL) := by
 refine enter Tryz.func58 Tryz.call58 rfl Tryz.ntmps58 rfl (fun w0 => ?_)
 refine go 3 ?_
 refine o_alloc he rfl (fun g0 => ?_)
 refine go 6 ?_
 refine o_val rfl (v_build (pl := [(0, 1), (1, 1), (2, 1)]) he he rfl rfl) ?_
 refine go 1 ?_
 refine o_buildSlice he he rfl rfl rfl rfl rfl rfl rfl (fun v5 => ?_)
 refine sx_pubrow (l := [pMotor]) rfl rfl (.one rfl) (fun I5 j5 R5 => ?_)
 have R5s := R5
 obtain ⟨A5, c5, rfl, _⟩ := R5s
 refine go 1 ?_
 refine o_val rfl (v_build (pl := [(0, 1), (1, 1), (2, 1)]) he he rfl rfl) ?_
 refine go 1 ?_
 refine o_buildSlice he he rfl rfl rfl rfl rfl rfl rfl (fun v7 => ?_)
 refine sx_pubrow (l := [(⟨pM, [pMotor], 1⟩ : Slot)]) rfl rfl (.one ⟨_, rfl, R5⟩) (fun I7 j7 R7 => ?_)
 try have R5 := R5.le j7
 have R7s := R7
 obtain ⟨A7, c7, rfl, _⟩ := R7s
 refine go 1 ?_
 refine o_val rfl (v_build (pl := [(0, 1), (1, 1), (2, 1)]) he he rfl rfl) ?_
 refine go 1 ?_
 refine o_buildSlice he he rfl rfl rfl rfl rfl rfl rfl (fun v9 => ?_)
 refine sx_pubrow (l := pxC) rfl rfl (.cons ⟨_, rfl, RdS.nil'⟩ (.one ⟨_, rfl, R7⟩)) (fun I9 j9 R9 => ?_)
 try have R5 := R5.le j9
 try have R7 := R7.le j9
 have R9s := R9
 obtain ⟨A9, c9, rfl, _⟩ := R9s
 refine go 1 ?_
 refine o_val rfl (v_build (pl := [(0, 1)]) he he rfl rfl) ?_
 refine go 1 ?_
 refine o_alloc he rfl (fun g2 => ?_)
 refine go 1 ?_
 refine o_stw _ he rfl rfl rfl rfl rfl rfl ?_
 refine go 3 ?_
 refine c_cutL (L' := [(0, .pointer (some ⟨g0, 0, none⟩)), (2, .pointer (some ⟨g2, 0, none⟩)), (3, .func (.func 96) #[] #[])]) ?_ ?_
 ·refine go 4 ?_
  exact q_cut sb rfl rfl
 ·refine go 1 ?_
  refine bring1 ?_
  refine sx_knowI (fun hE3 hf3 => ?_)
  refine d_start1 T.mixed ?_
  refine d_tv 0 rfl rfl (by kernel_rfl) rfl (.cons _ (.refl _)) rfl (v_ldw m0 he rfl rfl) ?_
  refine d_tv 1 rfl rfl (by kernel_rfl) rfl (.cons _ (.refl _)) rfl (v_build (pl := [(0, 1), (1, 1), (2, 1), (3, 1), (4, 1), (5, 1), (6, 1), (7, 1), (8, 6)]) he he rfl rfl) ?_
  refine d_tv 4 rfl rfl (by kernel_rfl) rfl (.cons _ (.refl _)) rfl (v_build (pl := [(0, 1), (1, 1), (2, 1), (3, 1), (4, 1), (5, 1), (6, 1), (7, 1), (8, 6)]) he he rfl rfl) ?_
  refine d_tv 7 rfl rfl (by kernel_rfl) rfl (.cons _ (.refl _)) rfl (v_move rfl) ?_
  refine d_tv 9 rfl rfl (by kernel_rfl) rfl (.cons _ (.refl _)) rfl (v_move rfl) ?_
  refine d_tv 13 rfl rfl (by kernel_rfl) rfl (.cons _ (.refl _)) rfl (v_build (pl := [(0, 1), (1, 1), (2, 1), (3, 1), (4, 1), (5, 1), (6, 1), (7, 1), (8, 6)]) he he rfl rfl) ?_
  refine d_bag (H1 := [.blk g0 24 [.slice A9 pxC.length c9], .blk g2 24 [.slice A9 pxC.length c9]]) [⟨2, 13, [], fun J v => RdS J v [pxMade pM1 pMotor]⟩, ⟨3, 14, [(2, 13)], fun J v => ∃ s, v = .agg #[s, .bool false] ∧ RdS J s [pxMade pM1 pMotor]⟩, ⟨5, 16, [], fun J v => RdS J v [pxMade pV1 pCoach]⟩, ⟨6, 17, [(5, 16)], fun J v => ∃ s, v = .agg #[s, .bool false] ∧ RdS J s [pxMade pV1 pCoach]⟩, ⟨8, 19, [], fun J v => v = .agg (pxFit pM1).cells.toArray⟩, ⟨10, 21, [], fun J v => v = .agg (pxFit pM2).cells.toArray⟩, ⟨11, 22, [(8, 19), (10, 21)], fun J v => RdS J v [pxFit pM1, pxFit pM2]⟩, ⟨12, 23, [(11, 22)], fun J v => ∃ s, v = .agg #[s, .bool false] ∧ RdS J s [pxFit pM1, pxFit pM2]⟩, ⟨14, 25, [], fun J v => RdS J v [pxScrap pM1]⟩, ⟨15, 26, [(14, 25)], fun J v => ∃ s, v = .agg #[s, .bool true] ∧ RdS J s [pxScrap pM1]⟩, ⟨16, 27, [(3, 14), (6, 17), (12, 23), (15, 26)], fun J v => RdS J v pxL⟩, ⟨18, 1, [(16, 27)], fun J v => RdS J v pxL⟩] (some 17) (by kernel_rfl) ⟨fun I1 I2 v hI h => h.le hI, fun I1 I2 v hI ⟨s, e, h⟩ => ⟨s, e, h.le hI⟩, fun I1 I2 v hI h => h.le hI, fun I1 I2 v hI ⟨s, e, h⟩ => ⟨s, e, h.le hI⟩, fun I1 I2 v hI h => h, fun I1 I2 v hI h => h, fun I1 I2 v hI h => h.le hI, fun I1 I2 v hI ⟨s, e, h⟩ => ⟨s, e, h.le hI⟩, fun I1 I2 v hI h => h.le hI, fun I1 I2 v hI ⟨s, e, h⟩ => ⟨s, e, h.le hI⟩, fun I1 I2 v hI h => h.le hI, fun I1 I2 v hI h => h.le hI, trivial⟩ (by repeat' first | exact trivial | refine ⟨rfl, ?_⟩) (fun i h => by cases h; rfl) (fun I2 w hI m => m.keepsI (.cons _ (.refl _)) hI hE3 hf3) (fun i h => by cases h; exact fun I2 w hI m => m.keepsI (.cons _ (.refl _)) hI hE3 hf3) ⟨?_, ?_, ?_, ?_, ?_, ?_, ?_, ?_, ?_, ?_, ?_, ?_, trivial⟩ ?_ ?_
  ·intro I2 V X H o hI ho hd K k
   cases ho
   refine o_buildSlice he he rfl rfl rfl rfl rfl rfl rfl (fun v13 => ?_)
   refine sx_pubrow (l := [pxMade pM1 pMotor]) rfl rfl (.one rfl) (fun I13 j13 R13 => ?_)
   exact k _ _ (j13) (R13)
  ·intro I2 V X H o hI ho hd K k
   cases ho
   obtain ⟨e13, e14, e16, e17, e19, e21, e22, e23, e25, e26, e27, e1, _⟩ := hd
   have f13 := e13 rfl
   revert k
   show (∀ v I3, ILe I2 I3 → _ → SX _ _ _ (_ :: ((13, V 2) :: (_ ++ _))) _ _) → SX _ _ _ ((13, V 2) :: (_ ++ _)) _ _
   obtain ⟨A13, c13, hq13, _⟩ := id f13
   rw [hq13] at f13 ⊢
   intro k
   refine o_val rfl (v_build (pl := [(0, 1), (1, 1)]) he he rfl rfl) ?_
   exact k _ _ (ILe.refl _) (⟨_, rfl, f13⟩)
  ·intro I2 V X H o hI ho hd K k
   cases ho
   refine o_buildSlice he he rfl rfl rfl rfl rfl rfl rfl (fun v16 => ?_)
   refine sx_pubrow (l := [pxMade pV1 pCoach]) rfl rfl (.one rfl) (fun I16 j16 R16 => ?_)
   exact k _ _ (j16) (R16)
  ·intro I2 V X H o hI ho hd K k
   cases ho
   obtain ⟨e13, e14, e16, e17, e19, e21, e22, e23, e25, e26, e27, e1, _⟩ := hd
   have f16 := e16 rfl
   revert k
   show (∀ v I3, ILe I2 I3 → _ → SX _ _ _ (_ :: ((16, V 5) :: (_ ++ _))) _ _) → SX _ _ _ ((16, V 5) :: (_ ++ _)) _ _
   obtain ⟨A16, c16, hq16, _⟩ := id f16
   rw [hq16] at f16 ⊢
   intro k
   refine o_val rfl (v_build (pl := [(0, 1), (1, 1)]) he he rfl rfl) ?_
   exact k _ _ (ILe.refl _) (⟨_, rfl, f16⟩)
  ·intro I2 V X H o hI ho hd K k
   cases ho
   refine o_callV (fit17 _ pM1) rfl rfl ?_
   exact k _ _ (ILe.refl _) (rfl)
  ·intro I2 V X H o hI ho hd K k
   cases ho
   refine o_callV (fit17 _ pM2) rfl rfl ?_
   exact k _ _ (ILe.refl _) (rfl)
  ·intro I2 V X H o hI ho hd K k
   cases ho
   obtain ⟨e13, e14, e16, e17, e19, e21, e22, e23, e25, e26, e27, e1, _⟩ := hd
   have f19 := e19 rfl
   have f21 := e21 rfl
   revert k
   show (∀ v I3, ILe I2 I3 → _ → SX _ _ _ (_ :: ((19, V 8) :: (21, V 10) :: (_ ++ _))) _ _) → SX _ _ _ ((19, V 8) :: (21, V 10) :: (_ ++ _)) _ _
   rw [f19, f21]
   intro k
   refine o_buildSlice he he rfl rfl rfl rfl rfl rfl rfl (fun v22 => ?_)
   refine sx_pubrow (l := [pxFit pM1, pxFit pM2]) rfl rfl (.cons rfl (.one rfl)) (fun I22 j22 R22 => ?_)
   exact k _ _ (j22) (R22)
  ·intro I2 V X H o hI ho hd K k
   cases ho
   obtain ⟨e13, e14, e16, e17, e19, e21, e22, e23, e25, e26, e27, e1, _⟩ := hd
   have f22 := e22 rfl
   revert k
   show (∀ v I3, ILe I2 I3 → _ → SX _ _ _ (_ :: ((22, V 11) :: (_ ++ _))) _ _) → SX _ _ _ ((22, V 11) :: (_ ++ _)) _ _
   obtain ⟨A22, c22, hq22, _⟩ := id f22
   rw [hq22] at f22 ⊢
   intro k
   refine o_val rfl (v_build (pl := [(0, 1), (1, 1)]) he he rfl rfl) ?_
   exact k _ _ (ILe.refl _) (⟨_, rfl, f22⟩)
  ·intro I2 V X H o hI ho hd K k
   cases ho
   refine o_buildSlice he he rfl rfl rfl rfl rfl rfl rfl (fun v25 => ?_)
   refine sx_pubrow (l := [pxScrap pM1]) rfl rfl (.one rfl) (fun I25 j25 R25 => ?_)
   exact k _ _ (j25) (R25)
  ·intro I2 V X H o hI ho hd K k
   cases ho
   obtain ⟨e13, e14, e16, e17, e19, e21, e22, e23, e25, e26, e27, e1, _⟩ := hd
   have f25 := e25 rfl
   revert k
   show (∀ v I3, ILe I2 I3 → _ → SX _ _ _ (_ :: ((25, V 14) :: (_ ++ _))) _ _) → SX _ _ _ ((25, V 14) :: (_ ++ _)) _ _
   obtain ⟨A25, c25, hq25, _⟩ := id f25
   rw [hq25] at f25 ⊢
   intro k
   refine o_val rfl (v_build (pl := [(0, 1), (1, 1)]) he he rfl rfl) ?_
   exact k _ _ (ILe.refl _) (⟨_, rfl, f25⟩)
  ·intro I2 V X H o hI ho hd K k
   cases ho
   obtain ⟨e13, e14, e16, e17, e19, e21, e22, e23, e25, e26, e27, e1, _⟩ := hd
   have f14 := e14 rfl
   have f17 := e17 rfl
   have f23 := e23 rfl
   have f26 := e26 rfl
   revert k
   show (∀ v I3, ILe I2 I3 → _ → SX _ _ _ (_ :: ((14, V 3) :: (17, V 6) :: (23, V 12) :: (26, V 15) :: (_ ++ _))) _ _) → SX _ _ _ ((14, V 3) :: (17, V 6) :: (23, V 12) :: (26, V 15) :: (_ ++ _)) _ _
   obtain ⟨s14, h14, r14⟩ := f14
   obtain ⟨A14, c14, hq14, _⟩ := id r14
   rw [hq14] at r14 h14
   rw [h14]
   obtain ⟨s17, h17, r17⟩ := f17
   obtain ⟨A17, c17, hq17, _⟩ := id r17
   rw [hq17] at r17 h17
   rw [h17]
   obtain ⟨s23, h23, r23⟩ := f23
   obtain ⟨A23, c23, hq23, _⟩ := id r23
   rw [hq23] at r23 h23
   rw [h23]
   obtain ⟨s26, h26, r26⟩ := f26
   obtain ⟨A26, c26, hq26, _⟩ := id r26
   rw [hq26] at r26 h26
   rw [h26]
   intro k
   refine o_buildSlice he he rfl rfl rfl rfl rfl rfl rfl (fun v27 => ?_)
   refine sx_roweq (ys := [.slice A14 1 c14, .bool false] ++ ([.slice A17 1 c17, .bool false] ++ ([.slice A23 2 c23, .bool false] ++ [.slice A26 1 c26, .bool true]))) (rfl) ?_
   refine sx_pubrow (l := pxL) rfl rfl (.cons ⟨_, rfl, r14⟩ (.cons ⟨_, rfl, r17⟩ (.cons ⟨_, rfl, r23⟩ (.one ⟨_, rfl, r26⟩)))) (fun I27 j27 R27 => ?_)
   exact k _ _ (j27) (R27)
  ·intro I2 V X H o hI ho hd K k
   cases ho
   obtain ⟨e13, e14, e16, e17, e19, e21, e22, e23, e25, e26, e27, e1, _⟩ := hd
   have f27 := e27 rfl
   revert k
   show (∀ v I3, ILe I2 I3 → _ → SX _ _ _ (_ :: ((27, V 16) :: (_ ++ _))) _ _) → SX _ _ _ ((27, V 16) :: (_ ++ _)) _ _
   intro k
   refine o_val rfl (v_assign rfl) ?_
   exact k _ _ (ILe.refl _) (f27)
  ·intro i h
   cases h
   intro I2 X o hI ho K k
   cases ho
   refine o_stw _ he rfl rfl rfl rfl rfl rfl ?_
   exact k
  ·intro I2 V hI hp
   obtain ⟨e13, e14, e16, e17, e19, e21, e22, e23, e25, e26, e27, e1, _⟩ := hp
   try have R9 := R9.le hI
   refine go 2 ?_
   refine fin2 rfl ⟨_, _, _, rfl, m0, .inr ⟨_, he, rfl, rfl⟩⟩ rfl ?_
   exact q_i ⟨_, _, rfl, R9, e1⟩

end Go.Proofs.YtoadjlmbdliceaaGreat

/- Walks, printed by a program out of the code of the functions: each theorem is a contract of one function. -/
namespace Go.Proofs.YtoadjlmbdliceaaGreat
open Go Go.Sx
set_option linter.all false
set_option maxRecDepth 20000
set_option maxHeartbeats 4000000
instance T.zero_4 : Has (zeroK Tryz.prog 4) [.bool false] := ⟨by kernel_rfl⟩
instance T.zero_68 : Has (zeroK Tryz.prog 68) [.slice none 0 0] := ⟨by kernel_rfl⟩
theorem possSure (I : IMap) (vc : Value) (c : List Kind) (hvc : RdS I vc c) (hsc : SmC c) (v : Value) (l : List Rep) (hv : RdS I v l) (hl : l.length ≤ 1000000) (hsl : ∀ r ∈ l, ∀ e ∈ r.options, SmE e) (h30 : l.length ≤ 30) (hw : waysN l < 4096) :
    FnI Tryz.prog 39 #[.agg #[vc], v] I (fun u J => ∃ w, u = .tuple #[w, .int .i64 (sureF c l).2] ∧ RdS J w (sureF c l).1) := by
 refine enter Tryz.func39 Tryz.call39 rfl Tryz.ntmps39 rfl (fun w0 => ?_)
 refine go 3 ?_
 refine o_box _ rfl rfl rfl (fun g2 => ?_)
 refine go 9 ?_
 refine o_call (possChoices _ vc c hvc hsc _ l hv hl hsl h30 hw) rfl rfl (fun v14 I14 j14 q14 => ?_)
 obtain ⟨w14, rfl, hw14⟩ := q14
 refine go 14 ?_
 refine cb rfl (fun h18 p18 => ?_) (fun h18 p18 => ?_)
 ·refine go 9 ?_
  refine fin2 rfl rfl rfl ?_
  exact q_i ⟨_, by rw [sure_no p18]; rfl, by rw [sure_no p18]; exact RdS.nil'⟩
 ·have h0 : (choF c l).2 = 0 := by simpa using h18
  obtain ⟨TA, tc, rfl, hTA, _, _⟩ := hw14
  have hTl := cho_len h0
  obtain ⟨A0, c0, rfl, _, _, _⟩ := hv
  refine go 7 ?_
  refine o_makeSlice he he rfl rfl rfl (by omega) (by omega) rfl (fun g22 => ?_)
  refine go 6 ?_
  refine sx_blkeq _ (intCs_rep _) ?_
  refine go 6 ?_
  refine bring1 ?_
  refine sx_drop ?_
  refine c_loop2 ((0 : Nat)) ((List.replicate l.length 0)) (fun j m => I14)
   (fun j m => [(8, .slice (some ⟨g22, 0, none⟩) l.length l.length), (23, .slice TA (choF c l).1.length tc), (24, .int .i64 (((choF c l).1.length : Nat) : Int)), (25, .int .i64 ((j : Nat) : Int))])
   (fun j m => [.blk g22 3 (intCs m)])
   (fun j m => j ≤ (choF c l).1.length ∧ m.length = l.length ∧ m.take j = ((choF c l).1.take j).map onlyF)
   (fun j m => (choF c l).1.length - j) ⟨Nat.zero_le _, by simp, rfl⟩ rfl sb rfl ?_
  intro j m ⟨hj, hml, hm⟩
  refine go 6 ?_
  refine cb rfl (fun h26 p26 => ?_) (fun h26 p26 => ?_)
  ·have hlt : j < (choF c l).1.length := by omega
   have hfl := fstT_le (choF c l).1[j]
   refine go 7 ?_
   obtain ⟨b28, o28, w28, e28, c28, r28⟩ := RdA.at_ hTA (i := j) (by omega)
   obtain ⟨q28, rfl, S28, d28, rfl, hS28, hd28, hm28⟩ := r28
   refine o_v rfl (v_idx he rfl rfl e28 (j) (by omega) (by omega)) ?_
   refine o_v rfl (v_ldI he rfl (c28 0 _ rfl)) ?_
   refine go 10 ?_
   refine o_callV (index_bool _ _ (choF c l).1[j] ⟨_, _, rfl, hS28, hd28, hm28⟩ true) rfl rfl ?_
   refine o_v rfl (v_idx he rfl rfl rfl (j) (by omega) (by omega)) ?_
   refine go 1 ?_
   refine o_st1 he rfl rfl rfl (by rw [intCs_len, Nat.blt_eq]; omega) ?_
   refine sx_blkeq (intCs (m.set j (fstT (choF c l).1[j]))) (by rw [Nat.zero_add, Nat.mul_one]; exact intCs_set _ _ _) ?_
   refine go 7 ?_
   refine o_v rfl (v_idx he rfl rfl rfl (j) (by omega) (by omega)) ?_
   refine o_v rfl (OV.cast (u := .int .i64 (fstT (choF c l).1[j])) (v_ld m0 he rfl (by rw [Nat.zero_add, Nat.mul_one]; exact intCs_at (by simp; omega))) (congrArg (Value.int .i64) (by simp))) ?_
   refine go 1 ?_
   refine o_v rfl (v_slice_lo he rfl rfl (fstT (choF c l).1[j] + 1).toNat (by omega) (by omega)) ?_
   refine go 1 ?_
   refine o_callV (contains_bool _ _ ((choF c l).1[j].drop (fstT (choF c l).1[j] + 1).toNat) (RdS.dropM (l := (choF c l).1[j]) ⟨_, _, rfl, hS28, hd28, hm28⟩ _ (by omega)) true) rfl rfl ?_
   refine go 2 ?_
   refine cb rfl (fun h42 p42 => ?_) (fun h42 p42 => ?_)
   ·refine go 3 ?_
    refine o_v rfl (v_idx he rfl rfl rfl (j) (by omega) (by omega)) ?_
    refine go 1 ?_
    refine o_st1 he rfl rfl rfl (by rw [intCs_len, Nat.blt_eq]; simp; omega) ?_
    refine sx_blkeq (intCs ((m.set j (fstT (choF c l).1[j])).set j (-1))) (by rw [Nat.zero_add, Nat.mul_one]; exact intCs_set _ _ _) ?_
    refine go 8 ?_
    exact q_next2 (j + 1) (((m.set j (fstT (choF c l).1[j])).set j (-1))) ⟨by omega, by simp [hml], by rw [List.set_set]; exact sure_step (by omega) hlt hm (if_pos h42)⟩ (by omega) rfl sb rfl
   ·refine go 8 ?_
    exact q_next2 (j + 1) ((m.set j (fstT (choF c l).1[j]))) ⟨by omega, by simp [hml], sure_step (by omega) hlt hm (if_neg (by rw [h42]; decide))⟩ (by omega) rfl sb rfl
  ·obtain rfl : j = (choF c l).1.length := by omega
   rw [List.take_length, hTl, ← hml, List.take_length] at hm
   refine go 7 ?_
   refine sx_pub (fun Ig22 jg22 cg22 => ?_)
   refine go 6 ?_
   refine fin2 rfl rfl rfl ?_
   exact q_i ⟨_, by rw [sure_yes h0], by rw [sure_yes h0, ← hm]; exact intCs_rdn cg22 hml hl⟩

theorem exCho17 (I : IMap) (vc : Value) (hvc : RdS I vc pxC) (v : Value) (hv : RdS I v pxL) : FnI Tryz.prog 37 #[.agg #[vc], v] I (fun u J => ∃ w, u = .tuple #[w, .int .i64 0] ∧ RdS J w ([[true], [true], [true, false], [false, true]] : List (List Bool))) := by
  have := possChoices I vc pxC hvc px_smC v pxL hv (by decide) px_sm (by decide) (by decide +kernel)
  rw [px_cho] at this
  exact this

theorem exSure17 (I : IMap) (vc : Value) (hvc : RdS I vc pxC) (v : Value) (hv : RdS I v pxL) : FnI Tryz.prog 39 #[.agg #[vc], v] I (fun u J => ∃ w, u = .tuple #[w, .int .i64 0] ∧ RdS J w ([0, 0, 0, 1] : List Int)) := by
  have := possSure I vc pxC hvc px_smC v pxL hv (by decide) px_sm (by decide) (by decide +kernel)
  rw [px_sure] at this
  exact this

theorem exSure17b (I : IMap) (vc : Value) (hvc : RdS I vc pxC) (v : Value) (hv : RdS I v (pxL.drop 2)) : FnI Tryz.prog 39 #[.agg #[vc], v] I (fun u J => ∃ w, u = .tuple #[w, .int .i64 21] ∧ RdS J w ([] : List Int)) := by
  have := possSure I vc pxC hvc px_smC v (pxL.drop 2) hv (by decide) (fun r hr => px_sm r (List.mem_of_mem_drop hr)) (by decide) (by decide +kernel)
  rw [px_sure2] at this
  exact this

theorem head17 (I : IMap) :
    FnV Tryz.prog 35 #[] I (.bool true) := by
 refine enter Tryz.func35 Tryz.call35 rfl Tryz.ntmps35 rfl (fun w0 => ?_)
 refine go 8 ?_
 refine o_call (sample17 _) rfl rfl (fun v10 I10 j10 q10 => ?_)
 obtain ⟨vc, v, rfl, hvc, hv⟩ := q10
 have hv2 := hv
 obtain ⟨A0, c0, rfl, _⟩ := hv2
 have hv2 := (RdS.dropM (l := pxL) hv 2 (by decide))
 refine go 4 ?_
 refine o_alloc he rfl (fun g1 => ?_)
 refine go 1 ?_
 refine o_stw _ he rfl rfl rfl rfl rfl (by simp [hvc.one]) ?_
 refine go 8 ?_
 refine o_call (exCho17 _ vc hvc _ hv) rfl rfl (fun v16 I16 j16 q16 => ?_)
 try have hvc := hvc.le j16
 try have hv := hv.le j16
 try have hv2 := hv2.le j16
 try have hw16 := hw16.le j16
 try have hw22 := hw22.le j16
 try have hw29 := hw29.le j16
 try have R40 := R40.le j16
 try have R41 := R41.le j16
 try have R42 := R42.le j16
 try have R43 := R43.le j16
 obtain ⟨w16, rfl, hw16⟩ := q16
 refine go 12 ?_
 refine o_call (exSure17 _ vc hvc _ hv) rfl rfl (fun v22 I22 j22 q22 => ?_)
 try have hvc := hvc.le j22
 try have hv := hv.le j22
 try have hv2 := hv2.le j22
 try have hw16 := hw16.le j22
 try have hw22 := hw22.le j22
 try have hw29 := hw29.le j22
 try have R40 := R40.le j22
 try have R41 := R41.le j22
 try have R42 := R42.le j22
 try have R43 := R43.le j22
 obtain ⟨w22, rfl, hw22⟩ := q22
 refine go 8 ?_
 refine sx_knowI (fun hE4 hf4 => ?_)
 refine d_startH T.mixed ?_
 refine d_tv 0 rfl rfl (by kernel_rfl) rfl (.refl _) rfl (v_ldw m0 he rfl rfl) ?_
 refine d_tv 1 rfl rfl (by kernel_rfl) rfl (.refl _) rfl (v_move rfl) ?_
 refine d_tv 2 rfl rfl (by kernel_rfl) rfl (.refl _) rfl (v_slice_lo he rfl rfl 2 rfl (by decide)) ?_
 refine d_one 3 (by kernel_rfl) rfl ?_
 refine o_call (exSure17b _ vc hvc _ hv2) rfl rfl (fun v29 I29 j29 q29 => ?_)
 try have hvc := hvc.le j29
 try have hv := hv.le j29
 try have hv2 := hv2.le j29
 try have hw16 := hw16.le j29
 try have hw22 := hw22.le j29
 try have hw29 := hw29.le j29
 try have R40 := R40.le j29
 try have R41 := R41.le j29
 try have R42 := R42.le j29
 try have R43 := R43.le j29
 obtain ⟨w29, rfl, hw29⟩ := q29
 refine d_on (fun _ m => m.keepsI (.refl _) (j29) hE4 hf4) ?_
 refine d_t 4 rfl rfl (by kernel_rfl) rfl (fun _ m => m.keepsI (.refl _) (j29) hE4 hf4) (y_v rfl (v_move rfl)) ?_
 refine d_t 5 rfl rfl (by kernel_rfl) rfl (fun _ m => m.keepsI (.refl _) (j29) hE4 hf4) (y_v rfl (v_extract rfl rfl)) ?_
 refine d_t 6 rfl rfl (by kernel_rfl) rfl (fun _ m => m.keepsI (.refl _) (j29) hE4 hf4) (y_v rfl (v_extract rfl rfl)) ?_
 refine d_t 7 rfl rfl (by kernel_rfl) rfl (fun _ m => m.keepsI (.refl _) (j29) hE4 hf4) (y_v rfl (v_assign rfl)) ?_
 refine d_t 8 rfl rfl (by kernel_rfl) rfl (fun _ m => m.keepsI (.refl _) (j29) hE4 hf4) (y_v rfl (v_assign rfl)) ?_
 refine d_done (by kernel_rfl) ?_
 refine go 4 ?_
 refine o_v rfl (OV.cast (u := .bool true) (v_eql rfl rfl) (congrArg Value.bool (decide_eq_true (rfl)))) ?_
 refine go 2 ?_
 refine o_cons (o_yes rfl rfl rfl (o_val rfl (OV.cast (u := .bool true) (v_eql rfl rfl) (congrArg Value.bool (decide_eq_true (rfl)))) ?_))
 refine go 4 ?_
 refine o_yes rfl rfl rfl (o_buildSlice he he rfl rfl rfl rfl rfl rfl rfl (fun v40 => ?_))
 refine sx_roweq (ys := [.bool true]) (rfl) ?_
 refine sx_pubrow (l := ([true] : List Bool)) rfl rfl (.one rfl) (fun I40 j40 R40 => ?_)
 try have hvc := hvc.le j40
 try have hv := hv.le j40
 try have hv2 := hv2.le j40
 try have hw16 := hw16.le j40
 try have hw22 := hw22.le j40
 try have hw29 := hw29.le j40
 try have R40 := R40.le j40
 try have R41 := R41.le j40
 try have R42 := R42.le j40
 try have R43 := R43.le j40
 have R40s := R40
 obtain ⟨A40, c40, rfl, _⟩ := R40s
 refine go 1 ?_
 refine o_yes rfl rfl rfl (o_buildSlice he he rfl rfl rfl rfl rfl rfl rfl (fun v41 => ?_))
 refine sx_roweq (ys := [.bool true]) (rfl) ?_
 refine sx_pubrow (l := ([true] : List Bool)) rfl rfl (.one rfl) (fun I41 j41 R41 => ?_)
 try have hvc := hvc.le j41
 try have hv := hv.le j41
 try have hv2 := hv2.le j41
 try have hw16 := hw16.le j41
 try have hw22 := hw22.le j41
 try have hw29 := hw29.le j41
 try have R40 := R40.le j41
 try have R41 := R41.le j41
 try have R42 := R42.le j41
 try have R43 := R43.le j41
 have R41s := R41
 obtain ⟨A41, c41, rfl, _⟩ := R41s
 refine go 1 ?_
 refine o_yes rfl rfl rfl (o_buildSlice he he rfl rfl rfl rfl rfl rfl rfl (fun v42 => ?_))
 refine sx_roweq (ys := [.bool true] ++ [.bool false]) (rfl) ?_
 refine sx_pubrow (l := ([true, false] : List Bool)) rfl rfl (.cons rfl (.one rfl)) (fun I42 j42 R42 => ?_)
 try have hvc := hvc.le j42
 try have hv := hv.le j42
 try have hv2 := hv2.le j42
 try have hw16 := hw16.le j42
 try have hw22 := hw22.le j42
 try have hw29 := hw29.le j42
 try have R40 := R40.le j42
 try have R41 := R41.le j42
 try have R42 := R42.le j42
 try have R43 := R43.le j42
 have R42s := R42
 obtain ⟨A42, c42, rfl, _⟩ := R42s
 refine go 1 ?_
 refine o_yes rfl rfl rfl (o_buildSlice he he rfl rfl rfl rfl rfl rfl rfl (fun v43 => ?_))
 refine sx_roweq (ys := [.bool false] ++ [.bool true]) (rfl) ?_
 refine sx_pubrow (l := ([false, true] : List Bool)) rfl rfl (.cons rfl (.one rfl)) (fun I43 j43 R43 => ?_)
 try have hvc := hvc.le j43
 try have hv := hv.le j43
 try have hv2 := hv2.le j43
 try have hw16 := hw16.le j43
 try have hw22 := hw22.le j43
 try have hw29 := hw29.le j43
 try have R40 := R40.le j43
 try have R41 := R41.le j43
 try have R42 := R42.le j43
 try have R43 := R43.le j43
 have R43s := R43
 obtain ⟨A43, c43, rfl, _⟩ := R43s
 refine go 1 ?_
 refine o_yes rfl rfl rfl (o_buildSlice he he rfl rfl rfl rfl rfl rfl rfl (fun v44 => ?_))
 refine sx_roweq (ys := [.slice A40 1 c40] ++ ([.slice A41 1 c41] ++ ([.slice A42 2 c42] ++ [.slice A43 2 c43]))) (rfl) ?_
 refine sx_pubrow (l := ([[true], [true], [true, false], [false, true]] : List (List Bool))) rfl rfl (.cons ⟨_, rfl, R40⟩ (.cons ⟨_, rfl, R41⟩ (.cons ⟨_, rfl, R42⟩ (.one ⟨_, rfl, R43⟩)))) (fun I44 j44 R44 => ?_)
 try have hvc := hvc.le j44
 try have hv := hv.le j44
 try have hv2 := hv2.le j44
 try have hw16 := hw16.le j44
 try have hw22 := hw22.le j44
 try have hw29 := hw29.le j44
 try have R40 := R40.le j44
 try have R41 := R41.le j44
 try have R42 := R42.le j44
 try have R43 := R43.le j44
 refine go 1 ?_
 refine o_yes rfl rfl rfl (o_callV (eqSame17 _ _ _ hw16 _ R44) rfl rfl ?_)
 refine go 4 ?_
 refine o_yes rfl rfl rfl (o_buildSlice he he rfl rfl rfl rfl rfl rfl rfl (fun v49 => ?_))
 refine sx_roweq (ys := [ci 0] ++ ([ci 0] ++ ([ci 0] ++ [ci 1]))) (rfl) ?_
 refine sx_pubrow (l := ([0, 0, 0, 1] : List Int)) rfl rfl (.cons rfl (.cons rfl (.cons rfl (.one rfl)))) (fun I49 j49 R49 => ?_)
 try have hvc := hvc.le j49
 try have hv := hv.le j49
 try have hv2 := hv2.le j49
 try have hw16 := hw16.le j49
 try have hw22 := hw22.le j49
 try have hw29 := hw29.le j49
 try have R40 := R40.le j49
 try have R41 := R41.le j49
 try have R42 := R42.le j49
 try have R43 := R43.le j49
 refine go 1 ?_
 refine o_yes rfl rfl rfl (o_callV (eqInts14 _ _ _ hw22 _ R49) rfl rfl ?_)
 refine go 3 ?_
 refine o_cons (o_yes rfl rfl rfl (o_val rfl (OV.cast (u := .bool true) (v_eql rfl rfl) (congrArg Value.bool (decide_eq_true (rfl)))) ?_))
 refine go 5 ?_
 refine fin1 rfl rfl ?_
 exact q_vI rfl

end Go.Proofs.YtoadjlmbdliceaaGreat

/- The reference of components: the least index that each report is known to belong with. -/
set_option linter.all false
namespace Go.Sx
open Go
/-- the names of a list of reports -/
def NmL (l : List Rep) (W : List (List ByteArray)) : Prop := W.length = l.length ∧ ∀ i (h1 : i < W.length) (h2 : i < l.length) z, z ∈ W[i] ↔ nm l[i] z
/-- each has the least one of a component that it is known to be in -/
structure Lea (l : List Rep) (F : List Nat) : Prop where
  len : F.length = l.length
  le : ∀ i (h : i < F.length), F[i] ≤ i
  idem : ∀ i (h : i < F.length) (h2 : F[i] < F.length), F[F[i]] = F[i]
  sound : ∀ i (h : i < F.length), Lnk l i F[i]
section
variable {l : List Rep} {F : List Nat} {W : List (List ByteArray)} {i k a b : Nat}
theorem Lea.lt (h : Lea l F) (hi : i < F.length) : F[i] < F.length := Nat.lt_of_le_of_lt (h.le i hi) hi
theorem lea_start (l : List Rep) : Lea l (List.range l.length) := ⟨by simp, fun i h => by simp, fun i h h2 => by simp, fun i h => by simp only [List.getElem_range]; exact .refl i⟩
/-- two components become one -/
def meetF (F : List Nat) (hi lo : Nat) : List Nat := F.map fun x => if x = hi then lo else x
theorem meet_len (F : List Nat) (hi lo : Nat) : (meetF F hi lo).length = F.length := by simp [meetF]
theorem Lea.meet (h : Lea l F) (hi : i < F.length) (hk : k < F.length) (hne : F[i] ≠ F[k]) (hl : Lnk l i k) : Lea l (meetF F (max F[i] F[k]) (min F[i] F[k])) ∧ (meetF F (max F[i] F[k]) (min F[i] F[k])).sum < F.sum := by
  have key : ∀ (A B : Nat), A < B → (∃ p, ∃ hp : p < F.length, F[p] = A) → (∃ p, ∃ hp : p < F.length, F[p] = B) → Lnk l A B → Lea l (meetF F B A) ∧ (meetF F B A).sum < F.sum := by
    rintro A B hAB ⟨p, hp, hpA⟩ ⟨q, hq, hqB⟩ hAk
    have hA : A < F.length := hpA ▸ h.lt hp
    have hFA : F[A] = A := by have := h.idem p hp (h.lt hp); simpa only [hpA] using this
    refine ⟨⟨by rw [meet_len]; exact h.len, fun j hj => ?_, fun j hj hj2 => ?_, fun j hj => ?_⟩, ?_⟩
    · rw [meet_len] at hj
      have := h.le j hj
      simp only [meetF, List.getElem_map]
      split <;> omega
    · rw [meet_len] at hj
      simp only [meetF, List.getElem_map]
      by_cases e : F[j] = B
      · simp only [e, if_true, hFA]
        rw [if_neg (by omega)]
      · simp only [if_neg e]
        rw [h.idem j hj (h.lt hj), if_neg e]
    · rw [meet_len] at hj
      simp only [meetF, List.getElem_map]
      have := h.sound j hj
      split
      · rename_i e; rw [e] at this; exact this.trans hAk.symm
      · exact this
    · have hle : ∀ (G : List Nat), (meetF G B A).sum ≤ G.sum := fun G => by
        induction G with
        | nil => exact Nat.le_refl _
        | cons x G ih =>
          simp only [meetF, List.map_cons, List.sum_cons] at ih ⊢
          split <;> omega
      have hlt : ∀ (G : List Nat), B ∈ G → (meetF G B A).sum < G.sum := fun G => by
        induction G with
        | nil => intro h; cases h
        | cons x G ih =>
          intro hm
          have h1 := hle G
          simp only [meetF, List.map_cons, List.sum_cons] at ih h1 ⊢
          rcases List.mem_cons.1 hm with rfl | hm
          · rw [if_pos rfl]; omega
          · have := ih hm
            split <;> omega
      exact hlt F (hqB ▸ List.getElem_mem hq)
  have l1 := h.sound i hi
  have l2 := h.sound k hk
  rcases Nat.lt_or_gt_of_ne hne with h1 | h1
  · rw [Nat.max_eq_right (Nat.le_of_lt h1), Nat.min_eq_left (Nat.le_of_lt h1)]
    exact key F[i] F[k] h1 ⟨i, hi, rfl⟩ ⟨k, hk, rfl⟩ ((l1.symm.trans hl).trans l2)
  · rw [Nat.max_eq_left (Nat.le_of_lt h1), Nat.min_eq_right (Nat.le_of_lt h1)]
    exact key F[k] F[i] h1 ⟨k, hk, rfl⟩ ⟨i, hi, rfl⟩ ((l2.symm.trans hl.symm).trans l1)
/-- the list as_ a function -/
def leaR (F : List Nat) (i : Nat) : Nat := F.getD i i
theorem leaR_at (h : i < F.length) : leaR F i = F[i] := by simp [leaR, List.getD, h]
theorem leaR_out (h : F.length ≤ i) : leaR F i = i := by simp [leaR, List.getD, List.getElem?_eq_none h]
/-- nothing more to be put together: the least ones of the components -/
theorem Lea.rts (h : Lea l F) (hq : ∀ i k (h1 : i < F.length) (h2 : k < F.length) (h3 : i < l.length) (h4 : k < l.length), k < i → F[i] = F[k] ∨ ∀ z, nm l[i] z → ¬ nm l[k] z) : Rts l (leaR F) := by
  refine ⟨fun i => ?_, fun i => ?_, fun {i k z} hi hk h1 h2 => ?_, fun i => ?_⟩
  · rcases Nat.lt_or_ge i F.length with hi | hi
    · rw [leaR_at hi]; exact h.le i hi
    · rw [leaR_out hi]; exact Nat.le_refl _
  · rcases Nat.lt_or_ge i F.length with hi | hi
    · rw [leaR_at hi, leaR_at (h.lt hi), h.idem i hi (h.lt hi)]
    · rw [leaR_out hi, leaR_out hi]
  · have hi' : i < F.length := by rw [h.len]; exact hi
    have hk' : k < F.length := by rw [h.len]; exact hk
    rw [leaR_at hi', leaR_at hk']
    rcases Nat.lt_trichotomy k i with h3 | h3 | h3
    · rcases hq i k hi' hk' hi hk h3 with h4 | h4
      · exact h4
      · exact absurd h2 (h4 z h1)
    · subst h3; rfl
    · rcases hq k i hk' hi' hk hi h3 with h4 | h4
      · exact h4.symm
      · exact absurd h1 (h4 z h2)
  · rcases Nat.lt_or_ge i F.length with hi | hi
    · rw [leaR_at hi]; exact h.sound i hi
    · rw [leaR_out hi]; exact .refl i
/-- one step of putting together -/
def meetTo (F : List Nat) (hi lo j : Nat) : List Nat := meetF (F.take j) hi lo ++ F.drop j
theorem meetTo_len (F : List Nat) (hi lo j : Nat) : (meetTo F hi lo j).length = F.length := by simp [meetTo, meetF]; omega
theorem meetTo_all {j : Nat} (F : List Nat) (hi lo : Nat) (h : F.length ≤ j) : meetTo F hi lo j = meetF F hi lo := by
  rw [meetTo, List.take_of_length_le h, List.drop_eq_nil_of_le h, List.append_nil]
theorem meetTo_at {j : Nat} (F : List Nat) (hi lo : Nat) (h : j < F.length) (h2 : j < (meetTo F hi lo j).length) : (meetTo F hi lo j)[j] = F[j] := by
  have e : (meetF (F.take j) hi lo).length = j := by rw [meet_len, List.length_take]; omega
  simp only [meetTo]
  rw [List.getElem_append_right (by omega)]
  simp [e]
theorem meetTo_yes {j : Nat} {F : List Nat} {hi lo : Nat} (h : j < F.length) (e : F[j] = hi) : (meetTo F hi lo j).set j lo = meetTo F hi lo (j + 1) := by
  have e1 : (meetF (F.take j) hi lo).length = j := by rw [meet_len, List.length_take]; omega
  have e2 : meetF (F.take (j + 1)) hi lo = meetF (F.take j) hi lo ++ [lo] := by rw [← take_succ_of h, meetF, List.map_append, List.map_cons, if_pos e]; rfl
  rw [meetTo, List.set_append_right _ _ (by omega), e1, Nat.sub_self, List.drop_eq_getElem_cons h, meetTo, e2, List.append_assoc]; rfl
theorem meetTo_no {j : Nat} {F : List Nat} {hi lo : Nat} (h : j < F.length) (e : ¬ F[j] = hi) : meetTo F hi lo j = meetTo F hi lo (j + 1) := by
  have e2 : meetF (F.take (j + 1)) hi lo = meetF (F.take j) hi lo ++ [F[j]] := by rw [← take_succ_of h, meetF, List.map_append, List.map_cons, if_neg e]; rfl
  rw [meetTo, meetTo, e2, List.drop_eq_getElem_cons h, List.append_assoc]; rfl
/-- the members of a component from its least one on -/
theorem memb_from {R : Nat → Nat} (hle : ∀ i, R i ≤ i) {n i k : Nat} (h : k ≤ i) : membN R k i = [] := by
  unfold membN
  rw [List.filter_eq_nil_iff]
  intro j hj
  have := List.mem_range.1 hj
  have := hle j
  simp; omega
end
section
variable {F : List Nat} {i n : Nat} {l : List Rep}
theorem natC_at0 (h : i < F.length) : (natC F)[i]? = some [ci ((F[i] : Nat) : Int)] := by simp [natC, h]
theorem natC_set0 (x : Nat) : (natC F).set i [ci (x : Int)] = natC (F.set i x) := by simp [natC, List.map_set]
theorem natC_rep (n : Nat) : (List.replicate n [ci 0]).flatten = (natC (List.replicate n 0)).flatten := by simp [natC]
/-- numbers from 0 on, then zeros -/
def upTo (n i : Nat) : List Nat := List.range i ++ List.replicate (n - i) 0
theorem upTo_next (h : i < n) : (upTo n i).set i i = upTo n (i + 1) := by
  have e : (List.range i).length = i := by simp
  rw [upTo, List.set_append_right _ _ (by omega), e, Nat.sub_self, show n - i = (n - (i + 1)) + 1 by omega, List.replicate_succ, upTo, List.range_succ, List.append_assoc]; rfl
theorem upTo_len (h : i ≤ n) : (upTo n i).length = n := by simp [upTo]; omega
theorem upTo_all (n : Nat) : upTo n n = List.range n := by simp [upTo]
/-- the values of lists of strings in cells -/
abbrev LsS := Value × List ByteArray
def vS (n : Nat) (Q : List LsS) : List (List Value) := (Q.map fun p => [p.1]) ++ List.replicate (n - Q.length) [Value.slice none 0 0]
theorem vS_uk (n : Nat) (Q : List LsS) : Uk 1 (vS n Q) := by
  refine Uk.append (fun c hc => ?_) fun c hc => ?_
  · obtain ⟨x, _, rfl⟩ := List.mem_map.1 hc; rfl
  · rw [List.eq_of_mem_replicate hc]; rfl
theorem vS_len {Q : List LsS} (h : Q.length ≤ n) : (vS n Q).length = n := by simp [vS]; omega
theorem vS_next {Q : List LsS} (hQ : Q.length = i) (h : i < n) (x : LsS) : (vS n Q).set i [x.1] = vS n (Q ++ [x]) := by
  subst hQ
  have e : (Q.map fun p : LsS => [p.1]).length = Q.length := by simp
  rw [vS, List.set_append_right _ _ (by omega), e, Nat.sub_self, show n - Q.length = (n - (Q.length + 1)) + 1 by omega, List.replicate_succ]
  simp [vS]
theorem vS_flat {I : IMap} : ∀ (Q : List LsS), (∀ p ∈ Q, RdS I p.1 p.2) → Flat I (vS Q.length Q).flatten (Q.map Prod.snd)
  | [], _ => .nil
  | q :: Q, h => by
    have ih := vS_flat Q fun p hp => h p (by simp [hp])
    have e : (vS (q :: Q).length (q :: Q)).flatten = [q.1] ++ (vS Q.length Q).flatten := by simp [vS]
    rw [e]
    exact .cons (vs := [q.1]) ⟨_, rfl, h q (by simp)⟩ ih
theorem putS_mem {l : List ByteArray} {k : Nat} {s z : ByteArray} : z ∈ l.take k ++ ([s] ++ l.drop k) ↔ z ∈ l ∨ z = s := by
  conv => rhs; rw [← List.take_append_drop k l]
  simp only [List.mem_append, List.mem_singleton]
  constructor
  · rintro (h | h | h)
    · exact .inl (.inl h)
    · exact .inr h
    · exact .inl (.inr h)
  · rintro ((h | h) | h)
    · exact .inl h
    · exact .inr (.inr h)
    · exact .inr (.inl h)
theorem any_mem2 {a b : List ByteArray} {i k : Nat} (hi : i < a.length) (hk : k < b.length) (h : a[i] = b[k]) : (a.any fun x => decide (x ∈ b)) = true := List.any_eq_true.2 ⟨a[i], List.getElem_mem hi, by rw [h]; simp⟩
theorem any_mem0 {a b : List ByteArray} (h : ∀ z ∈ a, z ∉ b) : (a.any fun x => decide (x ∈ b)) = false := List.any_eq_false.2 fun x hx => by simpa using h x hx
theorem mem_take1 {α : Type} {l : List α} {i : Nat} (h : i < l.length) {z : α} : z ∈ l.take (i + 1) ↔ z ∈ l.take i ∨ z = l[i] := by
  have e := take_succ_of h
  rw [← e, List.mem_append, List.mem_singleton]
theorem names_next {l : List Evt} {i : Nat} (h : i < l.length) (z : ByteArray) : (∃ e ∈ l.take (i + 1), z ∈ namesE e) ↔ (∃ e ∈ l.take i, z ∈ namesE e) ∨ z ∈ namesE l[i] := by
  constructor
  · rintro ⟨e, he, hz⟩
    rcases (mem_take1 h).1 he with h | h
    · exact .inl ⟨e, h, hz⟩
    · exact .inr (h ▸ hz)
  · rintro (⟨e, he, hz⟩ | hz)
    · exact ⟨e, (mem_take1 h).2 (.inl he), hz⟩
    · exact ⟨_, (mem_take1 h).2 (.inr rfl), hz⟩
/-- what two of the list are to be, where nothing more is put together -/
def ShOk (l : List Rep) (F : List Nat) (i k : Nat) : Prop := ∀ (h1 : i < F.length) (h2 : k < F.length) (h3 : i < l.length) (h4 : k < l.length), F[i] = F[k] ∨ ∀ z, nm l[i] z → ¬ nm l[k] z
theorem common_no {W : List (List ByteArray)} {i k : Nat} (hW : NmL l W) (h1 : i < W.length) (h2 : k < W.length) (hi : i < l.length) (hk : k < l.length) (h : (W[i].any fun x => decide (x ∈ W[k])) = false) : ∀ z, nm l[i] z → ¬ nm l[k] z := fun z h3 h4 => by
  have := List.any_eq_false.1 h z ((hW.2 i h1 hi z).2 h3)
  exact this (by simpa using (hW.2 k h2 hk z).2 h4)
theorem common_yes {W : List (List ByteArray)} {i k : Nat} (hW : NmL l W) (h1 : i < W.length) (h2 : k < W.length) (hi : i < l.length) (hk : k < l.length) (h : (W[i].any fun x => decide (x ∈ W[k])) = true) : Lnk l i k := by
  obtain ⟨z, hz, hz2⟩ := List.any_eq_true.1 h
  exact .one hi hk ((hW.2 i h1 hi z).1 hz) ((hW.2 k h2 hk z).1 (by simpa using hz2))
/-- the same for all pairs up to one -/
def ShTo (l : List Rep) (F : List Nat) (i k : Nat) : Prop := ∀ i' k', (i' < i ∨ (i' = i ∧ k' < k)) → k' < i' → ShOk l F i' k'
theorem ShTo.zero : ShTo l F 0 0 := fun i' k' h _ => by omega
theorem ShTo.next {k : Nat} (h : ShTo l F i k) (hs : ShOk l F i k) : ShTo l F i (k + 1) := fun i' k' h1 h2 => by
  by_cases e : i' = i ∧ k' = k
  · rw [e.1, e.2]; exact hs
  · exact h i' k' (by omega) h2
theorem ShTo.row (h : ShTo l F i i) : ShTo l F (i + 1) 0 := fun i' k' h1 h2 => h i' k' (by omega) h2
theorem ShTo.rts (hF : Lea l F) (h : ShTo l F l.length 0) : Rts l (leaR F) := hF.rts fun i k h1 h2 h3 h4 h5 => h i k (.inl h3) h5 h1 h2 h3 h4
/-- the names of the reports so far -/
def NmQ (l : List Rep) (Q : List LsS) : Prop := ∀ k (h : k < Q.length) (h2 : k < l.length), NamesOf l[k] Q[k].2
theorem NmQ.nil : NmQ l [] := fun k h => by cases h
theorem NmQ.next {Q : List LsS} {x : LsS} (h : NmQ l Q) (hQ : Q.length = i) (hi : i < l.length) (hn : NamesOf l[i] x.2) : NmQ l (Q ++ [x]) := fun k h1 h2 => by
  subst hQ
  rcases Nat.lt_or_ge k Q.length with hk | hk
  · rw [List.getElem_append_left hk]; exact h k hk h2
  · obtain rfl : k = Q.length := by rw [List.length_append, List.length_singleton] at h1; omega
    rw [List.getElem_append_right (Nat.le_refl _)]; simpa using hn
theorem NmQ.nml {Q : List LsS} (h : NmQ l Q) (hl : Q.length = l.length) : NmL l (Q.map Prod.snd) := ⟨by simp [hl], fun i h1 h2 z => by
  rw [List.getElem_map]
  exact nm_of (h i (by simpa using h1) h2) z⟩
theorem leaR_eq {R : Nat → Nat} (h : leaR F = R) (hi : i < F.length) : F[i] = R i := by rw [← h, leaR_at hi]
theorem roots_yes {R : Nat → Nat} {n : Nat} (h : R n = n) : rootsN R (n + 1) = rootsN R n ++ [n] := by rw [roots_succ, if_pos h]
theorem roots_no {R : Nat → Nat} {n : Nat} (h : ¬ R n = n) : rootsN R (n + 1) = rootsN R n := by rw [roots_succ, if_neg h]
theorem memb_yes {R : Nat → Nat} {n r : Nat} (h : R n = r) : membN R (n + 1) r = membN R n r ++ [n] := by rw [memb_succ, if_pos h]
theorem memb_no {R : Nat → Nat} {n r : Nat} (h : ¬ R n = r) : membN R (n + 1) r = membN R n r := by rw [memb_succ, if_neg h]
theorem roots_le {R : Nat → Nat} {n : Nat} : (rootsN R n).length ≤ n := by
  unfold rootsN
  exact Nat.le_trans (List.length_filter_le _ _) (by simp)
end
end Go.Sx

