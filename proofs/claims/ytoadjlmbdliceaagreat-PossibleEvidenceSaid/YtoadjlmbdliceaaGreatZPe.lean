/- The library of a symbolic run and the walks: merged. -/
import Derived.Test.YtoadjlmbdliceaaGreatZPd
/- Walks, printed by a program out of the code of the functions: each theorem is a contract of one function. -/
namespace Go.Proofs.YtoadjlmbdliceaaGreat
open Go Go.Sx
set_option linter.all false
set_option maxRecDepth 20000
set_option maxHeartbeats 4000000
theorem ref17Few (I : IMap) (v : Value) (l : List Rep) (hv : RdS I v l) (n : Int) (hn : n ≤ 1000000) :
    FnV Tryz.prog 59 #[v, .int .i64 n] I (.bool (few17 l n)) := by
 refine enter Tryz.func59 Tryz.call59 rfl Tryz.ntmps59 rfl (fun w0 => ?_)
 refine go 10 ?_
 refine o_callV (ref13Few _ v l hv n) rfl rfl ?_
 refine go 1 ?_
 refine sxb 8 rfl (fun h8 p8 => ?_) (fun h8 p8 => ?_)
 ·refine go 2 ?_
  refine o_yes rfl rfl h8 (o_callV (ref13Ways _ v l hv (by have := (fewR_sm h8).2; omega) (fewR_sm h8).1 729 (by omega)) rfl rfl ?_)
  refine go 6 ?_
  refine fin1 rfl rfl ?_
  exact q_v (congrArg Value.bool (by simp only [few17, h8, bS]))
 ·refine go 8 ?_
  refine fin1 rfl rfl ?_
  exact q_v (congrArg Value.bool (by simp only [few17, h8, bS]))

theorem law17few (I : IMap) (vc : Value) (c : List Kind) (hvc : RdS I vc c) (v : Value) (l : List Rep) (hv : RdS I v l)  :
    FnV Tryz.prog 36 #[.agg #[vc], v] I (.bool (fewC c && few17 l 25)) := by
 refine enter Tryz.func36 Tryz.call36 rfl Tryz.ntmps36 rfl (fun w0 => ?_)
 refine go 3 ?_
 refine o_box _ rfl rfl rfl (fun g2 => ?_)
 refine go 7 ?_
 refine o_callV (refFew _ vc c hvc) rfl rfl ?_
 refine go 1 ?_
 refine sxb 7 rfl (fun h7 p7 => ?_) (fun h7 p7 => ?_)
 ·refine go 2 ?_
  refine o_yes rfl rfl h7 (o_callV (ref17Few _ v l hv 25 (by omega)) rfl rfl ?_)
  refine go 5 ?_
  refine fin1 rfl rfl ?_
  exact q_v (congrArg Value.bool (by simp only [h7, bS]))
 ·refine go 7 ?_
  refine fin1 rfl rfl ?_
  exact q_v (congrArg Value.bool (by simp only [h7, bS]))

theorem ref14Ints (I : IMap) (v : Value) (l : List Int) (hv : RdS I v l) (w : Value) (m : List Int) (hw : RdS I w m) :
    FnV Tryz.prog 42 #[v, w] I (.bool (decide (l = m))) := by
 obtain ⟨A, c0, rfl, hA, hc, hm⟩ := hv
 obtain ⟨B, c1, rfl, hB, hc1, hm1⟩ := hw
 refine enter Tryz.func42 Tryz.call42 rfl Tryz.ntmps42 rfl (fun w0 => ?_)
 refine go 15 ?_
 refine cb rfl (fun h10 p10 => ?_) (fun h10 p10 => ?_)
 ·refine go 7 ?_
  refine fin1 rfl rfl ?_
  exact q_v (congrArg Value.bool (decide_eq_false (by rintro rfl; revert h10; simp)).symm)
 ·have hlm : l.length = m.length := by revert h10; simp; omega
  refine go 9 ?_
  refine c_loop (α := Nat) 0 (fun i => I)
   (fun i => [(0, .slice A l.length c0), (1, .slice B m.length c1), (5, .int .i64 ((i : Nat) : Int))])
   (fun i => [])
   (fun i => i ≤ l.length ∧ l.take i = m.take i)
   (fun i => l.length - i) ⟨Nat.zero_le _, rfl⟩ rfl sb rfl ?_
  intro i ⟨hi, hn⟩
  refine go 9 ?_
  refine cb rfl (fun h14 p14 => ?_) (fun h14 p14 => ?_)
  ·have hlt : i < l.length := by omega
   have hlt2 : i < m.length := by omega
   refine go 5 ?_
   refine d_startH T.mixed ?_
   refine d_tv 0 rfl rfl (by kernel_rfl) rfl .slnil rfl (v_move rfl) ?_
   refine d_tv 1 rfl rfl (by kernel_rfl) rfl .slnil rfl (v_move rfl) ?_
   obtain ⟨b19, o19, w19, e19, c19, r19⟩ := RdA.at_ hA (i := i) (by omega)
   obtain rfl := r19
   refine d_tv 2 rfl rfl (by kernel_rfl) rfl .slnil rfl (v_idx he rfl rfl e19 (i) (by omega) (by omega)) ?_
   refine d_tv 3 rfl rfl (by kernel_rfl) rfl .slnil rfl (v_ldI he rfl (c19 0 _ rfl)) ?_
   refine d_tv 4 rfl rfl (by kernel_rfl) rfl .slnil rfl (v_move rfl) ?_
   refine d_tv 5 rfl rfl (by kernel_rfl) rfl .slnil rfl (v_move rfl) ?_
   obtain ⟨b23, o23, w23, e23, c23, r23⟩ := RdA.at_ hB (i := i) (by omega)
   obtain rfl := r23
   refine d_tv 6 rfl rfl (by kernel_rfl) rfl .slnil rfl (v_idx he rfl rfl e23 (i) (by omega) (by omega)) ?_
   refine d_tv 7 rfl rfl (by kernel_rfl) rfl .slnil rfl (v_ldI he rfl (c23 0 _ rfl)) ?_
   refine d_tv 8 rfl rfl (by kernel_rfl) rfl .slnil rfl (v_neq rfl rfl) ?_
   refine d_done (by kernel_rfl) ?_
   refine go 1 ?_
   refine cb rfl (fun h25 p25 => ?_) (fun h25 p25 => ?_)
   ·refine go 11 ?_
    refine fin1 rfl rfl ?_
    exact q_v (congrArg Value.bool (same_no hlt hlt2 (by simpa using h25)).symm)
   ·refine go 9 ?_
    exact q_next (i + 1) ⟨by omega, same_next hlt hlt2 hn (by simpa using h25)⟩ (by omega) rfl sb rfl
  ·refine go 11 ?_
   refine fin1 rfl rfl ?_
   exact q_v (congrArg Value.bool (decide_eq_true (same_end hlm (by omega) hn)).symm)

theorem ref17Same (I : IMap) (v : Value) (l : List (List Bool)) (hv : RdS I v l) (w : Value) (m : List (List Bool)) (hw : RdS I w m) :
    FnV Tryz.prog 41 #[v, w] I (.bool (decide (l = m))) := by
 obtain ⟨A, c0, rfl, hA, hc, hm⟩ := hv
 obtain ⟨B, c1, rfl, hB, hc1, hm1⟩ := hw
 refine enter Tryz.func41 Tryz.call41 rfl Tryz.ntmps41 rfl (fun w0 => ?_)
 refine go 15 ?_
 refine cb rfl (fun h11 p11 => ?_) (fun h11 p11 => ?_)
 ·refine go 7 ?_
  refine fin1 rfl rfl ?_
  exact q_v (congrArg Value.bool (decide_eq_false (by rintro rfl; revert h11; simp)).symm)
 ·have hlm : l.length = m.length := by revert h11; simp; omega
  refine go 9 ?_
  refine c_loop (α := Nat) 0 (fun i => I)
   (fun i => [(0, .slice A l.length c0), (1, .slice B m.length c1), (5, .int .i64 ((i : Nat) : Int))])
   (fun i => [])
   (fun i => i ≤ l.length ∧ l.take i = m.take i)
   (fun i => l.length - i) ⟨Nat.zero_le _, rfl⟩ rfl sb rfl ?_
  intro i ⟨hi, hn⟩
  refine go 9 ?_
  refine cb rfl (fun h15 p15 => ?_) (fun h15 p15 => ?_)
  ·have hlt : i < l.length := by omega
   have hlt2 : i < m.length := by omega
   refine go 6 ?_
   refine d_startH T.mixed ?_
   refine d_tv 0 rfl rfl (by kernel_rfl) rfl .slnil rfl (v_move rfl) ?_
   refine d_tv 1 rfl rfl (by kernel_rfl) rfl .slnil rfl (v_move rfl) ?_
   obtain ⟨b20, o20, w20, e20, c20, r20⟩ := RdA.at_ hA (i := i) (by omega)
   obtain ⟨q20, rfl, S20, d20, rfl, hS20, hd20, hm20⟩ := r20
   refine d_tv 2 rfl rfl (by kernel_rfl) rfl .slnil rfl (v_idx he rfl rfl e20 (i) (by omega) (by omega)) ?_
   refine d_tv 3 rfl rfl (by kernel_rfl) rfl .slnil rfl (v_ldI he rfl (c20 0 _ rfl)) ?_
   refine d_tv 4 rfl rfl (by kernel_rfl) rfl .slnil rfl (v_len_slice he rfl) ?_
   refine d_tv 5 rfl rfl (by kernel_rfl) rfl .slnil rfl (v_move rfl) ?_
   refine d_tv 6 rfl rfl (by kernel_rfl) rfl .slnil rfl (v_move rfl) ?_
   obtain ⟨b25, o25, w25, e25, c25, r25⟩ := RdA.at_ hB (i := i) (by omega)
   obtain ⟨q25, rfl, S25, d25, rfl, hS25, hd25, hm25⟩ := r25
   refine d_tv 7 rfl rfl (by kernel_rfl) rfl .slnil rfl (v_idx he rfl rfl e25 (i) (by omega) (by omega)) ?_
   refine d_tv 8 rfl rfl (by kernel_rfl) rfl .slnil rfl (v_ldI he rfl (c25 0 _ rfl)) ?_
   refine d_tv 9 rfl rfl (by kernel_rfl) rfl .slnil rfl (v_len_slice he rfl) ?_
   refine d_tv 10 rfl rfl (by kernel_rfl) rfl .slnil rfl (v_neq rfl rfl) ?_
   refine d_done (by kernel_rfl) ?_
   refine go 1 ?_
   refine cb rfl (fun h28 p28 => ?_) (fun h28 p28 => ?_)
   ·refine go 12 ?_
    refine fin1 rfl rfl ?_
    exact q_v (congrArg Value.bool (same_no hlt hlt2 (decide_eq_false fun e => by rw [e] at h28; simp at h28)).symm)
   ·have hrl : l[i].length = m[i].length := by revert h28; simp; omega
    refine go 8 ?_
    refine c_loop (α := Nat) 0 (fun j => I)
     (fun j => [(0, .slice A l.length c0), (1, .slice B m.length c1), (5, .int .i64 ((i : Nat) : Int)), (6, .int .i64 ((j : Nat) : Int))])
     (fun j => [])
     (fun j => j ≤ l[i].length ∧ l[i].take j = m[i].take j)
     (fun j => l[i].length - j) ⟨Nat.zero_le _, rfl⟩ rfl sb rfl ?_
    intro j ⟨hj, hq⟩
    refine go 6 ?_
    obtain ⟨b32, o32, w32, e32, c32, r32⟩ := RdA.at_ hA (i := i) (by omega)
    obtain ⟨q32, rfl, S32, d32, rfl, hS32, hd32, hm32⟩ := r32
    refine o_v rfl (v_idx he rfl rfl e32 (i) (by omega) (by omega)) ?_
    refine o_v rfl (v_ldI he rfl (c32 0 _ rfl)) ?_
    refine go 4 ?_
    refine cb rfl (fun h35 p35 => ?_) (fun h35 p35 => ?_)
    ·have hlj : j < l[i].length := by omega
     have hlj2 : j < m[i].length := by omega
     refine go 5 ?_
     refine d_startH T.mixed ?_
     refine d_tv 0 rfl rfl (by kernel_rfl) rfl .slnil rfl (v_move rfl) ?_
     refine d_tv 1 rfl rfl (by kernel_rfl) rfl .slnil rfl (v_move rfl) ?_
     obtain ⟨b40, o40, w40, e40, c40, r40⟩ := RdA.at_ hA (i := i) (by omega)
     obtain ⟨q40, rfl, S40, d40, rfl, hS40, hd40, hm40⟩ := r40
     refine d_tv 2 rfl rfl (by kernel_rfl) rfl .slnil rfl (v_idx he rfl rfl e40 (i) (by omega) (by omega)) ?_
     refine d_tv 3 rfl rfl (by kernel_rfl) rfl .slnil rfl (v_ldI he rfl (c40 0 _ rfl)) ?_
     refine d_tv 4 rfl rfl (by kernel_rfl) rfl .slnil rfl (v_move rfl) ?_
     obtain ⟨b43, o43, w43, e43, c43, r43⟩ := RdA.at_ hS40 (i := j) (by omega)
     obtain rfl := r43
     refine d_tv 5 rfl rfl (by kernel_rfl) rfl .slnil rfl (v_idx he rfl rfl e43 (j) (by omega) (by omega)) ?_
     refine d_tv 6 rfl rfl (by kernel_rfl) rfl .slnil rfl (v_ldI he rfl (c43 0 _ rfl)) ?_
     refine d_tv 7 rfl rfl (by kernel_rfl) rfl .slnil rfl (v_move rfl) ?_
     refine d_tv 8 rfl rfl (by kernel_rfl) rfl .slnil rfl (v_move rfl) ?_
     obtain ⟨b47, o47, w47, e47, c47, r47⟩ := RdA.at_ hB (i := i) (by omega)
     obtain ⟨q47, rfl, S47, d47, rfl, hS47, hd47, hm47⟩ := r47
     refine d_tv 9 rfl rfl (by kernel_rfl) rfl .slnil rfl (v_idx he rfl rfl e47 (i) (by omega) (by omega)) ?_
     refine d_tv 10 rfl rfl (by kernel_rfl) rfl .slnil rfl (v_ldI he rfl (c47 0 _ rfl)) ?_
     refine d_tv 11 rfl rfl (by kernel_rfl) rfl .slnil rfl (v_move rfl) ?_
     obtain ⟨b50, o50, w50, e50, c50, r50⟩ := RdA.at_ hS47 (i := j) (by omega)
     obtain rfl := r50
     refine d_tv 12 rfl rfl (by kernel_rfl) rfl .slnil rfl (v_idx he rfl rfl e50 (j) (by omega) (by omega)) ?_
     refine d_tv 13 rfl rfl (by kernel_rfl) rfl .slnil rfl (v_ldI he rfl (c50 0 _ rfl)) ?_
     refine d_tv 14 rfl rfl (by kernel_rfl) rfl .slnil rfl (v_bneq he rfl rfl) ?_
     refine d_done (by kernel_rfl) ?_
     refine go 1 ?_
     refine cb rfl (fun h52 p52 => ?_) (fun h52 p52 => ?_)
     ·refine go 15 ?_
      refine fin1 rfl rfl ?_
      exact q_v (congrArg Value.bool (same_no hlt hlt2 (decide_eq_false fun e => by simp only [e] at h52; simp at h52)).symm)
     ·refine go 9 ?_
      exact q_next (j + 1) ⟨by omega, same_next hlj hlj2 hq (by simpa using h52)⟩ (by omega) rfl sb rfl
    ·refine go 12 ?_
     exact q_next (i + 1) ⟨by omega, same_next hlt hlt2 hn (same_end hrl (by omega) hq)⟩ (by omega) rfl sb rfl
  ·refine go 11 ?_
   refine fin1 rfl rfl ?_
   exact q_v (congrArg Value.bool (decide_eq_true (same_end hlm (by omega) hn)).symm)

theorem eqInts14 (I : IMap) (v : Value) (l : List (Int)) (hv : RdS I v l) (w : Value) (hw : RdS I w l) : FnV Tryz.prog 42 #[v, w] I (.bool true) := by
  have := ref14Ints I v l hv w l hw
  rwa [decide_eq_true rfl] at this

theorem eqSame17 (I : IMap) (v : Value) (l : List (List Bool)) (hv : RdS I v l) (w : Value) (hw : RdS I w l) : FnV Tryz.prog 41 #[v, w] I (.bool true) := by
  have := ref17Same I v l hv w l hw
  rwa [decide_eq_true rfl] at this

theorem fit17 (I : IMap) (p : ByteArray) :
    FnV Tryz.prog 96 #[.string p] I (.agg (pxFit p).cells.toArray) := by
 refine enter Tryz.func96 Tryz.call96 rfl Tryz.ntmps96 rfl (fun w0 => ?_)
 refine go 3 ?_
 refine o_alloc he rfl (fun g2 => ?_)
 refine go 6 ?_
 refine o_val rfl (v_build (pl := [(0, 1), (1, 1), (2, 1), (3, 1), (4, 1), (5, 1), (6, 1), (7, 1), (8, 6)]) he he rfl rfl) ?_
 refine go 1 ?_
 refine o_stw _ he rfl rfl rfl rfl rfl rfl ?_
 refine go 3 ?_
 refine fin1 rfl ⟨_, _, _, rfl, m0, .inr ⟨_, he, rfl, rfl⟩⟩ ?_
 exact q_v rfl

theorem sample17 (I : IMap) :
    FnI Tryz.prog 58 #[] I (fun u J => ∃ vc v, u = .tuple #[.agg #[vc], v] ∧ RdS J vc pxC ∧ RdS J v pxL) := by
 refine enter Tryz.func58 Tryz.call58 rfl Tryz.ntmps58 rfl (fun w0 => ?_)
 refine go 3 ?_
 refine o_alloc he rfl (fun g0 => ?_)
 refine go 6 ?_
 refine o_val rfl (v_build (pl := [(0, 1), (1, 1), (2, 1)]) he he rfl rfl) ?_
 refine go 1 ?_
 refine o_buildSlice he he rfl rfl rfl rfl rfl rfl rfl (fun v5 => ?_)
 refine sx_pubrow (l := [pMotor]) rfl rfl (.one rfl) (fun I5 j5 R5 => ?_)
 have R5s := R5
 obtain ⟨A5, c5, rfl, _⟩ := R5s
 refine go 1 ?_
 refine o_val rfl (v_build (pl := [(0, 1), (1, 1), (2, 1)]) he he rfl rfl) ?_
 refine go 1 ?_
 refine o_buildSlice he he rfl rfl rfl rfl rfl rfl rfl (fun v7 => ?_)
 refine sx_pubrow (l := [(⟨pM, [pMotor], 1⟩ : Slot)]) rfl rfl (.one ⟨_, rfl, R5⟩) (fun I7 j7 R7 => ?_)
 try have R5 := R5.le j7
 have R7s := R7
 obtain ⟨A7, c7, rfl, _⟩ := R7s
 refine go 1 ?_
 refine o_val rfl (v_build (pl := [(0, 1), (1, 1), (2, 1)]) he he rfl rfl) ?_
 refine go 1 ?_
 refine o_buildSlice he he rfl rfl rfl rfl rfl rfl rfl (fun v9 => ?_)
 refine sx_pubrow (l := pxC) rfl rfl (.cons ⟨_, rfl, RdS.nil'⟩ (.one ⟨_, rfl, R7⟩)) (fun I9 j9 R9 => ?_)
 try have R5 := R5.le j9
 try have R7 := R7.le j9
 have R9s := R9
 obtain ⟨A9, c9, rfl, _⟩ := R9s
 refine go 1 ?_
 refine o_val rfl (v_build (pl := [(0, 1)]) he he rfl rfl) ?_
 refine go 1 ?_
 refine o_alloc he rfl (fun g2 => ?_)
 refine go 1 ?_
 refine o_stw _ he rfl rfl rfl rfl rfl rfl ?_
 refine go 3 ?_
 refine c_cutL (L' := [(0, .pointer (some ⟨g0, 0, none⟩)), (2, .pointer (some ⟨g2, 0, none⟩)), (3, .func (.func 96) #[] #[])]) ?_ ?_
 ·refine go 4 ?_
  exact q_cut sb rfl rfl
 ·refine go 1 ?_
  refine bring1 ?_
  refine sx_knowI (fun hE3 hf3 => ?_)
  refine d_start1 T.mixed ?_
  refine d_tv 0 rfl rfl (by kernel_rfl) rfl (.cons _ (.refl _)) rfl (v_ldw m0 he rfl rfl) ?_
  refine d_tv 1 rfl rfl (by kernel_rfl) rfl (.cons _ (.refl _)) rfl (v_build (pl := [(0, 1), (1, 1), (2, 1), (3, 1), (4, 1), (5, 1), (6, 1), (7, 1), (8, 6)]) he he rfl rfl) ?_
  refine d_tv 4 rfl rfl (by kernel_rfl) rfl (.cons _ (.refl _)) rfl (v_build (pl := [(0, 1), (1, 1), (2, 1), (3, 1), (4, 1), (5, 1), (6, 1), (7, 1), (8, 6)]) he he rfl rfl) ?_
  refine d_tv 7 rfl rfl (by kernel_rfl) rfl (.cons _ (.refl _)) rfl (v_move rfl) ?_
  refine d_tv 9 rfl rfl (by kernel_rfl) rfl (.cons _ (.refl _)) rfl (v_move rfl) ?_
  refine d_tv 13 rfl rfl (by kernel_rfl) rfl (.cons _ (.refl _)) rfl (v_build (pl := [(0, 1), (1, 1), (2, 1), (3, 1), (4, 1), (5, 1), (6, 1), (7, 1), (8, 6)]) he he rfl rfl) ?_
  refine d_bag (H1 := [.blk g0 24 [.slice A9 pxC.length c9], .blk g2 24 [.slice A9 pxC.length c9]]) [⟨2, 13, [], fun J v => RdS J v [pxMade pM1 pMotor]⟩, ⟨3, 14, [(2, 13)], fun J v => ∃ s, v = .agg #[s, .bool false] ∧ RdS J s [pxMade pM1 pMotor]⟩, ⟨5, 16, [], fun J v => RdS J v [pxMade pV1 pCoach]⟩, ⟨6, 17, [(5, 16)], fun J v => ∃ s, v = .agg #[s, .bool false] ∧ RdS J s [pxMade pV1 pCoach]⟩, ⟨8, 19, [], fun J v => v = .agg (pxFit pM1).cells.toArray⟩, ⟨10, 21, [], fun J v => v = .agg (pxFit pM2).cells.toArray⟩, ⟨11, 22, [(8, 19), (10, 21)], fun J v => RdS J v [pxFit pM1, pxFit pM2]⟩, ⟨12, 23, [(11, 22)], fun J v => ∃ s, v = .agg #[s, .bool false] ∧ RdS J s [pxFit pM1, pxFit pM2]⟩, ⟨14, 25, [], fun J v => RdS J v [pxScrap pM1]⟩, ⟨15, 26, [(14, 25)], fun J v => ∃ s, v = .agg #[s, .bool true] ∧ RdS J s [pxScrap pM1]⟩, ⟨16, 27, [(3, 14), (6, 17), (12, 23), (15, 26)], fun J v => RdS J v pxL⟩, ⟨18, 1, [(16, 27)], fun J v => RdS J v pxL⟩] (some 17) (by kernel_rfl) ⟨fun I1 I2 v hI h => h.le hI, fun I1 I2 v hI ⟨s, e, h⟩ => ⟨s, e, h.le hI⟩, fun I1 I2 v hI h => h.le hI, fun I1 I2 v hI ⟨s, e, h⟩ => ⟨s, e, h.le hI⟩, fun I1 I2 v hI h => h, fun I1 I2 v hI h => h, fun I1 I2 v hI h => h.le hI, fun I1 I2 v hI ⟨s, e, h⟩ => ⟨s, e, h.le hI⟩, fun I1 I2 v hI h => h.le hI, fun I1 I2 v hI ⟨s, e, h⟩ => ⟨s, e, h.le hI⟩, fun I1 I2 v hI h => h.le hI, fun I1 I2 v hI h => h.le hI, trivial⟩ (by repeat' first | exact trivial | refine ⟨rfl, ?_⟩) (fun i h => by cases h; rfl) (fun I2 w hI m => m.keepsI (.cons _ (.refl _)) hI hE3 hf3) (fun i h => by cases h; exact fun I2 w hI m => m.keepsI (.cons _ (.refl _)) hI hE3 hf3) ⟨?_, ?_, ?_, ?_, ?_, ?_, ?_, ?_, ?_, ?_, ?_, ?_, trivial⟩ ?_ ?_
  ·intro I2 V X H o hI ho hd K k
   cases ho
   refine o_buildSlice he he rfl rfl rfl rfl rfl rfl rfl (fun v13 => ?_)
   refine sx_pubrow (l := [pxMade pM1 pMotor]) rfl rfl (.one rfl) (fun I13 j13 R13 => ?_)
   exact k _ _ (j13) (R13)
  ·intro I2 V X H o hI ho hd K k
   cases ho
   obtain ⟨e13, e14, e16, e17, e19, e21, e22, e23, e25, e26, e27, e1, _⟩ := hd
   have f13 := e13 rfl
   revert k
   show (∀ v I3, ILe I2 I3 → _ → SX _ _ _ (_ :: ((13, V 2) :: (_ ++ _))) _ _) → SX _ _ _ ((13, V 2) :: (_ ++ _)) _ _
   obtain ⟨A13, c13, hq13, _⟩ := id f13
   rw [hq13] at f13 ⊢
   intro k
   refine o_val rfl (v_build (pl := [(0, 1), (1, 1)]) he he rfl rfl) ?_
   exact k _ _ (ILe.refl _) (⟨_, rfl, f13⟩)
  ·intro I2 V X H o hI ho hd K k
   cases ho
   refine o_buildSlice he he rfl rfl rfl rfl rfl rfl rfl (fun v16 => ?_)
   refine sx_pubrow (l := [pxMade pV1 pCoach]) rfl rfl (.one rfl) (fun I16 j16 R16 => ?_)
   exact k _ _ (j16) (R16)
  ·intro I2 V X H o hI ho hd K k
   cases ho
   obtain ⟨e13, e14, e16, e17, e19, e21, e22, e23, e25, e26, e27, e1, _⟩ := hd
   have f16 := e16 rfl
   revert k
   show (∀ v I3, ILe I2 I3 → _ → SX _ _ _ (_ :: ((16, V 5) :: (_ ++ _))) _ _) → SX _ _ _ ((16, V 5) :: (_ ++ _)) _ _
   obtain ⟨A16, c16, hq16, _⟩ := id f16
   rw [hq16] at f16 ⊢
   intro k
   refine o_val rfl (v_build (pl := [(0, 1), (1, 1)]) he he rfl rfl) ?_
   exact k _ _ (ILe.refl _) (⟨_, rfl, f16⟩)
  ·intro I2 V X H o hI ho hd K k
   cases ho
   refine o_callV (fit17 _ pM1) rfl rfl ?_
   exact k _ _ (ILe.refl _) (rfl)
  ·intro I2 V X H o hI ho hd K k
   cases ho
   refine o_callV (fit17 _ pM2) rfl rfl ?_
   exact k _ _ (ILe.refl _) (rfl)
  ·intro I2 V X H o hI ho hd K k
   cases ho
   obtain ⟨e13, e14, e16, e17, e19, e21, e22, e23, e25, e26, e27, e1, _⟩ := hd
   have f19 := e19 rfl
   have f21 := e21 rfl
   revert k
   show (∀ v I3, ILe I2 I3 → _ → SX _ _ _ (_ :: ((19, V 8) :: (21, V 10) :: (_ ++ _))) _ _) → SX _ _ _ ((19, V 8) :: (21, V 10) :: (_ ++ _)) _ _
   rw [f19, f21]
   intro k
   refine o_buildSlice he he rfl rfl rfl rfl rfl rfl rfl (fun v22 => ?_)
   refine sx_pubrow (l := [pxFit pM1, pxFit pM2]) rfl rfl (.cons rfl (.one rfl)) (fun I22 j22 R22 => ?_)
   exact k _ _ (j22) (R22)
  ·intro I2 V X H o hI ho hd K k
   cases ho
   obtain ⟨e13, e14, e16, e17, e19, e21, e22, e23, e25, e26, e27, e1, _⟩ := hd
   have f22 := e22 rfl
   revert k
   show (∀ v I3, ILe I2 I3 → _ → SX _ _ _ (_ :: ((22, V 11) :: (_ ++ _))) _ _) → SX _ _ _ ((22, V 11) :: (_ ++ _)) _ _
   obtain ⟨A22, c22, hq22, _⟩ := id f22
   rw [hq22] at f22 ⊢
   intro k
   refine o_val rfl (v_build (pl := [(0, 1), (1, 1)]) he he rfl rfl) ?_
   exact k _ _ (ILe.refl _) (⟨_, rfl, f22⟩)
  ·intro I2 V X H o hI ho hd K k
   cases ho
   refine o_buildSlice he he rfl rfl rfl rfl rfl rfl rfl (fun v25 => ?_)
   refine sx_pubrow (l := [pxScrap pM1]) rfl rfl (.one rfl) (fun I25 j25 R25 => ?_)
   exact k _ _ (j25) (R25)
  ·intro I2 V X H o hI ho hd K k
   cases ho
   obtain ⟨e13, e14, e16, e17, e19, e21, e22, e23, e25, e26, e27, e1, _⟩ := hd
   have f25 := e25 rfl
   revert k
   show (∀ v I3, ILe I2 I3 → _ → SX _ _ _ (_ :: ((25, V 14) :: (_ ++ _))) _ _) → SX _ _ _ ((25, V 14) :: (_ ++ _)) _ _
   obtain ⟨A25, c25, hq25, _⟩ := id f25
   rw [hq25] at f25 ⊢
   intro k
   refine o_val rfl (v_build (pl := [(0, 1), (1, 1)]) he he rfl rfl) ?_
   exact k _ _ (ILe.refl _) (⟨_, rfl, f25⟩)
  ·intro I2 V X H o hI ho hd K k
   cases ho
   obtain ⟨e13, e14, e16, e17, e19, e21, e22, e23, e25, e26, e27, e1, _⟩ := hd
   have f14 := e14 rfl
   have f17 := e17 rfl
   have f23 := e23 rfl
   have f26 := e26 rfl
   revert k
   show (∀ v I3, ILe I2 I3 → _ → SX _ _ _ (_ :: ((14, V 3) :: (17, V 6) :: (23, V 12) :: (26, V 15) :: (_ ++ _))) _ _) → SX _ _ _ ((14, V 3) :: (17, V 6) :: (23, V 12) :: (26, V 15) :: (_ ++ _)) _ _
   obtain ⟨s14, h14, r14⟩ := f14
   obtain ⟨A14, c14, hq14, _⟩ := id r14
   rw [hq14] at r14 h14
   rw [h14]
   obtain ⟨s17, h17, r17⟩ := f17
   obtain ⟨A17, c17, hq17, _⟩ := id r17
   rw [hq17] at r17 h17
   rw [h17]
   obtain ⟨s23, h23, r23⟩ := f23
   obtain ⟨A23, c23, hq23, _⟩ := id r23
   rw [hq23] at r23 h23
   rw [h23]
   obtain ⟨s26, h26, r26⟩ := f26
   obtain ⟨A26, c26, hq26, _⟩ := id r26
   rw [hq26] at r26 h26
   rw [h26]
   intro k
   refine o_buildSlice he he rfl rfl rfl rfl rfl rfl rfl (fun v27 => ?_)
   refine sx_roweq (ys := [.slice A14 1 c14, .bool false] ++ ([.slice A17 1 c17, .bool false] ++ ([.slice A23 2 c23, .bool false] ++ [.slice A26 1 c26, .bool true]))) (rfl) ?_
   refine sx_pubrow (l := pxL) rfl rfl (.cons ⟨_, rfl, r14⟩ (.cons ⟨_, rfl, r17⟩ (.cons ⟨_, rfl, r23⟩ (.one ⟨_, rfl, r26⟩)))) (fun I27 j27 R27 => ?_)
   exact k _ _ (j27) (R27)
  ·intro I2 V X H o hI ho hd K k
   cases ho
   obtain ⟨e13, e14, e16, e17, e19, e21, e22, e23, e25, e26, e27, e1, _⟩ := hd
   have f27 := e27 rfl
   revert k
   show (∀ v I3, ILe I2 I3 → _ → SX _ _ _ (_ :: ((27, V 16) :: (_ ++ _))) _ _) → SX _ _ _ ((27, V 16) :: (_ ++ _)) _ _
   intro k
   refine o_val rfl (v_assign rfl) ?_
   exact k _ _ (ILe.refl _) (f27)
  ·intro i h
   cases h
   intro I2 X o hI ho K k
   cases ho
   refine o_stw _ he rfl rfl rfl rfl rfl rfl ?_
   exact k
  ·intro I2 V hI hp
   obtain ⟨e13, e14, e16, e17, e19, e21, e22, e23, e25, e26, e27, e1, _⟩ := hp
   try have R9 := R9.le hI
   refine go 2 ?_
   refine fin2 rfl ⟨_, _, _, rfl, m0, .inr ⟨_, he, rfl, rfl⟩⟩ rfl ?_
   exact q_i ⟨_, _, rfl, R9, e1⟩

end Go.Proofs.YtoadjlmbdliceaaGreat

/- Walks, printed by a program out of the code of the functions: each theorem is a contract of one function. -/
namespace Go.Proofs.YtoadjlmbdliceaaGreat
open Go Go.Sx
set_option linter.all false
set_option maxRecDepth 20000
set_option maxHeartbeats 4000000
instance T.zero_4 : Has (zeroK Tryz.prog 4) [.bool false] := ⟨by kernel_rfl⟩
instance T.zero_68 : Has (zeroK Tryz.prog 68) [.slice none 0 0] := ⟨by kernel_rfl⟩
theorem possSure (I : IMap) (vc : Value) (c : List Kind) (hvc : RdS I vc c) (hsc : SmC c) (v : Value) (l : List Rep) (hv : RdS I v l) (hl : l.length ≤ 1000000) (hsl : ∀ r ∈ l, ∀ e ∈ r.options, SmE e) (h30 : l.length ≤ 30) (hw : waysN l < 4096) :
    FnI Tryz.prog 39 #[.agg #[vc], v] I (fun u J => ∃ w, u = .tuple #[w, .int .i64 (sureF c l).2] ∧ RdS J w (sureF c l).1) := by
 refine enter Tryz.func39 Tryz.call39 rfl Tryz.ntmps39 rfl (fun w0 => ?_)
 refine go 3 ?_
 refine o_box _ rfl rfl rfl (fun g2 => ?_)
 refine go 9 ?_
 refine o_call (possChoices _ vc c hvc hsc _ l hv hl hsl h30 hw) rfl rfl (fun v14 I14 j14 q14 => ?_)
 obtain ⟨w14, rfl, hw14⟩ := q14
 refine go 14 ?_
 refine cb rfl (fun h18 p18 => ?_) (fun h18 p18 => ?_)
 ·refine go 9 ?_
  refine fin2 rfl rfl rfl ?_
  exact q_i ⟨_, by rw [sure_no p18]; rfl, by rw [sure_no p18]; exact RdS.nil'⟩
 ·have h0 : (choF c l).2 = 0 := by simpa using h18
  obtain ⟨TA, tc, rfl, hTA, _, _⟩ := hw14
  have hTl := cho_len h0
  obtain ⟨A0, c0, rfl, _, _, _⟩ := hv
  refine go 7 ?_
  refine o_makeSlice he he rfl rfl rfl (by omega) (by omega) rfl (fun g22 => ?_)
  refine go 6 ?_
  refine sx_blkeq _ (intCs_rep _) ?_
  refine go 6 ?_
  refine bring1 ?_
  refine sx_drop ?_
  refine c_loop2 ((0 : Nat)) ((List.replicate l.length 0)) (fun j m => I14)
   (fun j m => [(8, .slice (some ⟨g22, 0, none⟩) l.length l.length), (23, .slice TA (choF c l).1.length tc), (24, .int .i64 (((choF c l).1.length : Nat) : Int)), (25, .int .i64 ((j : Nat) : Int))])
   (fun j m => [.blk g22 3 (intCs m)])
   (fun j m => j ≤ (choF c l).1.length ∧ m.length = l.length ∧ m.take j = ((choF c l).1.take j).map onlyF)
   (fun j m => (choF c l).1.length - j) ⟨Nat.zero_le _, by simp, rfl⟩ rfl sb rfl ?_
  intro j m ⟨hj, hml, hm⟩
  refine go 6 ?_
  refine cb rfl (fun h26 p26 => ?_) (fun h26 p26 => ?_)
  ·have hlt : j < (choF c l).1.length := by omega
   have hfl := fstT_le (choF c l).1[j]
   refine go 7 ?_
   obtain ⟨b28, o28, w28, e28, c28, r28⟩ := RdA.at_ hTA (i := j) (by omega)
   obtain ⟨q28, rfl, S28, d28, rfl, hS28, hd28, hm28⟩ := r28
   refine o_v rfl (v_idx he rfl rfl e28 (j) (by omega) (by omega)) ?_
   refine o_v rfl (v_ldI he rfl (c28 0 _ rfl)) ?_
   refine go 10 ?_
   refine o_callV (index_bool _ _ (choF c l).1[j] ⟨_, _, rfl, hS28, hd28, hm28⟩ true) rfl rfl ?_
   refine o_v rfl (v_idx he rfl rfl rfl (j) (by omega) (by omega)) ?_
   refine go 1 ?_
   refine o_st1 he rfl rfl rfl (by rw [intCs_len, Nat.blt_eq]; omega) ?_
   refine sx_blkeq (intCs (m.set j (fstT (choF c l).1[j]))) (by rw [Nat.zero_add, Nat.mul_one]; exact intCs_set _ _ _) ?_
   refine go 7 ?_
   refine o_v rfl (v_idx he rfl rfl rfl (j) (by omega) (by omega)) ?_
   refine o_v rfl (OV.cast (u := .int .i64 (fstT (choF c l).1[j])) (v_ld m0 he rfl (by rw [Nat.zero_add, Nat.mul_one]; exact intCs_at (by simp; omega))) (congrArg (Value.int .i64) (by simp))) ?_
   refine go 1 ?_
   refine o_v rfl (v_slice_lo he rfl rfl (fstT (choF c l).1[j] + 1).toNat (by omega) (by omega)) ?_
   refine go 1 ?_
   refine o_callV (contains_bool _ _ ((choF c l).1[j].drop (fstT (choF c l).1[j] + 1).toNat) (RdS.dropM (l := (choF c l).1[j]) ⟨_, _, rfl, hS28, hd28, hm28⟩ _ (by omega)) true) rfl rfl ?_
   refine go 2 ?_
   refine cb rfl (fun h42 p42 => ?_) (fun h42 p42 => ?_)
   ·refine go 3 ?_
    refine o_v rfl (v_idx he rfl rfl rfl (j) (by omega) (by omega)) ?_
    refine go 1 ?_
    refine o_st1 he rfl rfl rfl (by rw [intCs_len, Nat.blt_eq]; simp; omega) ?_
    refine sx_blkeq (intCs ((m.set j (fstT (choF c l).1[j])).set j (-1))) (by rw [Nat.zero_add, Nat.mul_one]; exact intCs_set _ _ _) ?_
    refine go 8 ?_
    exact q_next2 (j + 1) (((m.set j (fstT (choF c l).1[j])).set j (-1))) ⟨by omega, by simp [hml], by rw [List.set_set]; exact sure_step (by omega) hlt hm (if_pos h42)⟩ (by omega) rfl sb rfl
   ·refine go 8 ?_
    exact q_next2 (j + 1) ((m.set j (fstT (choF c l).1[j]))) ⟨by omega, by simp [hml], sure_step (by omega) hlt hm (if_neg (by rw [h42]; decide))⟩ (by omega) rfl sb rfl
  ·obtain rfl : j = (choF c l).1.length := by omega
   rw [List.take_length, hTl, ← hml, List.take_length] at hm
   refine go 7 ?_
   refine sx_pub (fun Ig22 jg22 cg22 => ?_)
   refine go 6 ?_
   refine fin2 rfl rfl rfl ?_
   exact q_i ⟨_, by rw [sure_yes h0], by rw [sure_yes h0, ← hm]; exact intCs_rdn cg22 hml hl⟩

theorem ref17Decided (I : IMap) (v : Value) (l : List Rep) (hv : RdS I v l) (hl : l.length ≤ 1000000) (hsl : ∀ r ∈ l, ∀ e ∈ r.options, SmE e) (i k : Nat) (hi : i < l.length) (hk6 : k ≤ 1000000) :
    FnI Tryz.prog 43 #[v, .int .i64 ((i : Nat) : Int), .int .i64 ((k : Nat) : Int)] I (fun u J => RdS J u (decF l i k l[i])) := by
 have hv0 := hv
 obtain ⟨A, c0, rfl, hA, hc, hm⟩ := hv
 refine enter Tryz.func43 Tryz.call43 rfl Tryz.ntmps43 rfl (fun w0 => ?_)
 refine go 8 ?_
 refine o_buildSlice he he rfl rfl rfl rfl rfl rfl rfl (fun v8 => ?_)
 refine go 2 ?_
 refine o_v rfl (v_slice_hi he rfl rfl i (by omega) (by omega)) ?_
 refine go 1 ?_
 refine o_appendR ((RdS.takeM (l := l) hv0 i (by omega))) rfl he he rfl rfl rfl rfl (by simp; omega) (by simp; omega) rfl (fun v12 x12 f12 => ?_)
 refine go 7 ?_
 refine o_v rfl (OV.cast (u := .bool true) (v_geq rfl rfl) (congrArg Value.bool (decide_eq_true (by omega)))) ?_
 refine go 4 ?_
 obtain ⟨b19, o19, w19, e19, c19, r19⟩ := RdA.at_ hA (i := i) (by omega)
 obtain ⟨q19, rfl, S19, d19, rfl, hS19, hd19, hm19⟩ := r19
 refine o_cons (o_yes rfl rfl rfl (o_val rfl (v_idx he rfl rfl e19 (i) (by omega) (by omega)) ?_))
 refine go 1 ?_
 refine o_cons (o_yes rfl rfl rfl (o_val rfl (v_ldI he rfl (c19 0 _ rfl)) ?_))
 refine go 5 ?_
 refine cb rfl (fun h24 p24 => ?_) (fun h24 p24 => ?_)
 ·have hk : k < l[i].options.length := by omega
  refine go 4 ?_
  obtain ⟨b28, o28, w28, e28, c28, r28⟩ := RdA.at_ hA (i := i) (by omega)
  obtain ⟨q28, rfl, S28, d28, rfl, hS28, hd28, hm28⟩ := r28
  refine o_v rfl (v_idx he rfl rfl e28 (i) (by omega) (by omega)) ?_
  refine go 1 ?_
  refine o_v rfl (v_ldI he rfl (c28 0 _ rfl)) ?_
  refine go 1 ?_
  obtain ⟨b32, o32, w32, e32, c32, r32⟩ := RdA.at_ hS28 (i := k) (by omega)
  obtain rfl := r32
  refine o_v rfl (v_idx he rfl rfl e32 (k) (by omega) (by omega)) ?_
  refine o_v rfl (v_ldIa he rfl c32 rfl) ?_
  refine go 1 ?_
  refine o_buildSlice he he rfl rfl rfl rfl rfl rfl rfl (fun v34 => ?_)
  refine sx_pubrow (l := [l[i].options[k]]) rfl rfl (.one rfl) (fun I34 j34 R34 => ?_)
  try have f12 := f12.le j34
  try have hv0 := hv0.le j34
  try have hA := hA.le j34
  have R34s := R34
  obtain ⟨A34, c34, rfl, _⟩ := R34s
  refine go 1 ?_
  refine o_val rfl (v_build (pl := [(0, 1), (1, 1)]) he he rfl rfl) ?_
  refine go 1 ?_
  refine o_buildSlice he he rfl rfl rfl rfl rfl rfl rfl (fun v36 => ?_)
  refine go 1 ?_
  refine bring1 ?_
  refine o_appendO he he rfl rfl rfl rfl rfl (by simp; omega) (by simp; omega) rfl (fun v37 => ?_)
  refine go 9 ?_
  refine o_v rfl (v_slice_lo he rfl rfl (i + 1) (by omega) (by omega)) ?_
  refine go 1 ?_
  refine o_appendR ((RdS.dropM (l := l) hv0 (i + 1) (by omega))) rfl he he rfl rfl rfl rfl (by simp; omega) (by simp; omega) rfl (fun v43 x43 f43 => ?_)
  refine sx_pubrow (l := (decF l i k l[i])) rfl (by simp only [decF, List.length_append, List.length_take, List.length_drop]; first | (rw [if_pos hk]; simp only [List.length_singleton]; omega) | (rw [if_neg hk]; simp only [List.length_nil]; omega)) ((by unfold decF; first | (rw [if_pos hk]; exact flat_three f12 (.one ⟨_, rfl, by rw [one_opts hk]; exact R34⟩) f43) | (rw [if_neg hk, List.nil_append]; exact f12.append f43))) (fun I43 j43 R43 => ?_)
  try have f12 := f12.le j43
  try have hv0 := hv0.le j43
  try have hA := hA.le j43
  refine go 4 ?_
  refine fin1 rfl rfl ?_
  exact q_i R43
 ·have hk : ¬ k < l[i].options.length := by omega
  refine go 8 ?_
  refine o_v rfl (v_slice_lo he rfl rfl (i + 1) (by omega) (by omega)) ?_
  refine go 1 ?_
  refine o_appendR ((RdS.dropM (l := l) hv0 (i + 1) (by omega))) rfl he he rfl rfl rfl rfl (by simp; omega) (by simp; omega) rfl (fun v43 x43 f43 => ?_)
  refine sx_pubrow (l := (decF l i k l[i])) rfl (by simp only [decF, List.length_append, List.length_take, List.length_drop]; first | (rw [if_pos hk]; simp only [List.length_singleton]; omega) | (rw [if_neg hk]; simp only [List.length_nil]; omega)) ((by unfold decF; first | (rw [if_pos hk]; exact flat_three f12 (.one ⟨_, rfl, by rw [one_opts hk]; exact R34⟩) f43) | (rw [if_neg hk, List.nil_append]; exact f12.append f43))) (fun I43 j43 R43 => ?_)
  try have f12 := f12.le j43
  try have hv0 := hv0.le j43
  try have hA := hA.le j43
  refine go 4 ?_
  refine fin1 rfl rfl ?_
  exact q_i R43

theorem exCho17 (I : IMap) (vc : Value) (hvc : RdS I vc pxC) (v : Value) (hv : RdS I v pxL) : FnI Tryz.prog 37 #[.agg #[vc], v] I (fun u J => ∃ w, u = .tuple #[w, .int .i64 0] ∧ RdS J w ([[true], [true], [true, false], [false, true]] : List (List Bool))) := by
  have := possChoices I vc pxC hvc px_smC v pxL hv (by decide) px_sm (by decide) (by decide +kernel)
  rw [px_cho] at this
  exact this

theorem exSure17 (I : IMap) (vc : Value) (hvc : RdS I vc pxC) (v : Value) (hv : RdS I v pxL) : FnI Tryz.prog 39 #[.agg #[vc], v] I (fun u J => ∃ w, u = .tuple #[w, .int .i64 0] ∧ RdS J w ([0, 0, 0, 1] : List Int)) := by
  have := possSure I vc pxC hvc px_smC v pxL hv (by decide) px_sm (by decide) (by decide +kernel)
  rw [px_sure] at this
  exact this

theorem exSure17b (I : IMap) (vc : Value) (hvc : RdS I vc pxC) (v : Value) (hv : RdS I v (pxL.drop 2)) : FnI Tryz.prog 39 #[.agg #[vc], v] I (fun u J => ∃ w, u = .tuple #[w, .int .i64 21] ∧ RdS J w ([] : List Int)) := by
  have := possSure I vc pxC hvc px_smC v (pxL.drop 2) hv (by decide) (fun r hr => px_sm r (List.mem_of_mem_drop hr)) (by decide) (by decide +kernel)
  rw [px_sure2] at this
  exact this

theorem head17 (I : IMap) :
    FnV Tryz.prog 35 #[] I (.bool true) := by
 refine enter Tryz.func35 Tryz.call35 rfl Tryz.ntmps35 rfl (fun w0 => ?_)
 refine go 8 ?_
 refine o_call (sample17 _) rfl rfl (fun v10 I10 j10 q10 => ?_)
 obtain ⟨vc, v, rfl, hvc, hv⟩ := q10
 have hv2 := hv
 obtain ⟨A0, c0, rfl, _⟩ := hv2
 have hv2 := (RdS.dropM (l := pxL) hv 2 (by decide))
 refine go 4 ?_
 refine o_alloc he rfl (fun g1 => ?_)
 refine go 1 ?_
 refine o_stw _ he rfl rfl rfl rfl rfl (by simp [hvc.one]) ?_
 refine go 8 ?_
 refine o_call (exCho17 _ vc hvc _ hv) rfl rfl (fun v16 I16 j16 q16 => ?_)
 try have hvc := hvc.le j16
 try have hv := hv.le j16
 try have hv2 := hv2.le j16
 try have hw16 := hw16.le j16
 try have hw22 := hw22.le j16
 try have hw29 := hw29.le j16
 try have R40 := R40.le j16
 try have R41 := R41.le j16
 try have R42 := R42.le j16
 try have R43 := R43.le j16
 obtain ⟨w16, rfl, hw16⟩ := q16
 refine go 12 ?_
 refine o_call (exSure17 _ vc hvc _ hv) rfl rfl (fun v22 I22 j22 q22 => ?_)
 try have hvc := hvc.le j22
 try have hv := hv.le j22
 try have hv2 := hv2.le j22
 try have hw16 := hw16.le j22
 try have hw22 := hw22.le j22
 try have hw29 := hw29.le j22
 try have R40 := R40.le j22
 try have R41 := R41.le j22
 try have R42 := R42.le j22
 try have R43 := R43.le j22
 obtain ⟨w22, rfl, hw22⟩ := q22
 refine go 8 ?_
 refine sx_knowI (fun hE4 hf4 => ?_)
 refine d_startH T.mixed ?_
 refine d_tv 0 rfl rfl (by kernel_rfl) rfl (.refl _) rfl (v_ldw m0 he rfl rfl) ?_
 refine d_tv 1 rfl rfl (by kernel_rfl) rfl (.refl _) rfl (v_move rfl) ?_
 refine d_tv 2 rfl rfl (by kernel_rfl) rfl (.refl _) rfl (v_slice_lo he rfl rfl 2 rfl (by decide)) ?_
 refine d_one 3 (by kernel_rfl) rfl ?_
 refine o_call (exSure17b _ vc hvc _ hv2) rfl rfl (fun v29 I29 j29 q29 => ?_)
 try have hvc := hvc.le j29
 try have hv := hv.le j29
 try have hv2 := hv2.le j29
 try have hw16 := hw16.le j29
 try have hw22 := hw22.le j29
 try have hw29 := hw29.le j29
 try have R40 := R40.le j29
 try have R41 := R41.le j29
 try have R42 := R42.le j29
 try have R43 := R43.le j29
 obtain ⟨w29, rfl, hw29⟩ := q29
 refine d_on (fun _ m => m.keepsI (.refl _) (j29) hE4 hf4) ?_
 refine d_t 4 rfl rfl (by kernel_rfl) rfl (fun _ m => m.keepsI (.refl _) (j29) hE4 hf4) (y_v rfl (v_move rfl)) ?_
 refine d_t 5 rfl rfl (by kernel_rfl) rfl (fun _ m => m.keepsI (.refl _) (j29) hE4 hf4) (y_v rfl (v_extract rfl rfl)) ?_
 refine d_t 6 rfl rfl (by kernel_rfl) rfl (fun _ m => m.keepsI (.refl _) (j29) hE4 hf4) (y_v rfl (v_extract rfl rfl)) ?_
 refine d_t 7 rfl rfl (by kernel_rfl) rfl (fun _ m => m.keepsI (.refl _) (j29) hE4 hf4) (y_v rfl (v_assign rfl)) ?_
 refine d_t 8 rfl rfl (by kernel_rfl) rfl (fun _ m => m.keepsI (.refl _) (j29) hE4 hf4) (y_v rfl (v_assign rfl)) ?_
 refine d_done (by kernel_rfl) ?_
 refine go 4 ?_
 refine o_v rfl (OV.cast (u := .bool true) (v_eql rfl rfl) (congrArg Value.bool (decide_eq_true (rfl)))) ?_
 refine go 2 ?_
 refine o_cons (o_yes rfl rfl rfl (o_val rfl (OV.cast (u := .bool true) (v_eql rfl rfl) (congrArg Value.bool (decide_eq_true (rfl)))) ?_))
 refine go 4 ?_
 refine o_yes rfl rfl rfl (o_buildSlice he he rfl rfl rfl rfl rfl rfl rfl (fun v40 => ?_))
 refine sx_roweq (ys := [.bool true]) (rfl) ?_
 refine sx_pubrow (l := ([true] : List Bool)) rfl rfl (.one rfl) (fun I40 j40 R40 => ?_)
 try have hvc := hvc.le j40
 try have hv := hv.le j40
 try have hv2 := hv2.le j40
 try have hw16 := hw16.le j40
 try have hw22 := hw22.le j40
 try have hw29 := hw29.le j40
 try have R40 := R40.le j40
 try have R41 := R41.le j40
 try have R42 := R42.le j40
 try have R43 := R43.le j40
 have R40s := R40
 obtain ⟨A40, c40, rfl, _⟩ := R40s
 refine go 1 ?_
 refine o_yes rfl rfl rfl (o_buildSlice he he rfl rfl rfl rfl rfl rfl rfl (fun v41 => ?_))
 refine sx_roweq (ys := [.bool true]) (rfl) ?_
 refine sx_pubrow (l := ([true] : List Bool)) rfl rfl (.one rfl) (fun I41 j41 R41 => ?_)
 try have hvc := hvc.le j41
 try have hv := hv.le j41
 try have hv2 := hv2.le j41
 try have hw16 := hw16.le j41
 try have hw22 := hw22.le j41
 try have hw29 := hw29.le j41
 try have R40 := R40.le j41
 try have R41 := R41.le j41
 try have R42 := R42.le j41
 try have R43 := R43.le j41
 have R41s := R41
 obtain ⟨A41, c41, rfl, _⟩ := R41s
 refine go 1 ?_
 refine o_yes rfl rfl rfl (o_buildSlice he he rfl rfl rfl rfl rfl rfl rfl (fun v42 => ?_))
 refine sx_roweq (ys := [.bool true] ++ [.bool false]) (rfl) ?_
 refine sx_pubrow (l := ([true, false] : List Bool)) rfl rfl (.cons rfl (.one rfl)) (fun I42 j42 R42 => ?_)
 try have hvc := hvc.le j42
 try have hv := hv.le j42
 try have hv2 := hv2.le j42
 try have hw16 := hw16.le j42
 try have hw22 := hw22.le j42
 try have hw29 := hw29.le j42
 try have R40 := R40.le j42
 try have R41 := R41.le j42
 try have R42 := R42.le j42
 try have R43 := R43.le j42
 have R42s := R42
 obtain ⟨A42, c42, rfl, _⟩ := R42s
 refine go 1 ?_
 refine o_yes rfl rfl rfl (o_buildSlice he he rfl rfl rfl rfl rfl rfl rfl (fun v43 => ?_))
 refine sx_roweq (ys := [.bool false] ++ [.bool true]) (rfl) ?_
 refine sx_pubrow (l := ([false, true] : List Bool)) rfl rfl (.cons rfl (.one rfl)) (fun I43 j43 R43 => ?_)
 try have hvc := hvc.le j43
 try have hv := hv.le j43
 try have hv2 := hv2.le j43
 try have hw16 := hw16.le j43
 try have hw22 := hw22.le j43
 try have hw29 := hw29.le j43
 try have R40 := R40.le j43
 try have R41 := R41.le j43
 try have R42 := R42.le j43
 try have R43 := R43.le j43
 have R43s := R43
 obtain ⟨A43, c43, rfl, _⟩ := R43s
 refine go 1 ?_
 refine o_yes rfl rfl rfl (o_buildSlice he he rfl rfl rfl rfl rfl rfl rfl (fun v44 => ?_))
 refine sx_roweq (ys := [.slice A40 1 c40] ++ ([.slice A41 1 c41] ++ ([.slice A42 2 c42] ++ [.slice A43 2 c43]))) (rfl) ?_
 refine sx_pubrow (l := ([[true], [true], [true, false], [false, true]] : List (List Bool))) rfl rfl (.cons ⟨_, rfl, R40⟩ (.cons ⟨_, rfl, R41⟩ (.cons ⟨_, rfl, R42⟩ (.one ⟨_, rfl, R43⟩)))) (fun I44 j44 R44 => ?_)
 try have hvc := hvc.le j44
 try have hv := hv.le j44
 try have hv2 := hv2.le j44
 try have hw16 := hw16.le j44
 try have hw22 := hw22.le j44
 try have hw29 := hw29.le j44
 try have R40 := R40.le j44
 try have R41 := R41.le j44
 try have R42 := R42.le j44
 try have R43 := R43.le j44
 refine go 1 ?_
 refine o_yes rfl rfl rfl (o_callV (eqSame17 _ _ _ hw16 _ R44) rfl rfl ?_)
 refine go 4 ?_
 refine o_yes rfl rfl rfl (o_buildSlice he he rfl rfl rfl rfl rfl rfl rfl (fun v49 => ?_))
 refine sx_roweq (ys := [ci 0] ++ ([ci 0] ++ ([ci 0] ++ [ci 1]))) (rfl) ?_
 refine sx_pubrow (l := ([0, 0, 0, 1] : List Int)) rfl rfl (.cons rfl (.cons rfl (.cons rfl (.one rfl)))) (fun I49 j49 R49 => ?_)
 try have hvc := hvc.le j49
 try have hv := hv.le j49
 try have hv2 := hv2.le j49
 try have hw16 := hw16.le j49
 try have hw22 := hw22.le j49
 try have hw29 := hw29.le j49
 try have R40 := R40.le j49
 try have R41 := R41.le j49
 try have R42 := R42.le j49
 try have R43 := R43.le j49
 refine go 1 ?_
 refine o_yes rfl rfl rfl (o_callV (eqInts14 _ _ _ hw22 _ R49) rfl rfl ?_)
 refine go 3 ?_
 refine o_cons (o_yes rfl rfl rfl (o_val rfl (OV.cast (u := .bool true) (v_eql rfl rfl) (congrArg Value.bool (decide_eq_true (rfl)))) ?_))
 refine go 5 ?_
 refine fin1 rfl rfl ?_
 exact q_vI rfl

end Go.Proofs.YtoadjlmbdliceaaGreat

/- What is possible and what is sure: facts for the laws. -/
set_option linter.all false
namespace Go.Sx
open Go
section
variable {c : List Kind} {l : List Rep} {i k : Nat} {t : List Int}
theorem sure_code (c : List Kind) (l : List Rep) : (sureF c l).2 = (choF c l).2 := by
  by_cases h : (choF c l).2 = 0
  · rw [sure_yes h, h]
  · rw [sure_no h]
theorem cho_bad0 (h : ¬ (choF c l).2 = 0) : (choF c l).1 = [] ∧ (sureF c l).1 = [] ∧ ((choF c l).2 = 1 ∨ (choF c l).2 = 21) := by
  refine ⟨?_, by rw [sure_no h], ?_⟩
  · rcases cho_cases c l with h1 | h1 | h1
    · exact h1.2
    · exact h1.2
    · exact absurd h1 h
  · rcases cho_cases c l with h1 | h1 | h1
    · exact .inl h1.1
    · exact .inr h1.1
    · exact absurd h1 h
theorem cho_seven : ¬ (choF c l).2 = 7 := by
  rcases cho_cases c l with h1 | h1 | h1
  · rw [h1.1]; decide
  · rw [h1.1]; decide
  · rw [h1]; decide
theorem cho_21 (h : (choF c l).2 = 21) : validC c = true ∧ (∀ q ∈ l, chs q ≠ 0) ∧ histF c l = [] := by
  unfold choF at h
  split at h
  · cases h
  · rename_i hc
    split at h
    · cases h
    · rename_i ha
      split at h
      · rename_i hh
        exact ⟨by simpa using hc, fun q hq h0 => ha (List.any_eq_true.2 ⟨q, hq, by simp [h0]⟩), hh⟩
      · cases h
/-- First has the same error -/
theorem pf_code (h30 : l.length ≤ 30) (h : ¬ (choF c l).2 = 1) : (firstF c l).2 = (choF c l).2 := by
  rcases cho_cases c l with h1 | h1 | h1
  · exact absurd h1.1 h
  · obtain ⟨hc, hp, hn⟩ := cho_21 h1.1
    rw [first_code2 hc hp h30, if_pos hn, h1.1]
  · obtain ⟨hc, hp, hn, _⟩ := cho_zero h1
    rw [first_code2 hc hp h30, if_neg hn, h1]
theorem wit_code (hc : validC c = true) (hp : ∀ q ∈ l, chs q ≠ 0) (h30 : l.length ≤ 30) (hi : i < l.length) (k : Nat) : (firstF c (decF l i k l[i])).2 = 0 ∨ (firstF c (decF l i k l[i])).2 = 21 := by
  rw [first_code2 hc (decF_pos hp hi) (Nat.le_trans (dec_len hi) h30)]
  split
  · exact .inr rfl
  · exact .inl rfl
theorem wit_eq (hc : validC c = true) (hp : ∀ q ∈ l, chs q ≠ 0) (h30 : l.length ≤ 30) (hi : i < l.length) (hk : (k : Int) < chs l[i]) : (hasF c l i (k : Int) == decide ((firstF c (decF l i k l[i])).2 = 0)) = true := by
  rw [beq_iff_eq, first_code2 hc (decF_pos hp hi) (Nat.le_trans (dec_len hi) h30), Bool.eq_iff_iff, dec_has hc hp h30 hi hk, decide_eq_true_eq]
  constructor
  · intro h; rw [if_neg h]
  · intro h h2; rw [if_pos h2] at h; cases h
/-- the first history is one -/
theorem first_mem (h : (firstF c l).2 = 0) : (firstF c l).1 ∈ histF c l := by
  have h1 : (allF c l 1).2 = 0 := by rw [← first_code]; exact h
  obtain ⟨_, hn, e⟩ := all_ok (by decide) (by decide) h1
  unfold firstF
  rw [if_neg (by rw [h1]; decide), e]
  cases hq : histF c l with
  | nil => exact absurd hq hn
  | cons a b => simp
/-- what is known of a history, where there is a table -/
theorem hist_row (h0 : (choF c l).2 = 0) (ht : t ∈ histF c l) (hi : i < l.length) (hti : i < t.length) : ∃ hT : i < (choF c l).1.length, 0 ≤ t[i] ∧ ∃ hr : t[i].toNat < (choF c l).1[i].length, (choF c l).1[i][t[i].toNat] = true ∧ ∃ hS : i < (sureF c l).1.length, 0 ≤ (sureF c l).1[i] → (sureF c l).1[i] = t[i] := by
  obtain ⟨hT, h1, h2⟩ := cho_row h0 hi
  have hb := (all_mem.1 (hist_in_all ht)).2 i hi hti
  have hr : t[i].toNat < (choF c l).1[i].length := by rw [h1]; omega
  have hv : (choF c l).1[i][t[i].toNat] = true := by
    rw [h2 _ hr, has_iff hi]
    exact ⟨t, ht, hti, by omega⟩
  have hSl : (sureF c l).1 = (choF c l).1.map onlyF := by rw [sure_yes h0]
  have hS : i < (sureF c l).1.length := by rw [hSl, List.length_map]; exact hT
  refine ⟨hT, hb.1, hr, hv, hS, fun h3 => ?_⟩
  have e : (sureF c l).1[i] = onlyF (choF c l).1[i] := by simp only [hSl, List.getElem_map]
  rw [e] at h3 ⊢
  have := only_is (cho_some h0 hi) h3 hr hv
  omega
theorem sure_len (h0 : (choF c l).2 = 0) : (sureF c l).1.length = l.length := by rw [sure_yes h0, List.length_map, cho_len h0]
theorem sure_at (h0 : (choF c l).2 = 0) (hS : i < (sureF c l).1.length) : ∃ hT : i < (choF c l).1.length, (sureF c l).1[i] = onlyF (choF c l).1[i] := by
  have hSl : (sureF c l).1 = (choF c l).1.map onlyF := by rw [sure_yes h0]
  have hT : i < (choF c l).1.length := by simpa [hSl] using hS
  exact ⟨hT, by simp only [hSl, List.getElem_map]⟩
/-- one component alone -/
theorem cho_pick {R : Nat → Nat} {r : Nat} (hR : Rts l R) (h30 : l.length ≤ 30) (h0 : (choF c l).2 = 0) (hr : r ∈ rootsN R l.length) : (choF c (pickN l (membN R l.length r))).2 = 0 ∧ (choF c (pickN l (membN R l.length r))).1 = pickN (choF c l).1 (membN R l.length r) := by
  obtain ⟨hc, hp, hn, e⟩ := cho_zero h0
  have hlt : ∀ i ∈ membN R l.length r, i < l.length := fun i hi => memb_lt hi
  have hTl := cho_len h0
  have hltT : ∀ i ∈ membN R l.length r, i < (choF c l).1.length := fun i hi => by rw [hTl]; exact memb_lt hi
  have hnp : histF c (pickN l (membN R l.length r)) ≠ [] := fun h => hn ((hist_none_iff hR hc hp (by omega)).2 ⟨r, hr, h⟩)
  rw [cho_ok hc (pick_pos hp _), if_neg hnp]
  refine ⟨rfl, List.ext_getElem (by rw [tab_len, pickN_len hlt, pickN_len hltT]) fun q h1 h2 => ?_⟩
  have hq : q < (membN R l.length r).length := by rw [tab_len, pickN_len hlt] at h1; exact h1
  have hq2 : q < (pickN l (membN R l.length r)).length := by rw [pickN_len hlt]; exact hq
  rw [tab_at _ hq2, pickN_get hltT hq]
  have hC := hlt _ (List.getElem_mem hq)
  have e2 : (choF c l).1[(membN R l.length r)[q]]'(hltT _ (List.getElem_mem hq)) = (List.range (chs l[(membN R l.length r)[q]]).toNat).map fun (k : Nat) => hasF c l (membN R l.length r)[q] (k : Int) := by
    simp only [e]; exact tab_at _ hC _
  rw [e2]
  have e3 : (pickN l (membN R l.length r))[q] = l[(membN R l.length r)[q]] := pickN_get hlt hq _
  rw [e3]
  refine List.map_congr_left fun k _ => ?_
  obtain ⟨p1, p2⟩ := pos_of hq
  rw [Bool.eq_iff_iff, has_iff hq2, has_iff hC]
  constructor
  · rintro ⟨h, hh, h3, h4⟩
    have hH : ∀ q ∈ rootsN R l.length, (if q = r then h else (histF c (pickN l (membN R l.length q))).headD []) ∈ histF c (pickN l (membN R l.length q)) := fun q hq => by
      split
      · rename_i e; subst e; exact hh
      · cases hz : histF c (pickN l (membN R l.length q)) with
        | nil => exact absurd ((hist_none_iff hR hc hp (by omega)).2 ⟨q, hq, hz⟩) hn
        | cons a b => simp
    obtain ⟨g1, g2⟩ := glue_hist hR hc hp (by omega) (H := fun q => if q = r then h else (histF c (pickN l (membN R l.length q))).headD []) hH
    have g3 := g2 r hr
    simp only [if_true] at g3
    have hgl := (all_mem.1 (hist_in_all g1)).1
    have hltg : ∀ i ∈ membN R l.length r, i < (glueF l.length R fun q => if q = r then h else (histF c (pickN l (membN R l.length q))).headD []).length := fun i hi => by rw [hgl]; exact memb_lt hi
    refine ⟨_, g1, hltg _ (List.getElem_mem hq), ?_⟩
    have h5 := pickN_at hltg hq
    rw [g3, List.getElem?_eq_getElem h3] at h5
    rw [← Option.some.inj h5, h4]
  · rintro ⟨t, ht, h3, h4⟩
    have htl := (all_mem.1 (hist_in_all ht)).1
    have hltt : ∀ i ∈ membN R l.length r, i < t.length := fun i hi => by rw [htl]; exact memb_lt hi
    refine ⟨_, hist_pick hR hc hp (by omega) ht hr, by rw [pickN_len hltt]; exact hq, ?_⟩
    rw [pickN_get hltt hq]; exact h4
end
end Go.Sx

/- PossibleEvidence: what is possible when a report is decided. -/
set_option linter.all false
namespace Go.Sx
open Go
/-- where a report of the shorter list was -/
def wasF (m n i : Nat) (q : Nat) : Nat := if m < n ∧ i ≤ q then q + 1 else q
section
variable {c : List Kind} {l : List Rep} {i k q : Nat}
theorem cut_at {α : Type} {l : List α} {i j : Nat} (hi : i < l.length) (hj : j < (cutAt l i).length) : ∃ h : (if i ≤ j then j + 1 else j) < l.length, (cutAt l i)[j] = l[if i ≤ j then j + 1 else j] := by
  have e := cutAt_len hi
  refine ⟨by split <;> omega, ?_⟩
  simp only [cutAt]
  by_cases hji : i ≤ j
  · rw [List.getElem_append_right (by rw [List.length_take]; omega), List.getElem_drop]
    have e3 : i + 1 + (j - (l.take i).length) = if i ≤ j then j + 1 else j := by rw [if_pos hji, List.length_take]; omega
    simp only [e3]
  · rw [List.getElem_append_left (by rw [List.length_take]; omega), List.getElem_take]
    simp [hji]
theorem was_at (hi : i < l.length) (hq : q < (decF l i k l[i]).length) : ∃ h : wasF (decF l i k l[i]).length l.length i q < l.length, wasF (decF l i k l[i]).length l.length i q ≠ i → (decF l i k l[i])[q] = l[wasF (decF l i k l[i]).length l.length i q] := by
  by_cases hk : k < l[i].options.length
  · have e := dec_one hi hk
    have hl : (decF l i k l[i]).length = l.length := by rw [e, List.length_set]
    have hw : wasF (decF l i k l[i]).length l.length i q = q := by unfold wasF; rw [if_neg (by omega)]
    simp only [hw]
    refine ⟨by omega, fun hne => ?_⟩
    simp only [e, List.getElem_set]
    rw [if_neg (fun h => hne h.symm)]
  · have e := dec_none hi hk
    have hl : (decF l i k l[i]).length + 1 = l.length := by rw [e]; exact cutAt_len hi
    have hw : wasF (decF l i k l[i]).length l.length i q = if i ≤ q then q + 1 else q := by
      unfold wasF
      by_cases h : i ≤ q
      · rw [if_pos ⟨by omega, h⟩, if_pos h]
      · rw [if_neg (fun h2 => h h2.2), if_neg h]
    simp only [hw]
    obtain ⟨h1, h2⟩ := cut_at (l := l) hi (j := q) (by rw [← e]; exact hq)
    refine ⟨h1, fun _ => ?_⟩
    simp only [e]; exact h2
theorem was_i (hi : i < l.length) (hq : q < (decF l i k l[i]).length) (h : wasF (decF l i k l[i]).length l.length i q = i) : k < l[i].options.length ∧ q = i := by
  by_cases hk : k < l[i].options.length
  · refine ⟨hk, ?_⟩
    have hl : (decF l i k l[i]).length = l.length := by rw [dec_one hi hk, List.length_set]
    unfold wasF at h
    rwa [if_neg (by omega)] at h
  · exfalso
    have hl : (decF l i k l[i]).length + 1 = l.length := by rw [dec_none hi hk]; exact cutAt_len hi
    unfold wasF at h
    split at h <;> omega
/-- a history of the decided reports comes from one of all -/
theorem dec_from (hc : validC c = true) (hp : ∀ q ∈ l, chs q ≠ 0) (h30 : l.length ≤ 30) (hi : i < l.length) (hkc : (k : Int) < chs l[i]) {t' : List Int} (ht : t' ∈ histF c (decF l i k l[i])) :
    ∃ t ∈ histF c l, ∀ (q : Nat) (h1 : q < t'.length) (h2 : wasF (decF l i k l[i]).length l.length i q < t.length), wasF (decF l i k l[i]).length l.length i q ≠ i → t'[q] = t[wasF (decF l i k l[i]).length l.length i q] := by
  by_cases hk : k < l[i].options.length
  · have e := dec_one hi hk
    have hl : (decF l i k l[i]).length = l.length := by rw [e, List.length_set]
    rw [e, hist_one (err_of hc hp h30) hi hk, selF] at ht
    obtain ⟨t, h1, rfl⟩ := List.mem_map.1 ht
    refine ⟨t, (List.mem_filter.1 h1).1, fun q h2 h3 hne => ?_⟩
    have hw : wasF (decF l i k l[i]).length l.length i q = q := by unfold wasF; rw [if_neg (by omega)]
    simp only [hw] at hne ⊢
    simp only [chAt, List.getElem_set]
    rw [if_neg (fun h => hne h.symm)]
  · have e := dec_none hi hk
    have hl : (decF l i k l[i]).length + 1 = l.length := by rw [e]; exact cutAt_len hi
    rw [e] at ht
    have hsl := (all_mem.1 (hist_in_all ht)).1
    have e1 := cutAt_len hi
    have hpl : (putAt t' i (k : Int)).length = l.length := by simp [putAt]; omega
    obtain ⟨h1, h2⟩ := putAt_at (t := t') (i := i) (k := (k : Int)) (by omega)
    have hm : putAt t' i (k : Int) ∈ histF c l := (cut_hist hc hp hi hk hkc hpl ⟨h1, h2⟩).1 (by rw [putAt_cut (by omega)]; exact ht)
    refine ⟨_, hm, fun q h3 h4 hne => ?_⟩
    have hw : wasF (decF l i k l[i]).length l.length i q = if i ≤ q then q + 1 else q := by
      unfold wasF
      by_cases h : i ≤ q
      · rw [if_pos ⟨by omega, h⟩, if_pos h]
      · rw [if_neg (fun h2 => h h2.2), if_neg h]
    have e3 : cutAt (putAt t' i (k : Int)) i = t' := putAt_cut (by omega)
    obtain ⟨h5, h6⟩ := cut_at (l := putAt t' i (k : Int)) (i := i) (j := q) (by omega) (by rw [e3]; exact h3)
    simp only [e3] at h6
    simp only [hw]
    exact h6
theorem dec_code (hc : validC c = true) (hp : ∀ q ∈ l, chs q ≠ 0) (h30 : l.length ≤ 30) (hi : i < l.length) (hkc : (k : Int) < chs l[i]) (hh : hasF c l i (k : Int) = true) : (choF c (decF l i k l[i])).2 = 0 := by
  rw [cho_ok hc (decF_pos hp hi), if_neg ((dec_has hc hp h30 hi hkc).1 hh)]
theorem ev_has (hc : validC c = true) (hp : ∀ q ∈ l, chs q ≠ 0) (h30 : l.length ≤ 30) (hi : i < l.length) (hkc : (k : Int) < chs l[i]) (hq : q < (decF l i k l[i]).length) (hne : wasF (decF l i k l[i]).length l.length i q ≠ i) {j : Int} (h : hasF c (decF l i k l[i]) q j = true) : hasF c l (wasF (decF l i k l[i]).length l.length i q) j = true := by
  obtain ⟨t', ht', h1, h2⟩ := (has_iff hq).1 h
  obtain ⟨t, ht, h3⟩ := dec_from hc hp h30 hi hkc ht'
  obtain ⟨hw, _⟩ := was_at (k := k) hi hq
  have htl := (all_mem.1 (hist_in_all ht)).1
  exact (has_iff hw).2 ⟨t, ht, by omega, by rw [← h3 q h1 (by omega) hne, h2]⟩
/-- the facts of the law, for one report of the shorter list -/
theorem law_pev (h30 : l.length ≤ 30) (h0 : (choF c l).2 = 0) (hi : i < l.length) (hkc : (k : Int) < chs l[i]) (hh : hasF c l i (k : Int) = true) (hq : q < (decF l i k l[i]).length) :
    ∃ hx : q < (choF c (decF l i k l[i])).1.length, ∃ hy : q < (sureF c (decF l i k l[i])).1.length, ∃ ha : wasF (decF l i k l[i]).length l.length i q < (choF c l).1.length, ∃ hb : wasF (decF l i k l[i]).length l.length i q < (sureF c l).1.length,
      (wasF (decF l i k l[i]).length l.length i q = i → (sureF c (decF l i k l[i])).1[q] = 0) ∧
      (wasF (decF l i k l[i]).length l.length i q ≠ i → ((choF c (decF l i k l[i])).1[q].length = (choF c l).1[wasF (decF l i k l[i]).length l.length i q].length ∧
        (0 ≤ (sureF c l).1[wasF (decF l i k l[i]).length l.length i q] → (sureF c (decF l i k l[i])).1[q] = (sureF c l).1[wasF (decF l i k l[i]).length l.length i q]) ∧
        ∀ j (h1 : j < (choF c (decF l i k l[i])).1[q].length) (h2 : j < (choF c l).1[wasF (decF l i k l[i]).length l.length i q].length), (choF c (decF l i k l[i])).1[q][j] = true → (choF c l).1[wasF (decF l i k l[i]).length l.length i q][j] = true)) := by
  obtain ⟨hc, hp, _, _⟩ := cho_zero h0
  have hD0 := dec_code hc hp h30 hi hkc hh
  obtain ⟨hw, hD⟩ := was_at (k := k) hi hq
  obtain ⟨hx, hx1, hx2⟩ := cho_row hD0 hq
  obtain ⟨ha, ha1, ha2⟩ := cho_row h0 hw
  have hy : q < (sureF c (decF l i k l[i])).1.length := by rw [sure_len hD0]; exact hq
  have hb : wasF (decF l i k l[i]).length l.length i q < (sureF c l).1.length := by rw [sure_len h0]; exact hw
  obtain ⟨_, hys⟩ := sure_at hD0 hy
  obtain ⟨_, hbs⟩ := sure_at h0 hb
  refine ⟨hx, hy, ha, hb, fun e => ?_, fun hne => ?_⟩
  · obtain ⟨hk, hqi⟩ := was_i hi hq e
    subst hqi
    have hv := valid_chs (hp _ (List.getElem_mem hi))
    have e1 : (decF l q k l[q])[q] = oneOf l[q] k := by simp only [dec_one hi hk]; rw [List.getElem_set_self]
    rw [e1, one_chs hv hk] at hx1
    have hcs := cho_some hD0 hq (hT := hx)
    rw [hys]
    match hr : (choF c (decF l q k l[q])).1[q], hx1, hcs with
    | [], h, _ => cases h
    | [true], _, _ => rfl
    | [false], _, h => exact absurd rfl h
    | _ :: _ :: _, h, _ => simp at h
  · have hlen : (choF c (decF l i k l[i])).1[q].length = (choF c l).1[wasF (decF l i k l[i]).length l.length i q].length := by rw [hx1, ha1, hD hne]
    have hsub : ∀ j (h1 : j < (choF c (decF l i k l[i])).1[q].length) (h2 : j < (choF c l).1[wasF (decF l i k l[i]).length l.length i q].length), (choF c (decF l i k l[i])).1[q][j] = true → (choF c l).1[wasF (decF l i k l[i]).length l.length i q][j] = true := fun j h1 h2 h => by
      rw [hx2 j h1] at h
      rw [ha2 j h2]
      exact ev_has hc hp h30 hi hkc hq hne h
    refine ⟨hlen, fun h3 => ?_, hsub⟩
    rw [hbs] at h3 ⊢
    rw [hys]
    have hsa := cho_some h0 hw (hT := ha)
    have hsx := cho_some hD0 hq (hT := hx)
    obtain ⟨p, B, hpB⟩ := true_split hsx
    have hpl : p < (choF c (decF l i k l[i])).1[q].length := by rw [hpB]; simp
    have hpt : (choF c (decF l i k l[i])).1[q][p] = true := by
      have : (choF c (decF l i k l[i])).1[q][p]? = some true := by rw [hpB, List.getElem?_append_right (by simp)]; simp
      rw [List.getElem?_eq_getElem hpl] at this
      exact Option.some.inj this
    have hall : ∀ j (hj : j < (choF c (decF l i k l[i])).1[q].length), (choF c (decF l i k l[i])).1[q][j] = true → onlyF (choF c l).1[wasF (decF l i k l[i]).length l.length i q] = j := fun j hj h =>
      only_is hsa h3 (by omega) (hsub j hj (by omega) h)
    have hpo := hall p hpl hpt
    rw [hpo]
    exact only_of hpl hpt fun j hj h => by have := hall j hj h; omega
end
end Go.Sx

