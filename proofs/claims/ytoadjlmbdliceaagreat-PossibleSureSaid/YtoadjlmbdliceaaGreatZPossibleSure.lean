/- The law PossibleSure holds of the given program, for every input. No condition. -/
import Derived.Test.YtoadjlmbdliceaaGreatZPe
import Derived.OpenShut
import Derived.ProofKit
import Derived.Test.YtoadjlmbdliceaaGreatRows
/- Walks, printed by a program out of the code of the functions: each theorem is a contract of one function. -/
namespace Go.Proofs.YtoadjlmbdliceaaGreat
open Go Go.Sx
set_option linter.all false
set_option maxRecDepth 20000
set_option maxHeartbeats 4000000
instance T.und_42 : Has (Tryz.prog.underlying 42) (.int .u16) := ⟨by kernel_rfl⟩
theorem lawPSure (I : IMap) (vc : Value) (c : List Kind) (hvc : RdS I vc c) (hoc : ∀ x ∈ c, OkKd x) (v : Value) (l : List Rep) (hv : RdS I v l) (hok : ∀ x ∈ l, OkRp x)  :
    FnV Tryz.prog 10 #[.agg #[vc], v] I (.bool true) := by
 have hv0 := hv
 obtain ⟨A, c0, rfl, hA, hc, hm⟩ := hv
 refine enter Tryz.func10 Tryz.call10 rfl Tryz.ntmps10 rfl (fun w0 => ?_)
 refine go 3 ?_
 refine o_box _ rfl rfl rfl (fun g2 => ?_)
 refine go 6 ?_
 refine o_callV (head17 _) rfl rfl ?_
 refine go 9 ?_
 refine o_callV (law17few _ vc c hvc _ l hv0) rfl rfl ?_
 refine go 3 ?_
 refine cb rfl (fun h18 p18 => ?_) (fun h18 p18 => ?_)
 ·refine go 8 ?_
  refine fin1 rfl rfl ?_
  exact q_vI rfl
 ·have hf : fewC c = true ∧ few17 l 25 = true := by simpa using h18
  obtain ⟨hf2, hwn⟩ := few17_sm hf.2
  obtain ⟨hsl, hl⟩ := fewR_sm hf2
  have hsc := fewC_sm hf.1
  have hl6 : l.length ≤ 1000000 := by omega
  have h30 : l.length ≤ 30 := by omega
  have hwl : waysN l < 4096 := by omega
  refine go 7 ?_
  refine o_call (possChoices _ vc c hvc hsc _ l hv0 hl6 hsl h30 hwl) rfl rfl (fun v23 I23 j23 q23 => ?_)
  try have hvc := hvc.le j23
  try have hv0 := hv0.le j23
  try have hA := hA.le j23
  try have hw23 := hw23.le j23
  try have hw29 := hw29.le j23
  try have hw35 := hw35.le j23
  try have hw41 := hw41.le j23
  try have hTA := hTA.le j23
  try have hSA := hSA.le j23
  try have hw0 := hw0.le j23
  try have hCA := hCA.le j23
  obtain ⟨w23, rfl, hw23⟩ := q23
  refine go 12 ?_
  refine o_call (possSure _ vc c hvc hsc _ l hv0 hl6 hsl h30 hwl) rfl rfl (fun v29 I29 j29 q29 => ?_)
  try have hvc := hvc.le j29
  try have hv0 := hv0.le j29
  try have hA := hA.le j29
  try have hw23 := hw23.le j29
  try have hw29 := hw29.le j29
  try have hw35 := hw35.le j29
  try have hw41 := hw41.le j29
  try have hTA := hTA.le j29
  try have hSA := hSA.le j29
  try have hw0 := hw0.le j29
  try have hCA := hCA.le j29
  obtain ⟨w29, rfl, hw29⟩ := q29
  obtain ⟨TA, tc, rfl, hTA, _, _⟩ := hw23
  obtain ⟨SA, sc, rfl, hSA, _, _⟩ := hw29
  refine go 12 ?_
  refine o_v rfl (OV.cast (u := .bool false) (v_neq rfl rfl) (congrArg Value.bool (by rw [sure_code]; simp))) ?_
  refine go 6 ?_
  refine cb rfl (fun h38 p38 => ?_) (fun h38 p38 => ?_)
  ·obtain ⟨z1, z2, z3⟩ := cho_bad0 p38
   refine go 6 ?_
   refine o_cons (o_yes rfl rfl rfl (o_val rfl (OV.cast (u := .bool true) (v_eql rfl rfl) (congrArg Value.bool (decide_eq_true ((sure_code c l).symm)))) ?_))
   refine go 4 ?_
   refine o_cons (o_yes rfl rfl rfl (o_val rfl (OV.cast (u := .bool true) (v_eql rfl rfl) (congrArg Value.bool (decide_eq_true (by rw [z1]; rfl)))) ?_))
   refine go 4 ?_
   refine o_cons (o_yes rfl rfl rfl (o_val rfl (OV.cast (u := .bool true) (v_eql rfl rfl) (congrArg Value.bool (decide_eq_true (by rw [z2]; rfl)))) ?_))
   refine go 5 ?_
   refine sxb 58 rfl (fun h58 p58 => ?_) (fun h58 p58 => ?_)
   ·refine go 13 ?_
    refine fin1 rfl rfl ?_
    exact q_vI rfl
   ·refine go 1 ?_
    refine o_cons (o_yes rfl rfl h58 (o_val rfl (OV.cast (u := .bool false) (v_eql rfl rfl) (congrArg Value.bool (decide_eq_false cho_seven))) ?_))
    refine go 3 ?_
    refine o_cons (o_yes rfl rfl rfl (o_val rfl (OV.cast (u := .bool true) (v_eql rfl rfl) (congrArg Value.bool (decide_eq_true (by rcases z3 with h | h; exact absurd h p58; exact h)))) ?_))
    refine go 7 ?_
    refine fin1 rfl rfl ?_
    exact q_vI rfl
  ·have h0 : (choF c l).2 = 0 := by simpa using h38
   have hTl := cho_len h0
   have hSl := sure_len h0
   refine go 9 ?_
   refine o_v rfl (OV.cast (u := .bool false) (v_neq rfl rfl) (congrArg Value.bool (by simp [hTl]))) ?_
   refine go 5 ?_
   refine o_cons (o_yes rfl rfl rfl (o_val rfl (OV.cast (u := .bool false) (v_neq rfl rfl) (congrArg Value.bool (by simp [hSl]))) ?_))
   refine go 3 ?_
   refine c_false rfl ?_
   refine go 9 ?_
   refine sx_drop ?_
   refine c_loop (α := Nat) 0 (fun i => I29)
    (fun i => [(1, .slice A l.length c0), (5, .bool true), (6, .slice TA (choF c l).1.length tc), (8, .slice SA (sureF c l).1.length sc), (10, .int .i64 ((i : Nat) : Int))])
    (fun i => [])
    (fun i => i ≤ l.length)
    (fun i => l.length - i) (Nat.zero_le _) rfl sb rfl ?_
   intro i hi
   refine go 9 ?_
   refine cb rfl (fun h82 p82 => ?_) (fun h82 p82 => ?_)
   ·have hlt : i < l.length := by omega
    obtain ⟨hT, hrl, hrk⟩ := cho_row h0 hlt
    have hcs := cho_some h0 hlt (hT := hT)
    obtain ⟨_, hsa⟩ := sure_at h0 (show i < (sureF c l).1.length by omega)
    have hnn := chs_nn l[i]
    refine go 17 ?_
    refine c_loop (α := Nat) 0 (fun k => I29)
     (fun k => [(1, .slice A l.length c0), (5, .bool true), (6, .slice TA (choF c l).1.length tc), (8, .slice SA (sureF c l).1.length sc), (10, .int .i64 ((i : Nat) : Int)), (11, .int .i64 ((cntF ((choF c l).1[i].take k) : Nat) : Int)), (12, .int .i64 (lastF ((choF c l).1[i].take k))), (13, .int .i64 ((k : Nat) : Int))])
     (fun k => [])
     (fun k => k ≤ (choF c l).1[i].length)
     (fun k => (choF c l).1[i].length - k) (Nat.zero_le _) rfl sb rfl ?_
    intro k hk
    refine go 6 ?_
    obtain ⟨b88, o88, w88, e88, c88, r88⟩ := RdA.at_ hTA (i := i) (by omega)
    obtain ⟨q88, rfl, S88, d88, rfl, hS88, hd88, hm88⟩ := r88
    refine o_v rfl (v_idx he rfl rfl e88 (i) (by omega) (by omega)) ?_
    refine o_v rfl (v_ldI he rfl (c88 0 _ rfl)) ?_
    refine go 4 ?_
    refine cb rfl (fun h91 p91 => ?_) (fun h91 p91 => ?_)
    ·have hlk : k < (choF c l).1[i].length := by omega
     have hcl : cntF ((choF c l).1[i].take k) ≤ k := Nat.le_trans (List.length_filter_le _ _) (by rw [List.length_take]; omega)
     refine go 8 ?_
     obtain ⟨b96, o96, w96, e96, c96, r96⟩ := RdA.at_ hTA (i := i) (by omega)
     obtain ⟨q96, rfl, S96, d96, rfl, hS96, hd96, hm96⟩ := r96
     refine o_v rfl (v_idx he rfl rfl e96 (i) (by omega) (by omega)) ?_
     refine o_v rfl (v_ldI he rfl (c96 0 _ rfl)) ?_
     refine go 1 ?_
     obtain ⟨b99, o99, w99, e99, c99, r99⟩ := RdA.at_ hS96 (i := k) (by omega)
     obtain rfl := r99
     refine o_v rfl (v_idx he rfl rfl e99 (k) (by omega) (by omega)) ?_
     refine o_v rfl (v_ldI he rfl (c99 0 _ rfl)) ?_
     refine go 2 ?_
     refine cb rfl (fun h100 p100 => ?_) (fun h100 p100 => ?_)
     ·refine go 3 ?_
      refine o_v rfl (OV.cast (u := .int .i64 ((cntF ((choF c l).1[i].take (k + 1)) : Nat) : Int)) (v_add rfl rfl ⟨by omega, by omega⟩) (congrArg (Value.int .i64) (by rw [cntF_step hlk, if_pos h100]; rfl))) ?_
      refine go 15 ?_
      exact q_next (k + 1) (by omega) (by omega) rfl ⟨rfl, rfl, rfl, rfl, rfl, rfl, (congrArg (fun z => some (Value.int .i64 z)) (by rw [lastF_step hlk, if_pos h100])), rfl, trivial⟩ rfl
     ·refine go 9 ?_
      exact q_next (k + 1) (by omega) (by omega) rfl ⟨rfl, rfl, rfl, rfl, rfl, (congrArg (fun z => some (Value.int .i64 z)) (by rw [cntF_step hlk, if_neg (by rw [h100]; decide)])), (congrArg (fun z => some (Value.int .i64 z)) (by rw [lastF_step hlk, if_neg (by rw [h100]; decide)])), rfl, trivial⟩ rfl
    ·obtain rfl : k = (choF c l).1[i].length := by omega
     rw [List.take_length]
     refine go 6 ?_
     refine d_startH T.mixed ?_
     refine d_tv 0 rfl rfl (by kernel_rfl) rfl .slnil rfl (v_move rfl) ?_
     refine d_tv 1 rfl rfl (by kernel_rfl) rfl .slnil rfl (v_move rfl) ?_
     obtain ⟨b106, o106, w106, e106, c106, r106⟩ := RdA.at_ hTA (i := i) (by omega)
     obtain ⟨q106, rfl, S106, d106, rfl, hS106, hd106, hm106⟩ := r106
     refine d_tv 2 rfl rfl (by kernel_rfl) rfl .slnil rfl (v_idx he rfl rfl e106 (i) (by omega) (by omega)) ?_
     refine d_tv 3 rfl rfl (by kernel_rfl) rfl .slnil rfl (v_ldI he rfl (c106 0 _ rfl)) ?_
     refine d_tv 4 rfl rfl (by kernel_rfl) rfl .slnil rfl (v_len_slice he rfl) ?_
     refine d_tv 5 rfl rfl (by kernel_rfl) rfl .slnil rfl (v_move rfl) ?_
     refine d_tv 6 rfl rfl (by kernel_rfl) rfl .slnil rfl (v_move rfl) ?_
     obtain ⟨b111, o111, w111, e111, c111, r111⟩ := RdA.at_ hA (i := i) (by omega)
     obtain ⟨q111, rfl, S111, d111, rfl, hS111, hd111, hm111⟩ := r111
     refine d_tv 7 rfl rfl (by kernel_rfl) rfl .slnil rfl (v_idx he rfl rfl e111 (i) (by omega) (by omega)) ?_
     refine d_tv 8 rfl rfl (by kernel_rfl) rfl .slnil rfl (v_ldIa he rfl c111 rfl) ?_
     refine d_one 9 (by kernel_rfl) rfl ?_
     refine o_callV (repChoices _ l[i] S111 d111 ⟨_, _, rfl, hS111, hd111, hm111⟩ (hsl _ (List.getElem_mem hlt))) rfl rfl ?_
     refine d_on (fun _ m => m.keeps .slnil) ?_
     refine d_tv 10 rfl rfl (by kernel_rfl) rfl .slnil rfl (OV.cast (u := .bool false) (v_neq rfl rfl) (congrArg Value.bool (by rw [hrl]; simp; omega))) ?_
     refine d_tv 11 rfl rfl (by kernel_rfl) rfl .slnil rfl (v_move rfl) ?_
     refine d_t 12 rfl rfl (by kernel_rfl) rfl (fun _ m => m.keeps .slnil) (y_yes rfl rfl rfl (v_move rfl)) ?_
     refine d_t 13 rfl rfl (by kernel_rfl) rfl (fun _ m => m.keeps .slnil) (y_yes rfl rfl rfl (OV.cast (u := .bool false) (v_eql rfl rfl) (congrArg Value.bool (decide_eq_false (by omega))))) ?_
     refine d_tv 14 rfl rfl (by kernel_rfl) rfl .slnil rfl (v_or_f rfl rfl rfl) ?_
     refine d_tv 15 rfl rfl (by kernel_rfl) rfl .slnil rfl (v_move rfl) ?_
     refine d_t 16 rfl rfl (by kernel_rfl) rfl (fun _ m => m.keeps .slnil) (y_yes rfl rfl rfl (v_move rfl)) ?_
     refine d_t 17 rfl rfl (by kernel_rfl) rfl (fun _ m => m.keeps .slnil) (y_yes rfl rfl rfl (v_eql rfl rfl)) ?_
     refine d_t 18 rfl rfl (by kernel_rfl) rfl (fun _ m => m.keeps .slnil) (y_yes rfl rfl rfl (v_move rfl)) ?_
     refine sxb 122 rfl (fun h122 p122 => ?_) (fun h122 p122 => ?_)
     ·refine d_t 19 rfl rfl (by kernel_rfl) rfl (fun _ m => m.keeps .slnil) (y_yes rfl rfl h122 (v_move rfl)) ?_
      refine d_t 20 rfl rfl (by kernel_rfl) rfl (fun _ m => m.keeps .slnil) (y_yes rfl rfl h122 (v_move rfl)) ?_
      obtain ⟨b125, o125, w125, e125, c125, r125⟩ := RdA.at_ hSA (i := i) (by omega)
      obtain rfl := r125
      refine d_t 21 rfl rfl (by kernel_rfl) rfl (fun _ m => m.keeps .slnil) (y_yes rfl rfl h122 (v_idx he rfl rfl e125 (i) (by omega) (by omega))) ?_
      refine d_t 22 rfl rfl (by kernel_rfl) rfl (fun _ m => m.keeps .slnil) (y_yes rfl rfl h122 (v_ldI he rfl (c125 0 _ rfl))) ?_
      refine d_t 23 rfl rfl (by kernel_rfl) rfl (fun _ m => m.keeps .slnil) (y_yes rfl rfl h122 (v_move rfl)) ?_
      refine d_t 24 rfl rfl (by kernel_rfl) rfl (fun _ m => m.keeps .slnil) (y_yes rfl rfl h122 (OV.cast (u := .bool false) (v_neq rfl rfl) (congrArg Value.bool (by rw [hsa, only_one (by omega)]; simp)))) ?_
      refine d_t 25 rfl rfl (by kernel_rfl) rfl (fun _ m => m.keeps .slnil) (y_yes rfl rfl rfl (v_and_t h122 rfl rfl)) ?_
      refine d_tv 26 rfl rfl (by kernel_rfl) rfl .slnil rfl (v_or_f rfl rfl rfl) ?_
      refine d_tv 27 rfl rfl (by kernel_rfl) rfl .slnil rfl (v_move rfl) ?_
      refine d_t 28 rfl rfl (by kernel_rfl) rfl (fun _ m => m.keeps .slnil) (y_yes rfl rfl rfl (v_move rfl)) ?_
      refine d_t 29 rfl rfl (by kernel_rfl) rfl (fun _ m => m.keeps .slnil) (y_yes rfl rfl rfl (v_gtr rfl rfl)) ?_
      refine d_t 30 rfl rfl (by kernel_rfl) rfl (fun _ m => m.keeps .slnil) (y_yes rfl rfl rfl (v_move rfl)) ?_
      refine sxb 134 rfl (fun h134 p134 => ?_) (fun h134 p134 => ?_)
      ·refine d_t 31 rfl rfl (by kernel_rfl) rfl (fun _ m => m.keeps .slnil) (y_yes rfl rfl h134 (v_move rfl)) ?_
       refine d_t 32 rfl rfl (by kernel_rfl) rfl (fun _ m => m.keeps .slnil) (y_yes rfl rfl h134 (v_move rfl)) ?_
       obtain ⟨b137, o137, w137, e137, c137, r137⟩ := RdA.at_ hSA (i := i) (by omega)
       obtain rfl := r137
       refine d_t 33 rfl rfl (by kernel_rfl) rfl (fun _ m => m.keeps .slnil) (y_yes rfl rfl h134 (v_idx he rfl rfl e137 (i) (by omega) (by omega))) ?_
       refine d_t 34 rfl rfl (by kernel_rfl) rfl (fun _ m => m.keeps .slnil) (y_yes rfl rfl h134 (v_ldI he rfl (c137 0 _ rfl))) ?_
       refine d_t 35 rfl rfl (by kernel_rfl) rfl (fun _ m => m.keeps .slnil) (y_yes rfl rfl h134 (OV.cast (u := .bool false) (v_neq rfl rfl) (congrArg Value.bool (by rw [hsa, only_many (by omega)]; rfl)))) ?_
       refine d_t 36 rfl rfl (by kernel_rfl) rfl (fun _ m => m.keeps .slnil) (y_yes rfl rfl rfl (v_and_t h134 rfl rfl)) ?_
       refine d_tv 37 rfl rfl (by kernel_rfl) rfl .slnil rfl (v_or_f rfl rfl rfl) ?_
       refine d_done (by kernel_rfl) ?_
       refine go 1 ?_
       refine c_false rfl ?_
       refine go 9 ?_
       exact q_next (i + 1) (by omega) (by omega) rfl sb rfl
      ·refine d_t 31 rfl rfl (by kernel_rfl) rfl (fun _ m => m.keeps .slnil) (y_no rfl rfl h134) ?_
       refine d_t 32 rfl rfl (by kernel_rfl) rfl (fun _ m => m.keeps .slnil) (y_no rfl rfl h134) ?_
       refine d_t 33 rfl rfl (by kernel_rfl) rfl (fun _ m => m.keeps .slnil) (y_no rfl rfl h134) ?_
       refine d_t 34 rfl rfl (by kernel_rfl) rfl (fun _ m => m.keeps .slnil) (y_no rfl rfl h134) ?_
       refine d_t 35 rfl rfl (by kernel_rfl) rfl (fun _ m => m.keeps .slnil) (y_no rfl rfl h134) ?_
       refine d_t 36 rfl rfl (by kernel_rfl) rfl (fun _ m => m.keeps .slnil) (y_yes rfl rfl rfl (v_and_f h134 rfl)) ?_
       refine d_tv 37 rfl rfl (by kernel_rfl) rfl .slnil rfl (v_or_f rfl rfl rfl) ?_
       refine d_done (by kernel_rfl) ?_
       refine go 1 ?_
       refine c_false rfl ?_
       refine go 9 ?_
       exact q_next (i + 1) (by omega) (by omega) rfl sb rfl
     ·refine d_t 19 rfl rfl (by kernel_rfl) rfl (fun _ m => m.keeps .slnil) (y_no rfl rfl h122) ?_
      refine d_t 20 rfl rfl (by kernel_rfl) rfl (fun _ m => m.keeps .slnil) (y_no rfl rfl h122) ?_
      refine d_t 21 rfl rfl (by kernel_rfl) rfl (fun _ m => m.keeps .slnil) (y_no rfl rfl h122) ?_
      refine d_t 22 rfl rfl (by kernel_rfl) rfl (fun _ m => m.keeps .slnil) (y_no rfl rfl h122) ?_
      refine d_t 23 rfl rfl (by kernel_rfl) rfl (fun _ m => m.keeps .slnil) (y_no rfl rfl h122) ?_
      refine d_t 24 rfl rfl (by kernel_rfl) rfl (fun _ m => m.keeps .slnil) (y_no rfl rfl h122) ?_
      refine d_t 25 rfl rfl (by kernel_rfl) rfl (fun _ m => m.keeps .slnil) (y_yes rfl rfl rfl (v_and_f h122 rfl)) ?_
      refine d_tv 26 rfl rfl (by kernel_rfl) rfl .slnil rfl (v_or_f rfl rfl rfl) ?_
      refine d_tv 27 rfl rfl (by kernel_rfl) rfl .slnil rfl (v_move rfl) ?_
      refine d_t 28 rfl rfl (by kernel_rfl) rfl (fun _ m => m.keeps .slnil) (y_yes rfl rfl rfl (v_move rfl)) ?_
      refine d_t 29 rfl rfl (by kernel_rfl) rfl (fun _ m => m.keeps .slnil) (y_yes rfl rfl rfl (v_gtr rfl rfl)) ?_
      refine d_t 30 rfl rfl (by kernel_rfl) rfl (fun _ m => m.keeps .slnil) (y_yes rfl rfl rfl (v_move rfl)) ?_
      refine sxb 134 rfl (fun h134 p134 => ?_) (fun h134 p134 => ?_)
      ·refine d_t 31 rfl rfl (by kernel_rfl) rfl (fun _ m => m.keeps .slnil) (y_yes rfl rfl h134 (v_move rfl)) ?_
       refine d_t 32 rfl rfl (by kernel_rfl) rfl (fun _ m => m.keeps .slnil) (y_yes rfl rfl h134 (v_move rfl)) ?_
       obtain ⟨b137, o137, w137, e137, c137, r137⟩ := RdA.at_ hSA (i := i) (by omega)
       obtain rfl := r137
       refine d_t 33 rfl rfl (by kernel_rfl) rfl (fun _ m => m.keeps .slnil) (y_yes rfl rfl h134 (v_idx he rfl rfl e137 (i) (by omega) (by omega))) ?_
       refine d_t 34 rfl rfl (by kernel_rfl) rfl (fun _ m => m.keeps .slnil) (y_yes rfl rfl h134 (v_ldI he rfl (c137 0 _ rfl))) ?_
       refine d_t 35 rfl rfl (by kernel_rfl) rfl (fun _ m => m.keeps .slnil) (y_yes rfl rfl h134 (OV.cast (u := .bool false) (v_neq rfl rfl) (congrArg Value.bool (by rw [hsa, only_many (by omega)]; rfl)))) ?_
       refine d_t 36 rfl rfl (by kernel_rfl) rfl (fun _ m => m.keeps .slnil) (y_yes rfl rfl rfl (v_and_t h134 rfl rfl)) ?_
       refine d_tv 37 rfl rfl (by kernel_rfl) rfl .slnil rfl (v_or_f rfl rfl rfl) ?_
       refine d_done (by kernel_rfl) ?_
       refine go 1 ?_
       refine c_false rfl ?_
       refine go 9 ?_
       exact q_next (i + 1) (by omega) (by omega) rfl sb rfl
      ·refine d_t 31 rfl rfl (by kernel_rfl) rfl (fun _ m => m.keeps .slnil) (y_no rfl rfl h134) ?_
       refine d_t 32 rfl rfl (by kernel_rfl) rfl (fun _ m => m.keeps .slnil) (y_no rfl rfl h134) ?_
       refine d_t 33 rfl rfl (by kernel_rfl) rfl (fun _ m => m.keeps .slnil) (y_no rfl rfl h134) ?_
       refine d_t 34 rfl rfl (by kernel_rfl) rfl (fun _ m => m.keeps .slnil) (y_no rfl rfl h134) ?_
       refine d_t 35 rfl rfl (by kernel_rfl) rfl (fun _ m => m.keeps .slnil) (y_no rfl rfl h134) ?_
       refine d_t 36 rfl rfl (by kernel_rfl) rfl (fun _ m => m.keeps .slnil) (y_yes rfl rfl rfl (v_and_f h134 rfl)) ?_
       refine d_tv 37 rfl rfl (by kernel_rfl) rfl .slnil rfl (v_or_f rfl rfl rfl) ?_
       refine d_done (by kernel_rfl) ?_
       refine go 1 ?_
       refine c_false rfl ?_
       refine go 9 ?_
       exact q_next (i + 1) (by omega) (by omega) rfl sb rfl
   ·refine go 12 ?_
    refine fin1 rfl rfl ?_
    exact q_vI rfl

end Go.Proofs.YtoadjlmbdliceaaGreat

/- The law PossibleSure holds of the given program, for every input. No condition. -/
namespace Go.Proofs.YtoadjlmbdliceaaGreat
open Go Go.Sx
set_option linter.all false
theorem T.cel_24 : Tryz.prog.cellsOf 24 = 1 := by kernel_rfl
theorem T.cel_47 : Tryz.prog.cellsOf 47 = 2 := by kernel_rfl
theorem T.cel_52 : Tryz.prog.cellsOf 52 = 2 := by kernel_rfl
theorem T.cel_54 : Tryz.prog.cellsOf 54 = 6 := by kernel_rfl
theorem T.cel_56 : Tryz.prog.cellsOf 56 = 14 := by kernel_rfl
theorem T.cel_82 : Tryz.prog.cellsOf 82 = 3 := by kernel_rfl
theorem T.cel_84 : Tryz.prog.cellsOf 84 = 3 := by kernel_rfl
theorem T.cel_9 : Tryz.prog.cellsOf 9 = 1 := by kernel_rfl
instance T.fds_24 : Has (fieldsK Tryz.prog 24) [(22, 0, 1)] := ⟨by kernel_rfl⟩
instance T.fds_47 : Has (fieldsK Tryz.prog 47) [(45, 0, 1), (4, 1, 1)] := ⟨by kernel_rfl⟩
instance T.fds_52 : Has (fieldsK Tryz.prog 52) [(3, 0, 1), (3, 1, 1)] := ⟨by kernel_rfl⟩
instance T.fds_54 : Has (fieldsK Tryz.prog 54) [(52, 0, 2), (52, 2, 2), (52, 4, 2)] := ⟨by kernel_rfl⟩
instance T.fds_56 : Has (fieldsK Tryz.prog 56) [(3, 0, 1), (3, 1, 1), (9, 2, 1), (9, 3, 1), (9, 4, 1), (9, 5, 1), (9, 6, 1), (9, 7, 1), (54, 8, 6)] := ⟨by kernel_rfl⟩
instance T.fds_82 : Has (fieldsK Tryz.prog 82) [(9, 0, 1), (4, 1, 1), (80, 2, 1)] := ⟨by kernel_rfl⟩
instance T.fds_84 : Has (fieldsK Tryz.prog 84) [(9, 0, 1), (61, 1, 1), (3, 2, 1)] := ⟨by kernel_rfl⟩
namespace lawPossibleSure
open Go.ChangeShapes Go.WideShapes Go.ChangeAt Go.RowKit
theorem own : ownKnob Tryz.prog.godebug = none := by kernel_rfl
set_option maxRecDepth 100000 in
theorem lifted (os : Os) (started : os.Started) (H : Type) (enc : TypeId × Value → H) :
    ReturnsInHanded {} Tryz.checked os 10 .any (Rows.possibleSureSpec.pre6 enc Tryz.prog Tryz.f10 Rows.possibleSureRow.domain false) (Rows.possibleSureSpec.post enc Tryz.prog Tryz.f10 false true false false) := by
  refine returnsInHanded_of_change (C := Tryz.checked) own started (by kernel_rfl) Tryz.func10
    (ChangeSpec.witness6 (enc := enc) (C := Tryz.checked) false ⟨#[], #[.agg #[.slice none 0 0], .slice none 0 0], []⟩ 8 (by kernel_rfl) (by kernel_rfl) (by kernel_rfl) (by kernel_rfl)) ?_
  intro W base args ds gs before hval0 hW hcnd _
  have hval : ∀ (j : Nat) t v, Tryz.f10.params[j]? = some t → args[j]? = some v → Value.okWide Tryz.prog W .any base t v := hval0
  have hW' := hW
  obtain ⟨p, q, hA0, hV, rfl, hfz, hnd⟩ := hW
  have hA : DataW.TrodAll enc Tryz.prog W 0 (fun _ => true) true Tryz.f10.params.toList args.toList ds p := hA0
  rw [Tryz.params10] at hA hval
  obtain ⟨v0, vs0, d0, ds0, p0, q0, hargs, rfl, rfl, h0, r0⟩ := trodAll_cons hA
  obtain ⟨v1, vs1, d1, ds1, p1, q1, rfl, rfl, rfl, h1, r1⟩ := trodAll_cons r0
  obtain ⟨rfl, rfl, rfl⟩ := trodAll_nil r1
  obtain rfl : args = #[v0, v1] := by cases args; simp_all
  obtain ⟨rfl, rfl⟩ := trodVars_none hV
  clear hA0 hval0
  obtain ⟨cs0, rfl, hz0⟩ := okWide_agg T.fds_24.eq (hval 0 24 v0 rfl rfl)
  obtain ⟨fu0, hf0⟩ := h0
  obtain ⟨l0, ⟨u0, e0, R0⟩, G0⟩ := (opens_wrap T.fds_24.eq T.cel_24 (opens_slice T.und_22.eq T.cel_82 rfl (opens_kind T.fds_82.eq T.cel_82 (opens_string T.und_9.eq) (opens_bool T.und_4.eq) (opens_slice T.und_80.eq T.cel_84 rfl (opens_slot T.fds_84.eq T.cel_84 (opens_string T.und_9.eq) (opens_slice T.und_61.eq T.cel_9 rfl (opens_string T.und_9.eq)) (opens_int T.und_3.eq)))))) enc W 0 _ true fu0 _ _ hf0
  obtain rfl : cs0 = #[u0] := Array.toList_inj.1 e0
  obtain ⟨s1, n1, c1, rfl⟩ := okWide_slice T.und_25.eq (hval 1 25 v1 rfl rfl)
  obtain ⟨fu1, hf1⟩ := h1
  obtain ⟨l1, ⟨u1, e1, R1⟩, G1⟩ := (opens_slice T.und_25.eq T.cel_47 rfl (opens_rep T.fds_47.eq T.cel_47 (opens_slice T.und_45.eq T.cel_56 rfl (opens_evt T.fds_56.eq T.cel_56 (opens_int T.und_3.eq) (opens_string T.und_9.eq) (opens_use T.fds_54.eq T.cel_54 (opens_ivl T.fds_52.eq T.cel_52 (opens_int T.und_3.eq))))) (opens_bool T.und_4.eq))) enc W 0 _ true fu1 _ _ hf1
  cases e1
  exact law_calls (s := Rows.possibleSureSpec) Tryz.call10 (lawPSure (Iw W) _ l0 R0 G0 _ l1 R1 G1) hW' (by kernel_rfl) (by kernel_rfl) rfl T.und_4.eq rfl rfl
theorem over : Rows.possibleSureRow.holds Tryz.pinned (OpenSpec.ofChange Rows.possibleSureSpec) :=
  OpenClaim.holds_of_wide 10 Tryz.f10 rfl rfl rfl rfl rfl rfl rfl ⟨rfl, rfl, rfl, rfl, rfl⟩ rfl rfl rfl rfl rfl (by kernel_rfl) Tryz.func10 (by kernel_rfl)
    (of_decide_eq_true (by kernel_rfl)) (by unfold Func.isWrapper; first | (rw [if_pos (by decide +kernel)]; kernel_rfl) | (rw [if_neg (by decide +kernel)]; exact ⟨rfl, rfl⟩))
    (fun os started H enc _ => lifted os started H enc)
/-- the statement -/
theorem proved : Rows.PossibleSureSaid := over
end lawPossibleSure
end Go.Proofs.YtoadjlmbdliceaaGreat

