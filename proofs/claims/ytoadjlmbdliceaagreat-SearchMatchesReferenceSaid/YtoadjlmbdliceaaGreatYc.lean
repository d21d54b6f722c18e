/- The library of a symbolic run and the walks: merged. -/
import Derived.Test.YtoadjlmbdliceaaGreatYb
/- Walks, printed by a program out of the code of the functions: each theorem is a contract of one function. -/
namespace Go.Proofs.YtoadjlmbdliceaaGreat
open Go Go.Sx
set_option linter.all false
set_option maxRecDepth 20000
set_option maxHeartbeats 4000000
instance T.by_61 : Has (bytesK Tryz.prog 61) ([.slice none 0 0], 1, 24) := ⟨by kernel_rfl⟩
instance T.elt_89 : Has (eltK Tryz.prog 89) (61, 1) := ⟨by kernel_rfl⟩
instance T.und_197 : Has (Tryz.prog.underlying 197) (.int .u64) := ⟨by kernel_rfl⟩
instance T.und_89 : Has (Tryz.prog.underlying 89) (.slice 61) := ⟨by kernel_rfl⟩
instance T.zero_61 : Has (zeroK Tryz.prog 61) [.slice none 0 0] := ⟨by kernel_rfl⟩
theorem growS (I : IMap) (n : Nat) (hn : n ≤ 1000000) :
    FnX Tryz.prog 115 #[.slice none 0 0, .int .i64 ((n : Nat) : Int)] I [] (fun u r => r = .row u 9 1 0 []) := by
 refine enter Tryz.func115 Tryz.call115 rfl Tryz.ntmps115 rfl (fun w0 => ?_)
 refine go 9 ?_
 refine o_v rfl (OV.cast (u := .bool false) (v_lss rfl rfl) (congrArg Value.bool (decide_eq_false (by omega)))) ?_
 refine go 2 ?_
 refine c_false rfl ?_
 refine go 7 ?_
 refine o_v rfl (v_cap he rfl) ?_
 refine go 3 ?_
 refine o_v rfl (OV.cast (u := .int .i64 ((n : Nat) : Int)) (v_sub rfl rfl ⟨by omega, by omega⟩) (congrArg (Value.int .i64) (by omega))) ?_
 refine go 9 ?_
 refine cb rfl (fun h16 p16 => ?_) (fun h16 p16 => ?_)
 ·refine go 3 ?_
  refine o_v rfl (v_cap he rfl) ?_
  refine o_v rfl (v_slice_hi he rfl rfl 0 rfl (by omega)) ?_
  refine go 2 ?_
  refine o_appendMake0 he he he rfl rfl rfl rfl (by omega) (by omega) (by unfold maxLen; omega) rfl (fun g22 r22 hr22 => ?_)
  refine go 2 ?_
  refine o_v rfl (v_slice_hi he rfl rfl 0 rfl (by omega)) ?_
  refine go 10 ?_
  refine fin1 rfl rfl ?_
  refine sx_unrow (xss := []) (m := 0) (cap := n + r22) (k := 1) (by intro c hc; cases hc) (Uk.rep rfl _) rfl (by simp) hr22 ?_
  exact q_x rfl
 ·refine go 9 ?_
  refine fin1 rfl rfl ?_
  refine sx_nilrow 9 1 ?_
  exact q_x rfl

theorem concatS (I : IMap) (v : Value) (ls : List (List ByteArray)) (hv : RdS I v ls) (hb : ls.flatten.length ≤ 1000000) (hl : ls.length ≤ 1000000) :
    FnX Tryz.prog 93 #[v] I [] (fun u r => ∃ xs, r = .row u 9 1 ls.flatten.length xs ∧ Flat I xs ls.flatten) := by
 obtain ⟨A, c0, rfl, hA, hc, hm⟩ := hv
 refine enter Tryz.func93 Tryz.call93 rfl Tryz.ntmps93 rfl (fun w0 => ?_)
 refine go 19 ?_
 refine c_loop (α := Nat) 0 (fun i => I)
  (fun i => [(0, .slice A ls.length c0), (3, .int .i64 (((ls.take (i)).flatten.length : Nat) : Int)), (9, .slice A ls.length c0), (10, .int .i64 ((ls.length : Nat) : Int)), (11, .int .i64 ((i : Nat) : Int))])
  (fun i => [])
  (fun i => i ≤ ls.length)
  (fun i => ls.length - i) (Nat.zero_le _) rfl sb rfl ?_
 intro i hi
 have hfi := flat_lenLe ls i
 refine go 6 ?_
 refine cb rfl (fun h12 p12 => ?_) (fun h12 p12 => ?_)
 ·have hlt : i < ls.length := by omega
  have hf1 := congrArg List.length (flat_take1 hlt)
  rw [List.length_append] at hf1
  have hf2 := flat_lenLe ls (i + 1)
  refine go 6 ?_
  obtain ⟨b13, o13, w13, e13, c13, r13⟩ := RdA.at_ hA (i := i) (by omega)
  obtain ⟨q13, rfl, S13, d13, rfl, hS13, hd13, hm13⟩ := r13
  refine o_v rfl (v_idx he rfl rfl e13 (i) (by omega) (by omega)) ?_
  refine o_v rfl (v_ldI he rfl (c13 0 _ rfl)) ?_
  refine go 8 ?_
  refine o_v rfl (OV.cast (u := .int .i64 (((ls.take (i + 1)).flatten.length : Nat) : Int)) (v_add rfl rfl ⟨by omega, by omega⟩) (congrArg (Value.int .i64) (by omega))) ?_
  refine go 6 ?_
  refine o_v rfl (OV.cast (u := .bool false) (v_lss rfl rfl) (congrArg Value.bool (decide_eq_false (by omega)))) ?_
  refine go 2 ?_
  refine c_false rfl ?_
  refine go 8 ?_
  exact q_next (i + 1) (by omega) (by omega) rfl sb rfl
 ·have e : i = ls.length := by omega
  subst e
  rw [List.take_length]
  refine go 9 ?_
  refine o_callX0 (growS _ ls.flatten.length hb) rfl rfl (fun v24 s24 q24 => ?_)
  obtain rfl := q24
  refine go 12 ?_
  refine c_loop3 ((0 : Nat)) (_) ([]) (fun i v6 xs => I)
   (fun i v6 xs => [(0, .slice A ls.length c0), (6, v6), (25, .slice A ls.length c0), (26, .int .i64 ((ls.length : Nat) : Int)), (27, .int .i64 ((i : Nat) : Int))])
   (fun i v6 xs => [.row v6 9 1 (ls.take (i)).flatten.length xs])
   (fun i v6 xs => i ≤ ls.length ∧ Flat I xs (ls.take i).flatten)
   (fun i v6 xs => ls.length - i) ⟨Nat.zero_le _, .nil⟩ rfl sb rfl ?_
  intro i v6 xs ⟨hi, hF⟩
  have hfi := flat_lenLe ls i
  refine go 6 ?_
  refine cb rfl (fun h28 p28 => ?_) (fun h28 p28 => ?_)
  ·have hlt : i < ls.length := by omega
   have hf1 := congrArg List.length (flat_take1 hlt)
   rw [List.length_append] at hf1
   have hf2 := flat_lenLe ls (i + 1)
   refine go 6 ?_
   obtain ⟨b29, o29, w29, e29, c29, r29⟩ := RdA.at_ hA (i := i) (by omega)
   obtain ⟨q29, rfl, S29, d29, rfl, hS29, hd29, hm29⟩ := r29
   refine o_v rfl (v_idx he rfl rfl e29 (i) (by omega) (by omega)) ?_
   refine o_v rfl (v_ldI he rfl (c29 0 _ rfl)) ?_
   refine go 7 ?_
   refine o_appendR (⟨_, _, rfl, hS29, hd29, hm29⟩) rfl he he rfl rfl rfl rfl (by omega) (by omega) rfl (fun v33 x33 f33 => ?_)
   refine go 9 ?_
   exact q_next3 (i + 1) (_) (_) ⟨by omega, by rw [flat_take1 hlt]; exact hF.append f33⟩ (by omega) rfl sb (by rw [flat_take1 hlt, List.length_append])
  ·refine go 12 ?_
   refine fin1 rfl rfl ?_
   have e : i = ls.length := by omega
   subst e
   rw [List.take_length] at hF ⊢
   exact q_x ⟨xs, rfl, hF⟩

theorem isNaNS (I : IMap) (s : ByteArray) :
    FnV Tryz.prog 184 #[.string s] I (.bool false) := by
 refine enter Tryz.func184 Tryz.call184 rfl Tryz.ntmps184 rfl (fun w0 => ?_)
 refine go 14 ?_
 refine fin1 rfl rfl ?_
 exact q_v (congrArg Value.bool (by simp))

theorem lessS (I : IMap) (s t : ByteArray) :
    FnV Tryz.prog 150 #[.string s, .string t] I (.bool (sLt s t)) := by
 refine enter Tryz.func150 Tryz.call150 rfl Tryz.ntmps150 rfl (fun w0 => ?_)
 refine go 9 ?_
 refine o_callV (isNaNS _ s) rfl rfl ?_
 refine go 14 ?_
 refine fin1 rfl rfl ?_
 exact q_v rfl

theorem insStr (I : IMap) {rest : Rst 1} {cap : Nat} (g : Nat) (l : List ByteArray) (hl : 0 < l.length) (hl2 : l.length ≤ 12) (hc : l.length + rest.l.length = cap) (hcm : cap ≤ maxLen) :
    FnX Tryz.prog 144 #[.slice (some ⟨g, 0, none⟩) l.length cap, .int .i64 0, .int .i64 ((l.length : Nat) : Int)] I [.blk g 9 (strCh l ++ rest.l).flatten] (fun u r => u = .tuple #[] ∧ ∃ m, Pm l m ∧ r = .blk g 9 (strCh m ++ rest.l).flatten) := by
 refine enter Tryz.func144 Tryz.call144 rfl Tryz.ntmps144 rfl (fun w0 => ?_)
 refine go 3 ?_
 refine o_v rfl (OV.cast (u := .int .i64 ((1 : Nat) : Int)) (v_add rfl rfl ⟨by omega, by omega⟩) (congrArg (Value.int .i64) (by omega))) ?_
 refine go 4 ?_
 refine c_loop2 (1) (l) (fun i m => I)
  (fun i m => [(0, .slice (some ⟨g, 0, none⟩) l.length cap), (1, .int .i64 0), (2, .int .i64 ((l.length : Nat) : Int)), (6, .int .i64 ((i : Nat) : Int))])
  (fun i m => [.blk g 9 (strCh m ++ rest.l).flatten])
  (fun i m => i ≤ l.length ∧ Pm l m)
  (fun i m => l.length - i) ⟨by omega, Pm.refl l⟩ rfl sb rfl ?_
 intro i m ⟨hi, hpm⟩
 refine go 8 ?_
 refine cb rfl (fun h12 p12 => ?_) (fun h12 p12 => ?_)
 ·have hlt : i < l.length := by omega
  refine go 11 ?_
  refine c_loop2 (i) (m) (fun j k => I)
   (fun j k => [(0, .slice (some ⟨g, 0, none⟩) l.length cap), (1, .int .i64 0), (2, .int .i64 ((l.length : Nat) : Int)), (6, .int .i64 ((i : Nat) : Int)), (7, .int .i64 ((j : Nat) : Int))])
   (fun j k => [.blk g 9 (strCh k ++ rest.l).flatten])
   (fun j k => j ≤ i ∧ Pm l k)
   (fun j k => j) ⟨Nat.le_refl _, hpm⟩ rfl sb rfl ?_
  intro j k ⟨hj, hpk⟩
  have hkl := hpk.1
  refine go 2 ?_
  refine d_startH T.mixed ?_
  refine d_tv 0 rfl rfl (by kernel_rfl) rfl (.refl _) rfl (v_move rfl) ?_
  refine d_tv 1 rfl rfl (by kernel_rfl) rfl (.refl _) rfl (v_move rfl) ?_
  refine d_tv 2 rfl rfl (by kernel_rfl) rfl (.refl _) rfl (v_gtr rfl rfl) ?_
  refine d_tv 3 rfl rfl (by kernel_rfl) rfl (.refl _) rfl (v_move rfl) ?_
  refine sxb 19 rfl (fun h19 p19 => ?_) (fun h19 p19 => ?_)
  ·have hjk : j < k.length := by omega
   have hjk1 : j - 1 < k.length := by omega
   refine d_t 4 rfl rfl (by kernel_rfl) rfl (fun _ m => m.keeps (.refl _)) (y_yes rfl rfl h19 (v_move rfl)) ?_
   refine d_t 5 rfl rfl (by kernel_rfl) rfl (fun _ m => m.keeps (.refl _)) (y_yes rfl rfl h19 (v_move rfl)) ?_
   refine d_t 6 rfl rfl (by kernel_rfl) rfl (fun _ m => m.keeps (.refl _)) (y_yes rfl rfl h19 (v_idx he rfl rfl rfl (j) (by omega) (by omega))) ?_
   refine d_t 7 rfl rfl (by kernel_rfl) rfl (fun _ m => m.keeps (.refl _)) (y_yes rfl rfl h19 (v_lds m0 (Uk.append (str_uk _) rest.uk) he rfl (j) (by omega) (str_at hjk))) ?_
   refine d_t 8 rfl rfl (by kernel_rfl) rfl (fun _ m => m.keeps (.refl _)) (y_yes rfl rfl h19 (v_move rfl)) ?_
   refine d_t 9 rfl rfl (by kernel_rfl) rfl (fun _ m => m.keeps (.refl _)) (y_yes rfl rfl h19 (v_move rfl)) ?_
   refine d_t 10 rfl rfl (by kernel_rfl) rfl (fun _ m => m.keeps (.refl _)) (y_yes rfl rfl h19 (OV.cast (u := .int .i64 ((j - 1 : Nat) : Int)) (v_sub rfl rfl ⟨by omega, by omega⟩) (congrArg (Value.int .i64) (by omega)))) ?_
   refine d_t 11 rfl rfl (by kernel_rfl) rfl (fun _ m => m.keeps (.refl _)) (y_yes rfl rfl h19 (v_idx he rfl rfl rfl (j - 1) (by omega) (by omega))) ?_
   refine d_t 12 rfl rfl (by kernel_rfl) rfl (fun _ m => m.keeps (.refl _)) (y_yes rfl rfl h19 (v_lds m0 (Uk.append (str_uk _) rest.uk) he rfl (j - 1) (by omega) (str_at hjk1))) ?_
   refine d_one 13 (by kernel_rfl) rfl ?_
   refine o_yes rfl rfl h19 (o_callV (lessS _ _ _) rfl rfl ?_)
   refine d_on (fun _ m => m.keeps (.refl _)) ?_
   refine d_tv 14 rfl rfl (by kernel_rfl) rfl (.refl _) rfl (v_and_t h19 rfl rfl) ?_
   refine d_done (by kernel_rfl) ?_
   refine go 1 ?_
   refine cb rfl (fun h30 p30 => ?_) (fun h30 p30 => ?_)
   ·refine go 4 ?_
    refine d_start1 T.mixed ?_
    refine d_tv 0 rfl rfl (by kernel_rfl) rfl (.cons _ .slnil) rfl (v_move rfl) ?_
    refine d_tv 1 rfl rfl (by kernel_rfl) rfl (.cons _ .slnil) rfl (v_move rfl) ?_
    refine d_tv 2 rfl rfl (by kernel_rfl) rfl (.cons _ .slnil) rfl (v_move rfl) ?_
    refine d_tv 3 rfl rfl (by kernel_rfl) rfl (.cons _ .slnil) rfl (v_move rfl) ?_
    refine d_tv 4 rfl rfl (by kernel_rfl) rfl (.cons _ .slnil) rfl (OV.cast (u := .int .i64 ((j - 1 : Nat) : Int)) (v_sub rfl rfl ⟨by omega, by omega⟩) (congrArg (Value.int .i64) (by omega))) ?_
    refine d_tv 5 rfl rfl (by kernel_rfl) rfl (.cons _ .slnil) rfl (v_move rfl) ?_
    refine d_tv 6 rfl rfl (by kernel_rfl) rfl (.cons _ .slnil) rfl (v_move rfl) ?_
    refine d_tv 7 rfl rfl (by kernel_rfl) rfl (.cons _ .slnil) rfl (OV.cast (u := .int .i64 ((j - 1 : Nat) : Int)) (v_sub rfl rfl ⟨by omega, by omega⟩) (congrArg (Value.int .i64) (by omega))) ?_
    refine d_tv 8 rfl rfl (by kernel_rfl) rfl (.cons _ .slnil) rfl (v_idx he rfl rfl rfl (j - 1) (by omega) (by omega)) ?_
    refine d_tv 10 rfl rfl (by kernel_rfl) rfl (.cons _ .slnil) rfl (v_move rfl) ?_
    refine d_tv 11 rfl rfl (by kernel_rfl) rfl (.cons _ .slnil) rfl (v_move rfl) ?_
    refine d_tv 12 rfl rfl (by kernel_rfl) rfl (.cons _ .slnil) rfl (v_idx he rfl rfl rfl (j) (by omega) (by omega)) ?_
    refine d_two 9 13 (by kernel_rfl) rfl rfl ?_ ?_
    ·refine o_val rfl (v_lds m0 (Uk.append (str_uk _) rest.uk) he rfl (j - 1) (by omega) (str_at hjk1)) ?_
     refine d_on (fun _ m => m.keeps (.cons _ .slnil)) ?_
     refine d_one 13 (by kernel_rfl) rfl ?_
     refine o_val rfl (v_lds m0 (Uk.append (str_uk _) rest.uk) he rfl (j) (by omega) (str_at hjk)) ?_
     refine d_on (fun _ m => m.keeps (.cons _ .slnil)) ?_
     refine d_tv 14 rfl rfl (by kernel_rfl) rfl (.cons _ .slnil) rfl (v_idx he rfl rfl rfl (j) (by omega) (by omega)) ?_
     refine d_one 15 (by kernel_rfl) rfl ?_
     refine o_stc _ (j) (by first | exact Uk.append (str_uk _) rest.uk | exact (Uk.append (str_uk _) rest.uk).set rfl _) he rfl rfl rfl rfl rfl (by omega) (by simp [str_len]; omega) ?_
     refine d_on (fun _ m => m.keeps (.cons _ .slnil)) ?_
     refine d_tv 16 rfl rfl (by kernel_rfl) rfl (.cons _ .slnil) rfl (v_idx he rfl rfl rfl (j - 1) (by omega) (by omega)) ?_
     refine d_one 17 (by kernel_rfl) rfl ?_
     refine o_stc _ (j - 1) (by first | exact Uk.append (str_uk _) rest.uk | exact (Uk.append (str_uk _) rest.uk).set rfl _) he rfl rfl rfl rfl rfl (by omega) (by simp [str_len]; omega) ?_
     refine d_on (fun _ m => m.keeps (.cons _ .slnil)) ?_
     refine d_done (by kernel_rfl) ?_
     refine go 4 ?_
     refine o_v rfl (OV.cast (u := .int .i64 ((j - 1 : Nat) : Int)) (v_sub rfl rfl ⟨by omega, by omega⟩) (congrArg (Value.int .i64) (by omega))) ?_
     refine go 3 ?_
     exact q_next2 (j - 1) ((k.set j k[j - 1]).set (j - 1) k[j]) ⟨by omega, hpk.swap hjk hjk1⟩ (by omega) rfl sb (by first | rw [← str_swp hjk hjk1] | rw [← str_swp' hjk hjk1 (by omega)])
    ·refine o_val rfl (v_lds m0 (Uk.append (str_uk _) rest.uk) he rfl (j) (by omega) (str_at hjk)) ?_
     refine d_on (fun _ m => m.keeps (.cons _ .slnil)) ?_
     refine d_one 9 (by kernel_rfl) rfl ?_
     refine o_val rfl (v_lds m0 (Uk.append (str_uk _) rest.uk) he rfl (j - 1) (by omega) (str_at hjk1)) ?_
     refine d_on (fun _ m => m.keeps (.cons _ .slnil)) ?_
     refine d_tv 14 rfl rfl (by kernel_rfl) rfl (.cons _ .slnil) rfl (v_idx he rfl rfl rfl (j) (by omega) (by omega)) ?_
     refine d_one 15 (by kernel_rfl) rfl ?_
     refine o_stc _ (j) (by first | exact Uk.append (str_uk _) rest.uk | exact (Uk.append (str_uk _) rest.uk).set rfl _) he rfl rfl rfl rfl rfl (by omega) (by simp [str_len]; omega) ?_
     refine d_on (fun _ m => m.keeps (.cons _ .slnil)) ?_
     refine d_tv 16 rfl rfl (by kernel_rfl) rfl (.cons _ .slnil) rfl (v_idx he rfl rfl rfl (j - 1) (by omega) (by omega)) ?_
     refine d_one 17 (by kernel_rfl) rfl ?_
     refine o_stc _ (j - 1) (by first | exact Uk.append (str_uk _) rest.uk | exact (Uk.append (str_uk _) rest.uk).set rfl _) he rfl rfl rfl rfl rfl (by omega) (by simp [str_len]; omega) ?_
     refine d_on (fun _ m => m.keeps (.cons _ .slnil)) ?_
     refine d_done (by kernel_rfl) ?_
     refine go 4 ?_
     refine o_v rfl (OV.cast (u := .int .i64 ((j - 1 : Nat) : Int)) (v_sub rfl rfl ⟨by omega, by omega⟩) (congrArg (Value.int .i64) (by omega))) ?_
     refine go 3 ?_
     exact q_next2 (j - 1) ((k.set j k[j - 1]).set (j - 1) k[j]) ⟨by omega, hpk.swap hjk hjk1⟩ (by omega) rfl sb (by first | rw [← str_swp hjk hjk1] | rw [← str_swp' hjk hjk1 (by omega)])
   ·refine go 12 ?_
    exact q_next2 (i + 1) (k) ⟨by omega, hpk⟩ (by omega) rfl sb rfl
  ·refine d_t 4 rfl rfl (by kernel_rfl) rfl (fun _ m => m.keeps (.refl _)) (y_no rfl rfl h19) ?_
   refine d_t 5 rfl rfl (by kernel_rfl) rfl (fun _ m => m.keeps (.refl _)) (y_no rfl rfl h19) ?_
   refine d_t 6 rfl rfl (by kernel_rfl) rfl (fun _ m => m.keeps (.refl _)) (y_no rfl rfl h19) ?_
   refine d_t 7 rfl rfl (by kernel_rfl) rfl (fun _ m => m.keeps (.refl _)) (y_no rfl rfl h19) ?_
   refine d_t 8 rfl rfl (by kernel_rfl) rfl (fun _ m => m.keeps (.refl _)) (y_no rfl rfl h19) ?_
   refine d_t 9 rfl rfl (by kernel_rfl) rfl (fun _ m => m.keeps (.refl _)) (y_no rfl rfl h19) ?_
   refine d_t 10 rfl rfl (by kernel_rfl) rfl (fun _ m => m.keeps (.refl _)) (y_no rfl rfl h19) ?_
   refine d_t 11 rfl rfl (by kernel_rfl) rfl (fun _ m => m.keeps (.refl _)) (y_no rfl rfl h19) ?_
   refine d_t 12 rfl rfl (by kernel_rfl) rfl (fun _ m => m.keeps (.refl _)) (y_no rfl rfl h19) ?_
   refine d_t 13 rfl rfl (by kernel_rfl) rfl (fun _ m => m.keeps (.refl _)) (y_no rfl rfl h19) ?_
   refine d_tv 14 rfl rfl (by kernel_rfl) rfl (.refl _) rfl (v_and_f h19 rfl) ?_
   refine d_done (by kernel_rfl) ?_
   refine go 1 ?_
   refine c_false rfl ?_
   refine go 12 ?_
   exact q_next2 (i + 1) (k) ⟨by omega, hpk⟩ (by omega) rfl sb rfl
 ·refine go 4 ?_
  refine end0 rfl ?_
  exact q_x ⟨rfl, m, hpm, rfl⟩

theorem pdqStr (I : IMap) {rest : Rst 1} {cap : Nat} (g : Nat) (l : List ByteArray) (hl : 0 < l.length) (hl2 : l.length ≤ 12) (hc : l.length + rest.l.length = cap) (hcm : cap ≤ maxLen) (z : Int) :
    FnX Tryz.prog 116 #[.slice (some ⟨g, 0, none⟩) l.length cap, .int .i64 0, .int .i64 ((l.length : Nat) : Int), .int .i64 z] I [.blk g 9 (strCh l ++ rest.l).flatten] (fun u r => u = .tuple #[] ∧ ∃ m, Pm l m ∧ r = .blk g 9 (strCh m ++ rest.l).flatten) := by
 refine enter Tryz.func116 Tryz.call116 rfl Tryz.ntmps116 rfl (fun w0 => ?_)
 refine go 11 ?_
 refine c_loop (α := Nat) 0 (fun i => I)
  (fun i => [(0, .slice (some ⟨g, 0, none⟩) l.length cap), (1, .int .i64 0), (2, .int .i64 ((l.length : Nat) : Int))])
  (fun i => [.blk g 9 (strCh l ++ rest.l).flatten])
  (fun i => True)
  (fun i => 0) trivial rfl sb rfl ?_
 intro i _
 refine go 5 ?_
 refine o_v rfl (OV.cast (u := .int .i64 ((l.length : Nat) : Int)) (v_sub rfl rfl ⟨by omega, by omega⟩) (congrArg (Value.int .i64) (by omega))) ?_
 refine go 7 ?_
 refine o_v rfl (OV.cast (u := .bool true) (v_leq rfl rfl) (congrArg Value.bool (decide_eq_true (by omega)))) ?_
 refine go 2 ?_
 refine c_true rfl ?_
 refine go 6 ?_
 refine o_callX1 (insStr _ g l hl hl2 hc hcm) rfl rfl (fun v27 s27 q27 => ?_)
 obtain ⟨rfl, m, hpm, rfl⟩ := q27
 refine go 7 ?_
 refine fin0 rfl ?_
 exact q_x ⟨rfl, m, hpm, rfl⟩

theorem len64 (I : IMap) (n : Nat) (hn : n < 200) :
    FnE Tryz.prog 154 #[.int .u64 ((n : Nat) : Int)] I (fun u => ∃ k : Nat, u = .int .i64 (k : Int)) := by
 refine enter Tryz.func154 Tryz.call154 rfl Tryz.ntmps154 rfl (fun w0 => ?_)
 refine go 9 ?_
 refine o_v rfl (OV.cast (u := .bool false) (v_geq rfl rfl) (congrArg Value.bool (decide_eq_false (by omega)))) ?_
 refine go 2 ?_
 refine c_false rfl ?_
 refine go 6 ?_
 refine o_v rfl (OV.cast (u := .bool false) (v_geq rfl rfl) (congrArg Value.bool (decide_eq_false (by omega)))) ?_
 refine go 2 ?_
 refine c_false rfl ?_
 refine go 6 ?_
 refine o_v rfl (OV.cast (u := .bool false) (v_geq rfl rfl) (congrArg Value.bool (decide_eq_false (by omega)))) ?_
 refine go 2 ?_
 refine c_false rfl ?_
 refine go 6 ?_
 refine o_v rfl (v_conv he he rfl (m := ((n : Nat) : Int)) (wrap_u8 n (by omega))) ?_
 refine o_v rfl (v_sidxK he rfl rfl n rfl (Nat.lt_of_lt_of_le hn (by decide +kernel))) ?_
 refine o_v rfl (v_conv he he rfl (conv_u8 _)) ?_
 refine o_v rfl (v_add rfl rfl (conv_add _)) ?_
 refine go 4 ?_
 refine fin1 rfl rfl ?_
 exact q_e ⟨_, by rw [Int.zero_add]⟩

theorem bitsLen (I : IMap) (n : Nat) (hn : n < 200) :
    FnE Tryz.prog 117 #[.int .u64 ((n : Nat) : Int)] I (fun u => ∃ k : Nat, u = .int .i64 (k : Int)) := by
 refine enter Tryz.func117 Tryz.call117 rfl Tryz.ntmps117 rfl (fun w0 => ?_)
 refine go 6 ?_
 refine c_false rfl ?_
 refine go 6 ?_
 refine o_callE (len64 _ n hn) rfl rfl (fun v7 q7 => ?_)
 obtain ⟨k, rfl⟩ := q7
 refine go 4 ?_
 refine fin1 rfl rfl ?_
 exact q_e ⟨_, rfl⟩

theorem sortStr (I : IMap) {rest : Rst 1} {cap : Nat} (g : Nat) (l : List ByteArray) (hl : 0 < l.length) (hl2 : l.length ≤ 12) (hc : l.length + rest.l.length = cap) (hcm : cap ≤ maxLen) :
    FnX Tryz.prog 94 #[.slice (some ⟨g, 0, none⟩) l.length cap] I [.blk g 9 (strCh l ++ rest.l).flatten] (fun u r => u = .tuple #[] ∧ ∃ m, Pm l m ∧ r = .blk g 9 (strCh m ++ rest.l).flatten) := by
 refine enter Tryz.func94 Tryz.call94 rfl Tryz.ntmps94 rfl (fun w0 => ?_)
 refine go 11 ?_
 refine o_v rfl (v_conv he he rfl (m := ((l.length : Nat) : Int)) (wrap_u64 _ (by omega) (by omega))) ?_
 refine go 1 ?_
 refine o_callE (bitsLen _ l.length (by omega)) rfl rfl (fun v9 q9 => ?_)
 obtain ⟨z, rfl⟩ := q9
 refine go 1 ?_
 refine o_callX1 (pdqStr _ g l hl hl2 hc hcm z) rfl rfl (fun v10 s10 q10 => ?_)
 obtain ⟨rfl, m, hpm, rfl⟩ := q10
 refine go 1 ?_
 refine end0 rfl ?_
 exact q_x ⟨rfl, m, hpm, rfl⟩

theorem compactStr (I : IMap) {rest : Rst 1} {cap : Nat} (g : Nat) (l : List ByteArray) (hl : 0 < l.length) (hl2 : l.length ≤ 12) (hc : l.length + rest.l.length = cap) (hcm : cap ≤ maxLen) :
    FnX Tryz.prog 95 #[.slice (some ⟨g, 0, none⟩) l.length cap] I [.blk g 9 (strCh l ++ rest.l).flatten] (fun u r => ∃ m rest2, (∀ x, x ∈ m ↔ x ∈ l) ∧ m.length ≤ l.length ∧ u = .slice (some ⟨g, 0, none⟩) m.length cap ∧ r = .blk g 9 (strCh m ++ rest2).flatten ∧ Uk 1 rest2 ∧ m.length + rest2.length = cap) := by
 refine enter Tryz.func95 Tryz.call95 rfl Tryz.ntmps95 rfl (fun w0 => ?_)
 refine go 13 ?_
 refine cb rfl (fun h8 p8 => ?_) (fun h8 p8 => ?_)
 ·refine go 8 ?_
  refine fin1 rfl rfl ?_
  exact q_x ⟨l, rest.l, fun _ => Iff.rfl, Nat.le_refl _, rfl, rfl, rest.uk, hc⟩
 ·refine go 9 ?_
  refine c_loop (α := Nat) 1 (fun k0 => I)
   (fun k0 => [(0, .slice (some ⟨g, 0, none⟩) l.length cap), (3, .int .i64 ((k0 : Nat) : Int))])
   (fun k0 => [.blk g 9 (strCh l ++ rest.l).flatten])
   (fun k0 => 1 ≤ k0 ∧ k0 ≤ l.length)
   (fun k0 => l.length - k0) ⟨Nat.le_refl _, hl⟩ rfl sb rfl ?_
  intro k0 ⟨hk1, hk2⟩
  refine go 9 ?_
  refine cb rfl (fun h13 p13 => ?_) (fun h13 p13 => ?_)
  ·have hkl : k0 < l.length := by omega
   have hkm : k0 - 1 < l.length := by omega
   refine go 5 ?_
   refine d_startH T.mixed ?_
   refine d_tv 0 rfl rfl (by kernel_rfl) rfl (.refl _) rfl (v_move rfl) ?_
   refine d_tv 1 rfl rfl (by kernel_rfl) rfl (.refl _) rfl (v_move rfl) ?_
   refine d_tv 2 rfl rfl (by kernel_rfl) rfl (.refl _) rfl (v_idx he rfl rfl rfl (k0) (by omega) (by omega)) ?_
   refine d_tv 3 rfl rfl (by kernel_rfl) rfl (.refl _) rfl (v_lds m0 (Uk.append (str_uk _) rest.uk) he rfl (k0) (by omega) (str_at hkl)) ?_
   refine d_tv 4 rfl rfl (by kernel_rfl) rfl (.refl _) rfl (v_move rfl) ?_
   refine d_tv 5 rfl rfl (by kernel_rfl) rfl (.refl _) rfl (v_move rfl) ?_
   refine d_tv 6 rfl rfl (by kernel_rfl) rfl (.refl _) rfl (OV.cast (u := .int .i64 ((k0 - 1 : Nat) : Int)) (v_sub rfl rfl ⟨by omega, by omega⟩) (congrArg (Value.int .i64) (by omega))) ?_
   refine d_tv 7 rfl rfl (by kernel_rfl) rfl (.refl _) rfl (v_idx he rfl rfl rfl (k0 - 1) (by omega) (by omega)) ?_
   refine d_tv 8 rfl rfl (by kernel_rfl) rfl (.refl _) rfl (v_lds m0 (Uk.append (str_uk _) rest.uk) he rfl (k0 - 1) (by omega) (str_at hkm)) ?_
   refine d_tv 9 rfl rfl (by kernel_rfl) rfl (.refl _) rfl (v_seql rfl rfl) ?_
   refine d_done (by kernel_rfl) ?_
   refine go 1 ?_
   refine cb rfl (fun h25 p25 => ?_) (fun h25 p25 => ?_)
   ·have hst : Cpt l l k0 (k0 + 1) := Cpt.start hk1 hkl p25
    refine go 4 ?_
    refine o_v rfl (OV.cast (u := .slice (some ⟨g, k0, none⟩) (l.length - k0) (cap - k0)) (v_slice_lo he rfl rfl k0 (by omega) (by omega)) (by rw [cutA, if_neg (by omega)]; simp [add_lit])) ?_
    refine go 10 ?_
    refine c_loop3 (1) (k0) (l) (fun q k B => I)
     (fun q k B => [(0, .slice (some ⟨g, 0, none⟩) l.length cap), (3, .int .i64 ((k : Nat) : Int)), (4, .slice (some ⟨g, k0, none⟩) (l.length - k0) (cap - k0)), (5, .int .i64 ((q : Nat) : Int))])
     (fun q k B => [.blk g 9 (strCh B ++ rest.l).flatten])
     (fun q k B => 1 ≤ q ∧ 1 ≤ k ∧ Cpt l B k (k0 + q))
     (fun q k B => l.length - (k0 + q)) ⟨Nat.le_refl _, hk1, hst⟩ rfl sb rfl ?_
    intro q k B ⟨hq, hk, hB⟩
    have hBl := hB.len
    have hkp := hB.kp
    have hpl := hB.pl
    refine go 5 ?_
    refine o_v rfl (OV.cast (u := .int .i64 ((l.length - k0 : Nat) : Int)) (v_len_slice he rfl) rfl) ?_
    refine go 3 ?_
    refine cb rfl (fun h32 p32 => ?_) (fun h32 p32 => ?_)
    ·have hpq : k0 + q < l.length := by omega
     have hpB : k0 + q < B.length := by omega
     have hpm : k0 + q - 1 < B.length := by omega
     have hg1 := hB.get (j := k0 + q) (by omega) hpq hpB
     have hg2 := hB.get (j := k0 + q - 1) (by omega) (by omega) hpm
     refine go 5 ?_
     refine d_startH T.mixed ?_
     refine d_tv 0 rfl rfl (by kernel_rfl) rfl (.refl _) rfl (v_move rfl) ?_
     refine d_tv 1 rfl rfl (by kernel_rfl) rfl (.refl _) rfl (v_move rfl) ?_
     refine d_tv 2 rfl rfl (by kernel_rfl) rfl (.refl _) rfl (v_idx he rfl rfl rfl (q) (by omega) (by omega)) ?_
     refine d_tv 3 rfl rfl (by kernel_rfl) rfl (.refl _) rfl (v_lds m0 (Uk.append (str_uk _) rest.uk) he rfl (k0 + q) (by omega) (str_at hpB)) ?_
     refine d_tv 4 rfl rfl (by kernel_rfl) rfl (.refl _) rfl (v_move rfl) ?_
     refine d_tv 5 rfl rfl (by kernel_rfl) rfl (.refl _) rfl (v_move rfl) ?_
     refine d_tv 6 rfl rfl (by kernel_rfl) rfl (.refl _) rfl (OV.cast (u := .int .i64 ((q - 1 : Nat) : Int)) (v_sub rfl rfl ⟨by omega, by omega⟩) (congrArg (Value.int .i64) (by omega))) ?_
     refine d_tv 7 rfl rfl (by kernel_rfl) rfl (.refl _) rfl (v_idx he rfl rfl rfl (q - 1) (by omega) (by omega)) ?_
     refine d_tv 8 rfl rfl (by kernel_rfl) rfl (.refl _) rfl (v_lds m0 (Uk.append (str_uk _) rest.uk) he rfl (k0 + q - 1) (by omega) (str_at hpm)) ?_
     refine d_tv 9 rfl rfl (by kernel_rfl) rfl (.refl _) rfl (v_sneq rfl rfl) ?_
     refine d_done (by kernel_rfl) ?_
     refine go 1 ?_
     refine cb rfl (fun h44 p44 => ?_) (fun h44 p44 => ?_)
     ·refine go 6 ?_
      refine o_v rfl (v_idx he rfl rfl rfl (q) (by omega) (by omega)) ?_
      refine o_v rfl (v_lds m0 (Uk.append (str_uk _) rest.uk) he rfl (k0 + q) (by omega) (str_at hpB)) ?_
      refine o_v rfl (v_idx he rfl rfl rfl (k) (by omega) (by omega)) ?_
      refine go 1 ?_
      refine o_stc _ (k) (Uk.append (str_uk _) rest.uk) he rfl rfl rfl rfl rfl (by omega) (by simp [str_len]; omega) ?_
      refine go 15 ?_
      exact q_next3 (q + 1) (k + 1) (B.set k l[k0 + q]) ⟨by omega, by omega, hB.keep hpq⟩ (by omega) rfl sb (by rw [← hg1, ← str_set (by omega)])
     ·refine go 9 ?_
      exact q_next3 (q + 1) (k) (B) ⟨by omega, hk, hB.skip hpq (by rw [← hg1, ← hg2]; simpa using h44) (by omega)⟩ (by omega) rfl sb rfl
    ·have hend : k0 + q = l.length := by omega
     have hdone := fun x => (hend ▸ hB).done x
     refine go 9 ?_
     refine o_v rfl (OV.cast (u := .slice (some ⟨g, k, none⟩) (l.length - k) (cap - k)) (v_slice_lo he rfl rfl k (by omega) (by omega)) (by rw [cutA, if_neg (by omega)]; simp [add_lit])) ?_
     refine go 1 ?_
     refine o_clear k he he rfl rfl rfl rfl (Uk.append (str_uk _) rest.uk) (fun _ => by rw [Nat.mul_one]) (by simp [str_len]; omega) ?_
     rw [str_clear (by omega)]
     refine go 6 ?_
     refine o_v rfl (v_slice_hi he rfl rfl k (by omega) (by omega)) ?_
     refine go 9 ?_
     refine fin1 rfl rfl ?_
     refine q_x ⟨B.take k, List.replicate (l.length - k) [.string ⟨#[]⟩] ++ rest.l, hdone, by rw [List.length_take]; omega, ?_, rfl, (Uk.rep rfl _).append rest.uk, by rw [List.length_take, List.length_append, List.length_replicate]; omega⟩
     rw [List.length_take, Nat.min_eq_left (by omega)]
   ·refine go 9 ?_
    exact q_next (k0 + 1) ⟨by omega, by omega⟩ (by omega) rfl sb rfl
  ·refine go 12 ?_
   refine fin1 rfl rfl ?_
   exact q_x ⟨l, rest.l, fun _ => Iff.rfl, Nat.le_refl _, rfl, rfl, rest.uk, hc⟩

theorem sortRow (I : IMap) (v : Value) (l : List ByteArray) (xs : List Value) (hF : Flat I xs l) (hl : 0 < l.length) (hl2 : l.length ≤ 12) :
    FnX Tryz.prog 94 #[v] I [.row v 9 1 l.length xs] (fun u r => u = .tuple #[] ∧ ∃ m ys, Pm l m ∧ Flat I ys m ∧ r = .row v 9 1 l.length ys) :=
  FnX.of_rowF (args := fun v => [v]) hF rfl rfl hl fun g cap rest xss hv hC hR hc hcm => by
    subst hv
    obtain rfl := str_of hC
    refine FnX.backE (k := 1) ((sortStr I (rest := ⟨rest, hR⟩) g l hl hl2 hc hcm).weak ?_)
    rintro u r ⟨rfl, m, hpm, rfl⟩
    exact ⟨strCh m, rest, l.length, cap, str_uk m, hR, by rw [str_len, hpm.1], hc, hcm, rfl, rfl, m, _, hpm, (str_flat I m).flat, rfl⟩
theorem compactRow (I : IMap) (v : Value) (l : List ByteArray) (xs : List Value) (hF : Flat I xs l) (hl : 0 < l.length) (hl2 : l.length ≤ 12) :
    FnX Tryz.prog 95 #[v] I [.row v 9 1 l.length xs] (fun u r => ∃ m ys, (∀ x, x ∈ m ↔ x ∈ l) ∧ m.length ≤ l.length ∧ Flat I ys m ∧ r = .row u 9 1 m.length ys) :=
  FnX.of_rowF (args := fun v => [v]) hF rfl rfl hl fun g cap rest xss hv hC hR hc hcm => by
    subst hv
    obtain rfl := str_of hC
    refine FnX.backE (k := 1) ((compactStr I (rest := ⟨rest, hR⟩) g l hl hl2 hc hcm).weak ?_)
    rintro u r ⟨m, rest2, hm, hml, rfl, rfl, hR2, hc2⟩
    exact ⟨strCh m, rest2, m.length, cap, str_uk m, hR2, str_len m, hc2, hcm, rfl, m, _, hm, hml, (str_flat I m).flat, rfl⟩

theorem joinedS (I : IMap) (v : Value) (ls : List (List ByteArray)) (hv : RdS I v ls) (hl : ls.length ≤ 1000000) (h1 : 0 < ls.flatten.length) (h2 : ls.flatten.length ≤ 12) :
    FnX Tryz.prog 57 #[v] I [] (fun u r => ∃ m ys, (∀ x, x ∈ m ↔ x ∈ ls.flatten) ∧ m.length ≤ ls.flatten.length ∧ Flat I ys m ∧ r = .row u 9 1 m.length ys) := by
 refine enter Tryz.func57 Tryz.call57 rfl Tryz.ntmps57 rfl (fun w0 => ?_)
 refine go 9 ?_
 refine o_callX0 (concatS _ v ls hv (by omega) hl) rfl rfl (fun v5 s5 q5 => ?_)
 obtain ⟨xs5, rfl, hF5⟩ := q5
 refine go 7 ?_
 refine o_callX1 (sortRow _ _ ls.flatten xs5 hF5 h1 h2) rfl rfl (fun v7 s7 q7 => ?_)
 obtain ⟨rfl, m, ys, hpm, hFm, rfl⟩ := q7
 rw [← hpm.1]
 refine go 6 ?_
 refine o_callX1 (compactRow _ _ m ys hFm (by rw [hpm.1]; exact h1) (by rw [hpm.1]; exact h2)) rfl rfl (fun v9 s9 q9 => ?_)
 obtain ⟨m2, zs, hm2, hl2, hFz, rfl⟩ := q9
 refine go 4 ?_
 refine fin1 rfl rfl ?_
 exact q_x ⟨m2, zs, fun x => (hm2 x).trans (hpm.2 x), by have := hpm.1; omega, hFz, rfl⟩

theorem repNames (I : IMap) (r : Rep) (S : Option Addr) (d : Nat) (hr : RdS I (.slice S r.options.length d) r.options) (hs : ∀ e ∈ r.options, SmE e) :
    FnI Tryz.prog 34 #[.agg (r.cells (.slice S r.options.length d)).toArray] I (fun u J => ∃ ns, RdS J u ns ∧ NamesOf r ns) := by
 have hSA : RdA I S r.options := hr.toA
 have hl5 := hr.lenLe
 refine enter Tryz.func34 Tryz.call34 rfl Tryz.ntmps34 rfl (fun w0 => ?_)
 refine go 3 ?_
 refine o_box _ rfl rfl rfl (fun g1 => ?_)
 refine go 8 ?_
 refine o_callV (repValid _ r S d hr hs) rfl rfl ?_
 refine go 3 ?_
 refine cb rfl (fun h8 p8 => ?_) (fun h8 p8 => ?_)
 ·refine go 7 ?_
  refine fin1 rfl rfl ?_
  exact q_i ⟨[], RdS.nil', names_none (by simpa using h8)⟩
 ·have hvr : validRep r = true := by simpa using h8
  have hvl := validRep_len hvr
  refine go 4 ?_
  refine sx_nilrow 61 1 ?_
  refine go 13 ?_
  refine bring1 ?_
  refine sx_drop ?_
  refine c_loop4 ((0 : Nat)) (_) ([]) (I) (fun i v3 xs J => J)
   (fun i v3 xs J => [(3, v3), (10, .slice S r.options.length d), (11, .int .i64 ((r.options.length : Nat) : Int)), (12, .int .i64 ((i : Nat) : Int))])
   (fun i v3 xs J => [.row v3 61 1 i xs])
   (fun i v3 xs J => i ≤ r.options.length ∧ ILe I J ∧ Flat J xs ((r.options.take i).map namesE))
   (fun i v3 xs J => r.options.length - i) ⟨Nat.zero_le _, ILe.refl _, .nil⟩ rfl sb rfl ?_
  intro i v3 xs J ⟨hi, hJ, hF⟩
  have hSA := hSA.le hJ
  refine go 6 ?_
  refine cb rfl (fun h13 p13 => ?_) (fun h13 p13 => ?_)
  ·have hlt : i < r.options.length := by omega
   refine go 6 ?_
   obtain ⟨b14, o14, w14, e14, c14, r14⟩ := RdA.at_ hSA (i := i) (by omega)
   obtain rfl := r14
   refine o_v rfl (v_idx he rfl rfl e14 (i) (by omega) (by omega)) ?_
   refine o_v rfl (v_ldIa he rfl c14 rfl) ?_
   refine go 1 ?_
   refine o_alloc he rfl (fun g5 => ?_)
   refine go 1 ?_
   refine o_stw _ he rfl rfl rfl rfl rfl rfl ?_
   refine go 6 ?_
   refine o_call (evNames _ r.options[i] (hs _ (List.getElem_mem hlt))) rfl rfl (fun v18 I18 j18 q18 => ?_)
   have q18s := q18
   obtain ⟨A18, c18, rfl, _, _, _⟩ := q18
   refine go 1 ?_
   refine o_buildSlice he he rfl rfl rfl rfl rfl rfl rfl (fun v19 => ?_)
   refine go 1 ?_
   refine bring2 ?_
   refine o_appendO he he rfl rfl rfl rfl rfl (by omega) (by omega) rfl (fun v20 => ?_)
   refine go 9 ?_
   refine bring1 ?_
   refine sx_drop ?_
   refine bring1 ?_
   refine sx_drop ?_
   exact q_next4 (i + 1) (_) (_) (_) ⟨by omega, hJ.trans j18, by rw [← take_succ_of hlt, List.map_append]; exact (hF.le j18).append (.one ⟨_, rfl, q18s⟩)⟩ (by omega) rfl sb rfl
  ·have e : i = r.options.length := by omega
   subst e
   rw [List.take_length] at hF
   have hnf := names_flat r.options (validRep_e hvr)
   refine go 7 ?_
   refine sx_pubrow (l := (r.options.map namesE)) rfl (by rw [List.length_map]) (hF) (fun Ip jp Rp => ?_)
   refine go 2 ?_
   refine o_callX0 (joinedS _ _ (r.options.map namesE) Rp (by rw [List.length_map]; omega) (by omega) (by omega)) rfl rfl (fun v23 s23 q23 => ?_)
   obtain ⟨m, ys, hm, hml, hFm, rfl⟩ := q23
   refine sx_pubrow (l := m) rfl rfl (hFm) (fun Iq jq Rq => ?_)
   refine go 4 ?_
   refine fin1 rfl rfl ?_
   exact q_i ⟨m, Rq, names_of_rep hvr hm hml⟩

end Go.Proofs.YtoadjlmbdliceaaGreat

/- Walks, printed by a program out of the code of the functions: each theorem is a contract of one function. -/
namespace Go.Proofs.YtoadjlmbdliceaaGreat
open Go Go.Sx
set_option linter.all false
set_option maxRecDepth 20000
set_option maxHeartbeats 4000000
instance T.by_3 : Has (bytesK Tryz.prog 3) ([.int .i64 0], 1, 8) := ⟨by kernel_rfl⟩
instance T.ty_108 : Has (tyK Tryz.prog 108) (false, 1) := ⟨by kernel_rfl⟩
instance T.ty_109 : Has (tyK Tryz.prog 109) (false, 1) := ⟨by kernel_rfl⟩
theorem seChecked (I : IMap) (vc : Value) (c : List Kind) (hvc : RdS I vc c) (hsc : SmC c) (v : Value) (l : List Rep) (hv : RdS I v l) (hl : l.length ≤ 1000000) (hsl : ∀ r ∈ l, ∀ e ∈ r.options, SmE e)  :
    FnV Tryz.prog 48 #[.agg #[vc], v] I (.int .i64 (errF c l)) := by
 obtain ⟨A, c0, rfl, hA, hc, hm⟩ := hv
 refine enter Tryz.func48 Tryz.call48 rfl Tryz.ntmps48 rfl (fun w0 => ?_)
 refine go 3 ?_
 refine o_box _ rfl rfl rfl (fun g2 => ?_)
 refine go 8 ?_
 refine o_callV (catValid _ vc c hvc hsc) rfl rfl ?_
 refine go 3 ?_
 refine cb rfl (fun h11 p11 => ?_) (fun h11 p11 => ?_)
 ·refine go 7 ?_
  refine fin1 rfl rfl ?_
  exact q_v (congrArg (Value.int .i64) (err_cat (by simpa using h11)).symm)
 ·have hC : validC c = true := by simpa using h11
  refine go 16 ?_
  refine sx_drop ?_
  refine c_loop (α := Nat) 0 (fun i => I)
   (fun i => [(5, .int .i64 ((dbtF (l.take i) : Nat) : Int)), (12, .slice A l.length c0), (13, .int .i64 ((l.length : Nat) : Int)), (14, .int .i64 ((i : Nat) : Int))])
   (fun i => [])
   (fun i => i ≤ l.length ∧ ∀ r ∈ l.take i, chs r ≠ 0)
   (fun i => l.length - i) ⟨Nat.zero_le _, fun r hr => by simp at hr⟩ rfl sb rfl ?_
  intro i ⟨hi, hp⟩
  have hdi : dbtF (l.take i) ≤ (l.take i).length := List.length_filter_le _ _
  rw [List.length_take] at hdi
  refine go 6 ?_
  refine cb rfl (fun h15 p15 => ?_) (fun h15 p15 => ?_)
  ·have hlt : i < l.length := by omega
   refine go 6 ?_
   obtain ⟨b16, o16, w16, e16, c16, r16⟩ := RdA.at_ hA (i := i) (by omega)
   obtain ⟨q16, rfl, S16, d16, rfl, hS16, hd16, hm16⟩ := r16
   refine o_v rfl (v_idx he rfl rfl e16 (i) (by omega) (by omega)) ?_
   refine o_v rfl (v_ldIa he rfl c16 rfl) ?_
   refine go 1 ?_
   refine o_alloc he rfl (fun g7 => ?_)
   refine go 1 ?_
   refine o_stw _ he rfl rfl rfl rfl rfl rfl ?_
   refine go 6 ?_
   refine o_callV (repChoices _ l[i] S16 d16 ⟨_, _, rfl, hS16, hd16, hm16⟩ (hsl _ (List.getElem_mem hlt))) rfl rfl ?_
   refine go 11 ?_
   refine cb rfl (fun h20 p20 => ?_) (fun h20 p20 => ?_)
   ·refine go 12 ?_
    refine fin1 rfl rfl ?_
    exact q_v (congrArg (Value.int .i64) (err_any hC hlt (by simpa using h20)).symm)
   ·refine go 7 ?_
    refine cb rfl (fun h23 p23 => ?_) (fun h23 p23 => ?_)
    ·refine go 13 ?_
     refine sx_drop ?_
     exact q_next (i + 1) ⟨by omega, pos_take hlt hp (by simpa using h20)⟩ (by omega) rfl ⟨(congrArg (fun z => some (Value.int .i64 z)) (by rw [dbt_take hlt, if_pos (by omega)]; omega)), rfl, rfl, rfl, trivial⟩ rfl
    ·refine go 9 ?_
     refine sx_drop ?_
     exact q_next (i + 1) ⟨by omega, pos_take hlt hp (by simpa using h20)⟩ (by omega) rfl ⟨(congrArg (fun z => some (Value.int .i64 z)) (by rw [dbt_take hlt, if_neg (by omega)]; omega)), rfl, rfl, rfl, trivial⟩ rfl
  ·have e : i = l.length := by omega
   subst e
   rw [List.take_length] at hp hdi
   rw [List.take_length]
   refine go 12 ?_
   refine cb rfl (fun h30 p30 => ?_) (fun h30 p30 => ?_)
   ·refine go 7 ?_
    refine fin1 rfl rfl ?_
    exact q_v (congrArg (Value.int .i64) (by rw [err_end hC hp, if_pos p30]))
   ·refine go 8 ?_
    refine fin1 rfl rfl ?_
    exact q_v (congrArg (Value.int .i64) (by rw [err_end hC hp, if_neg p30]))

theorem copiedI (I : IMap) (v : Value) (l : List Int) (hv : RdS I v l) (hl : l.length ≤ 1000000) :
    FnX Tryz.prog 83 #[v] I [] (fun u r => r = .row u 3 1 l.length (intCs l)) := by
 refine enter Tryz.func83 Tryz.call83 rfl Tryz.ntmps83 rfl (fun w0 => ?_)
 refine go 8 ?_
 refine o_buildSlice he he rfl rfl rfl rfl rfl rfl rfl (fun v3 => ?_)
 refine go 2 ?_
 refine o_appendR (hv) rfl he he rfl rfl rfl rfl (by omega) (by omega) rfl (fun v5 x5 f5 => ?_)
 refine go 4 ?_
 refine fin1 rfl rfl ?_
 refine sx_roweq (ys := x5) rfl ?_
 rw [Nat.zero_add, flat_ints f5]
 exact q_x rfl

theorem seBack (I : IMap) (g3 g6 gc n : Nat) (k3 : ICells I g3 0 [.slice (some ⟨gc, 0, none⟩) n n]) (ch : List Int) (p : Nat) (hp : p < ch.length) (hn : ch.length = n) :
    FnDf Tryz.prog 84 #[.pointer (some ⟨g3, 0, none⟩), .pointer (some ⟨g6, 0, none⟩)] I [.blk gc 3 (intCs ch), .blk g6 3 [.int .i64 ((p : Nat) : Int)]] (fun I2 H2 => I2 = I ∧ H2 = [.blk gc 3 (intCs (ch.set p (-1))), .blk g6 3 [.int .i64 ((p : Nat) : Int)]]) := by
 refine enterD Tryz.func84 rfl Tryz.ntmps84 rfl (fun w0 => ?_)
 refine go 1 ?_
 refine o_v rfl (v_ldI he rfl (k3 0 _ rfl)) ?_
 refine go 1 ?_
 refine o_v rfl (v_idx he rfl rfl rfl (p) (by omega) (by omega)) ?_
 refine go 1 ?_
 refine o_st1 he rfl rfl rfl (by rw [intCs_len, Nat.blt_eq]; omega) ?_
 refine sx_blkeq (intCs (ch.set (p) (-1))) (by rw [Nat.zero_add, Nat.mul_one, intCs_set]) ?_
 refine go 1 ?_
 refine endD0 rfl ?_
 exact q_post (fun _ m => m) ⟨rfl, rfl⟩

theorem seFrom (I : IMap) (g1 g2 g3 g4 g5 gc : Nat) (vc : Value) (c : List Kind) (hvc : RdS I vc c) (hsc : SmC c) (l : List Rep) (A : Option Addr) (c0 : Nat) (hv : RdS I (.slice A l.length c0) l) (hl : l.length ≤ 1000000) (hsl : ∀ r ∈ l, ∀ e ∈ r.options, SmE e) (ly : Nat) (J : Bool → List (List Int) → IMap → List Res → Prop) (hJm : JMono J) (hY : YieldsS Tryz.prog ly (fun I vs (x : List Int) => ∃ v, vs = [v] ∧ RdS I v x) (fun _ _ => True) J) (k1 : ICells I g1 0 [vc]) (k2 : ICells I g2 0 [.slice A l.length c0]) (k3 : ICells I g3 0 [.slice (some ⟨gc, 0, none⟩) l.length l.length]) (k4 : ICells I g4 0 [.func (.yield ly) #[] #[]]) (k5 : ICells I g5 0 [.func (.func 81) #[] #[.pointer (some ⟨g1, 0, none⟩), .pointer (some ⟨g2, 0, none⟩), .pointer (some ⟨g3, 0, none⟩), .pointer (some ⟨g4, 0, none⟩), .pointer (some ⟨g5, 0, none⟩)]]) (rs : List Rep) (ih : ∀ (I2 : IMap), ILe I I2 → ∀ (pr : List Int) (rr : List Rep), rr.length < rs.length → Mid c l pr rr → ∀ (dn : List (List Int)) (Hq : List Res), J true dn I2 Hq → FnH Tryz.prog 81 #[.int .i64 ((pr.length : Nat) : Int), .pointer (some ⟨g1, 0, none⟩), .pointer (some ⟨g2, 0, none⟩), .pointer (some ⟨g3, 0, none⟩), .pointer (some ⟨g4, 0, none⟩), .pointer (some ⟨g5, 0, none⟩)] I2 (.blk gc 3 (intCs (pr ++ openT rr)) :: Hq) (FromPost c l J gc 3 (pr ++ openT rr) pr rr dn)) (pre : List Int) (hmid : Mid c l pre rs) (ch : List Int) (hch : pre ++ openT rs = ch) (done : List (List Int)) (Hc : List Res) (hJt : J true done I Hc) :
    FnH Tryz.prog 81 #[.int .i64 ((pre.length : Nat) : Int), .pointer (some ⟨g1, 0, none⟩), .pointer (some ⟨g2, 0, none⟩), .pointer (some ⟨g3, 0, none⟩), .pointer (some ⟨g4, 0, none⟩), .pointer (some ⟨g5, 0, none⟩)] I (.blk gc 3 (intCs ch) :: Hc) (FromPost c l J gc 3 ch pre rs done) := by
 have hv0 := hv
 have hA := hv.toA
 have hcl := hmid.chlen hch
 refine enter Tryz.func81 Tryz.call81 rfl Tryz.ntmps81 rfl (fun w0 => ?_)
 refine go 3 ?_
 refine o_box _ rfl rfl rfl (fun g6 => ?_)
 refine go 6 ?_
 refine o_v rfl (v_ldIa he rfl k1 rfl) ?_
 refine o_v rfl (v_ldI he rfl (k2 0 _ rfl)) ?_
 refine o_v rfl (v_ldI he rfl (k3 0 _ rfl)) ?_
 refine go 1 ?_
 refine o_lendI m1 (fun I2 hI hC => hiFalse I2 vc c (hvc.le hI) hsc _ l (hv0.le hI) hl hsl _ ch (intCs_rdn hC hcl hl)) rfl rfl ?_
 refine go 2 ?_
 refine cb rfl (fun h12 p12 => ?_) (fun h12 p12 => ?_)
 ·refine go 7 ?_
  refine fin1 rfl rfl ?_
  refine sx_drop ?_
  exact q_post (fun _ m => m) ⟨true, done, _, rfl, rfl, hJt, fun _ => by rw [res_prune hmid (by rw [hch]; exact h12), List.append_nil], fun h => (by cases h)⟩
 ·refine go 3 ?_
  refine c_cutx2 (Ix := (fun pr rr => I)) (Lx := (fun pr rr => [(1, .pointer (some ⟨g1, 0, none⟩)), (2, .pointer (some ⟨g2, 0, none⟩)), (3, .pointer (some ⟨g3, 0, none⟩)), (4, .pointer (some ⟨g4, 0, none⟩)), (5, .pointer (some ⟨g5, 0, none⟩)), (6, .pointer (some ⟨g6, 0, none⟩))])) (Hx := (fun pr rr => .blk gc 3 (intCs ch) :: .blk g6 3 [.int .i64 ((pr.length : Nat) : Int)] :: Hc)) (p := (fun pr rr => Mid c l pr rr ∧ pr ++ openT rr = ch ∧ resF c l pre rs = resF c l pr rr ∧ rr.length ≤ rs.length ∧ ∀ q0 q1, rr = q0 :: q1 → 1 < chs q0)) ?_ ?_
  ·refine go 1 ?_
   refine bring1 ?_
   refine c_loop2 (pre) (rs) (fun pr rr => I)
    (fun pr rr => [(1, .pointer (some ⟨g1, 0, none⟩)), (2, .pointer (some ⟨g2, 0, none⟩)), (3, .pointer (some ⟨g3, 0, none⟩)), (4, .pointer (some ⟨g4, 0, none⟩)), (5, .pointer (some ⟨g5, 0, none⟩)), (6, .pointer (some ⟨g6, 0, none⟩))])
    (fun pr rr => .blk gc 3 (intCs ch) :: .blk g6 3 [.int .i64 ((pr.length : Nat) : Int)] :: Hc)
    (fun pr rr => Mid c l pr rr ∧ pr ++ openT rr = ch ∧ resF c l pre rs = resF c l pr rr ∧ rr.length ≤ rs.length)
    (fun pr rr => rr.length) ⟨hmid, hch, rfl, Nat.le_refl _⟩ rfl sb rfl ?_
   intro pr rr ⟨hm, hee, hr, hle⟩
   have hml := hm.len
   have hcl := hm.chlen hee
   refine go 4 ?_
   refine o_v rfl (v_ldI he rfl (k2 0 _ rfl)) ?_
   refine go 3 ?_
   refine sxb 17 rfl (fun h17 p17 => ?_) (fun h17 p17 => ?_)
   ·obtain ⟨q0, q1, rfl⟩ := hm.more (by omega)
    have hop := open_at1 hee (by omega)
    have hp1 := hm.pos1
    have hnn := chs_nn q0
    refine o_cons (o_yes rfl rfl h17 (o_val rfl (v_ldI he rfl (k3 0 _ rfl)) ?_))
    refine go 1 ?_
    refine o_cons (o_yes rfl rfl h17 (o_val rfl (v_idx he rfl rfl rfl (pr.length) (by omega) (by omega)) ?_))
    refine o_cons (o_yes rfl rfl h17 (o_val rfl (OV.cast (u := .int .i64 (if 1 < chs q0 then -1 else 0)) (v_ld m0 he rfl (by rw [Nat.zero_add, Nat.mul_one]; exact intCs_at (by omega))) (congrArg (Value.int .i64) hop)) ?_))
    refine go 4 ?_
    refine cb rfl (fun h23 p23 => ?_) (fun h23 p23 => ?_)
    ·have h1c : chs q0 = 1 := by
       by_cases h1 : 1 < chs q0
       · rw [if_pos h1] at p23; omega
       · omega
     refine go 7 ?_
     refine bring1 ?_
     refine o_stw _ he rfl rfl rfl rfl rfl rfl ?_
     refine go 3 ?_
     refine bring1 ?_
     exact q_next2 (pr ++ [0]) (q1) ⟨hm.next (r := q0) (Int.le_refl _) (by omega), by rw [open_zero (r := q0) (by omega)]; exact hee, by rw [hr, res_one h1c], by simp at hle; omega⟩ (by simp) rfl sb (by rw [List.length_append]; rfl)
    ·have h1c : 1 < chs q0 := by
       by_cases h1 : 1 < chs q0
       · exact h1
       · rw [if_neg h1] at p23; omega
     refine go 5 ?_
     exact q_cutx2 (_) (_) ⟨hm, hee, hr, hle, fun _ _ e => by cases e; exact h1c⟩ sb rfl rfl
   ·refine go 8 ?_
    refine c_false rfl ?_
    refine go 5 ?_
    exact q_cutx2 (_) (_) ⟨hm, hee, hr, hle, fun q0 q1 e => by subst e; simp at hml; omega⟩ sb rfl rfl
  ·intro pr rr ⟨hm, hee, hr, hle, h1c⟩
   have hml := hm.len
   have hcl := hm.chlen hee
   refine go 4 ?_
   refine o_v rfl (v_ldI he rfl (k2 0 _ rfl)) ?_
   refine go 4 ?_
   refine cb rfl (fun h29 p29 => ?_) (fun h29 p29 => ?_)
   ·obtain rfl := hm.full (by omega)
    have hpc : pr = ch := by rw [← hee]; simp [openT]
    rw [hpc] at hm hr
    refine go 1 ?_
    refine sx_knowI (fun hE6 hf6 => ?_)
    refine d_startT2 T.mixed ?_
    refine d_tv 0 rfl rfl (by kernel_rfl) rfl (.cons₂ _ (.cons₂ _ (List.nil_sublist _))) rfl (v_ldIa he rfl k1 rfl) ?_
    refine d_tv 1 rfl rfl (by kernel_rfl) rfl (.cons₂ _ (.cons₂ _ (List.nil_sublist _))) rfl (v_ldI he rfl (k2 0 _ rfl)) ?_
    refine d_tv 2 rfl rfl (by kernel_rfl) rfl (.cons₂ _ (.cons₂ _ (List.nil_sublist _))) rfl (v_ldI he rfl (k3 0 _ rfl)) ?_
    refine d_one 3 (by kernel_rfl) rfl ?_
    refine o_lendI m0 (fun I2 hI hC => hiIs I2 vc c (hvc.le hI) hsc _ l (hv0.le hI) hl hsl _ ch (intCs_rdn hC hcl hl)) rfl rfl ?_
    refine d_on (fun _ m => m.keeps (.cons₂ _ (.cons₂ _ (List.nil_sublist _)))) ?_
    refine d_tv 4 rfl rfl (by kernel_rfl) rfl (.cons₂ _ (.cons₂ _ (List.nil_sublist _))) rfl (v_not rfl) ?_
    refine d_tv 5 rfl rfl (by kernel_rfl) rfl (.cons₂ _ (.cons₂ _ (List.nil_sublist _))) rfl (v_move rfl) ?_
    refine sxb 35 rfl (fun h35 p35 => ?_) (fun h35 p35 => ?_)
    ·refine d_t 6 rfl rfl (by kernel_rfl) rfl (fun _ m => m.keeps (.cons₂ _ (.cons₂ _ (List.nil_sublist _)))) (y_no rfl rfl h35) ?_
     refine d_t 7 rfl rfl (by kernel_rfl) rfl (fun _ m => m.keeps (.cons₂ _ (.cons₂ _ (List.nil_sublist _)))) (y_no rfl rfl h35) ?_
     refine d_t 8 rfl rfl (by kernel_rfl) rfl (fun _ m => m.keeps (.cons₂ _ (.cons₂ _ (List.nil_sublist _)))) (y_no rfl rfl h35) ?_
     refine d_t 9 rfl rfl (by kernel_rfl) rfl (fun _ m => m.keeps (.cons₂ _ (.cons₂ _ (List.nil_sublist _)))) (y_no rfl rfl h35) ?_
     refine d_tv 10 rfl rfl (by kernel_rfl) rfl (.cons₂ _ (.cons₂ _ (List.nil_sublist _))) rfl (v_or_t h35 rfl) ?_
     refine d_tv 11 rfl rfl (by kernel_rfl) rfl (.cons₂ _ (.cons₂ _ (List.nil_sublist _))) rfl (v_assign rfl) ?_
     refine d_done (by kernel_rfl) ?_
     refine go 3 ?_
     refine fin1 rfl rfl ?_
     refine bring1 ?_
     refine sx_drop ?_
     exact q_post (fun _ m => m) ⟨true, done, _, rfl, rfl, hJt, fun _ => by rw [hr, res_nil, if_neg (by simpa using h35), List.append_nil], fun h => (by cases h)⟩
    ·refine d_t 6 rfl rfl (by kernel_rfl) rfl (fun _ m => m.keeps (.cons₂ _ (.cons₂ _ (List.nil_sublist _)))) (y_yes rfl rfl h35 (v_ldI he rfl (k4 0 _ rfl))) ?_
     refine d_t 7 rfl rfl (by kernel_rfl) rfl (fun _ m => m.keeps (.cons₂ _ (.cons₂ _ (List.nil_sublist _)))) (y_yes rfl rfl h35 (v_ldI he rfl (k3 0 _ rfl))) ?_
     refine d_one 8 (by kernel_rfl) rfl ?_
     refine o_yes rfl rfl h35 (o_lendX m0 (fun I2 hI hC => copiedI I2 _ ch (intCs_rdn hC hcl hl) (by omega)) rfl rfl (fun v38 s38 q38 => ?_))
     obtain rfl := q38
     refine sx_pubrow (l := ch) rfl rfl (intCs_flat _) (fun I38 j38 R38 => ?_)
     try have hvc := hvc.le j38
     try have hv0 := hv0.le j38
     try have hA := hA.le j38
     try have k1 := k1.le j38
     try have k2 := k2.le j38
     try have k3 := k3.le j38
     try have k4 := k4.le j38
     try have k5 := k5.le j38
     try have hJt := hJt.le j38
     refine d_on (fun _ m => m.keepsI (.cons₂ _ (.cons₂ _ (List.nil_sublist _))) (j38) hE6 hf6) ?_
     refine d_one 9 (by kernel_rfl) rfl ?_
     refine o_yes rfl rfl h35 (o_yield2 (ch) hY (hJm _ _ _ _ _ j38 hJt) (⟨_, rfl, R38⟩) (trivial) rfl rfl rfl (fun b39 I39 Hc39 j39 hJ39 => ?_))
     refine d_on (fun _ m => m.keepsI (.cons₂ _ (.cons₂ _ (List.nil_sublist _))) ((j38).trans j39) hE6 hf6) ?_
     refine d_t 10 rfl rfl (by kernel_rfl) rfl (fun _ m => m.keepsI (.cons₂ _ (.cons₂ _ (List.nil_sublist _))) ((j38).trans j39) hE6 hf6) (y_v rfl (v_or_f h35 rfl rfl)) ?_
     refine d_t 11 rfl rfl (by kernel_rfl) rfl (fun _ m => m.keepsI (.cons₂ _ (.cons₂ _ (List.nil_sublist _))) ((j38).trans j39) hE6 hf6) (y_v rfl (v_assign rfl)) ?_
     refine d_done (by kernel_rfl) ?_
     refine go 3 ?_
     refine fin1 rfl rfl ?_
     refine bring1 ?_
     refine sx_drop ?_
     exact q_post (fun _ m => m) ⟨b39, done ++ [ch], _, rfl, rfl, hJ39, fun _ => by rw [hr, res_nil, if_pos (by simpa using h35)], fun _ => by rw [hr, res_nil, if_pos (by simpa using h35)]; exact List.prefix_refl _⟩
   ·obtain ⟨q0, q1, rfl⟩ := hm.more (by omega)
    have h1c := h1c q0 q1 rfl
    obtain ⟨hpl, rfl⟩ := hm.get
    have hop := open_at1 hee (by omega)
    rw [if_pos h1c] at hop
    have hc5 := chs_five l[pr.length]
    refine go 3 ?_
    refine c_region2D rfl rfl ?_
    refine o_v rfl (v_makeFunc rfl rfl) ?_
    refine go 1 ?_
    refine q_defn rfl rfl ?_
    refine go 4 ?_
    refine o_v rfl (v_ldI he rfl (k2 0 _ rfl)) ?_
    refine go 1 ?_
    obtain ⟨b44, o44, w44, e44, c44, r44⟩ := RdA.at_ hA (i := pr.length) (by omega)
    obtain ⟨q44, rfl, S44, d44, rfl, hS44, hd44, hm44⟩ := r44
    refine o_v rfl (v_idx he rfl rfl e44 (pr.length) (by omega) (by omega)) ?_
    refine o_v rfl (v_ldIa he rfl c44 rfl) ?_
    refine go 1 ?_
    refine o_callV (repChoices _ l[pr.length] S44 d44 ⟨_, _, rfl, hS44, hd44, hm44⟩ (hsl _ (List.getElem_mem hpl))) rfl rfl ?_
    refine go 4 ?_
    refine c_loop5 ((0 : Nat)) (ch) (done) (Hc) (I) (fun k cc dn Hq J2 => J2)
     (fun k cc dn Hq J2 => [(1, .pointer (some ⟨g1, 0, none⟩)), (2, .pointer (some ⟨g2, 0, none⟩)), (3, .pointer (some ⟨g3, 0, none⟩)), (4, .pointer (some ⟨g4, 0, none⟩)), (5, .pointer (some ⟨g5, 0, none⟩)), (6, .pointer (some ⟨g6, 0, none⟩)), (46, .int .i64 (chs l[pr.length])), (47, .int .i64 ((k : Nat) : Int))])
     (fun k cc dn Hq J2 => .blk gc 3 (intCs cc) :: .blk g6 3 [.int .i64 ((pr.length : Nat) : Int)] :: Hq)
     (fun k cc dn Hq J2 => ((k : Nat) : Int) ≤ chs l[pr.length] ∧ (∃ z, cc = ch.set pr.length z) ∧ ILe I J2 ∧ J true dn J2 Hq ∧ dn = done ++ (List.range k).flatMap (fun (q : Nat) => resF c l (pr ++ [(q : Int)]) q1))
     (fun k cc dn Hq J2 => (chs l[pr.length]).toNat - k) ⟨by omega, ⟨_, set_self (by omega)⟩, ILe.refl _, hJt, by simp⟩ rfl sb rfl ?_
    intro k cc dn Hq J2 ⟨hk, ⟨z, hz⟩, hJ2, hJt2, hdn⟩
    subst hz
    have hcz : (ch.set pr.length z).length = ch.length := List.length_set
    have hvc := hvc.le hJ2
    have hv0 := hv0.le hJ2
    have hA := hA.le hJ2
    have k1 := k1.le hJ2
    have k2 := k2.le hJ2
    have k3 := k3.le hJ2
    have k4 := k4.le hJ2
    have k5 := k5.le hJ2
    refine go 6 ?_
    refine cb rfl (fun h48 p48 => ?_) (fun h48 p48 => ?_)
    ·have hkk : ((k : Nat) : Int) < chs l[pr.length] := by omega
     refine go 12 ?_
     refine o_v rfl (v_ldI he rfl (k3 0 _ rfl)) ?_
     refine go 2 ?_
     refine o_v rfl (v_idx he rfl rfl rfl (pr.length) (by omega) (by omega)) ?_
     refine go 1 ?_
     refine o_st1 he rfl rfl rfl (by rw [intCs_len, Nat.blt_eq]; omega) ?_
     refine sx_blkeq (intCs ((pr ++ [((k : Nat) : Int)]) ++ openT q1)) (by rw [Nat.zero_add, Nat.mul_one]; show (intCs _).set _ (ci _) = _; rw [intCs_set, List.set_set, open_set hee]) ?_
     refine go 4 ?_
     refine o_v rfl (v_ldI he rfl (k5 0 _ rfl)) ?_
     refine go 1 ?_
     refine o_v rfl (OV.cast (u := .int .i64 (((pr ++ [((k : Nat) : Int)]).length : Nat) : Int)) (v_add rfl rfl ⟨by omega, by omega⟩) (congrArg (Value.int .i64) (by simp))) ?_
     refine go 1 ?_
     refine bring1 ?_
     refine o_callT (ih J2 hJ2 (pr ++ [((k : Nat) : Int)]) q1 (by simp at hle; omega) (hm.next (by omega) hkk) dn Hq hJt2) rfl rfl (fun v57 I57 H57 j57 q57 => ?_)
     try have hvc := hvc.le j57
     try have hv0 := hv0.le j57
     try have hA := hA.le j57
     try have k1 := k1.le j57
     try have k2 := k2.le j57
     try have k3 := k3.le j57
     try have k4 := k4.le j57
     try have k5 := k5.le j57
     obtain ⟨b57, dn2, Hd, rfl, rfl, hJt3, hbt, hbf⟩ := q57
     refine go 3 ?_
     refine cb rfl (fun h58 p58 => ?_) (fun h58 p58 => ?_)
     ·have hb : b57 = false := by simpa using h58
      refine go 11 ?_
      refine bring1 ?_
      refine q_fdefer (Hc := [_, _]) Tryz.call84 (seBack _ g3 g6 gc l.length k3 ((pr ++ [((k : Nat) : Int)]) ++ openT q1) pr.length (by rw [← open_set hee, List.length_set]; omega) (by rw [← open_set hee, List.length_set]; omega)) (fun I7 H7 j7 q7 => ?_)
      obtain ⟨rfl, rfl⟩ := q7
      refine sx_app2' ?_
      refine fin1 rfl rfl ?_
      refine bring1 ?_
      refine sx_drop ?_
      refine sx_blkeq (intCs ch) (by rw [← open_set hee, set_back (by omega) hop]) ?_
      exact q_post (fun _ m => m) ⟨false, dn2, Hd, rfl, rfl, hb ▸ hJt3, fun h => (by cases h), fun _ => by rw [hr, res_cons]; exact flat_pre (fun (q : Nat) => resF c l (pr ++ [(q : Int)]) q1) done (k := k) (by omega) (by have := hbf hb; rwa [hdn] at this)⟩
     ·have hb : b57 = true := by simpa using h58
      refine go 8 ?_
      refine bring1 ?_
      exact q_next5 (k + 1) (_) (_) (_) (_) ⟨by omega, ⟨_, (open_set hee _).symm⟩, hJ2.trans j57, hb ▸ hJt3, by rw [hbt hb, hdn]; exact flat_next _ _ _⟩ (by omega) rfl sb rfl
    ·refine go 11 ?_
     refine bring1 ?_
     refine bring1 ?_
     refine q_fdefer (Hc := [_, _]) Tryz.call84 (seBack _ g3 g6 gc l.length k3 (ch.set pr.length z) pr.length (by omega) (by omega)) (fun I7 H7 j7 q7 => ?_)
     obtain ⟨rfl, rfl⟩ := q7
     refine sx_app2' ?_
     refine fin1 rfl rfl ?_
     refine bring1 ?_
     refine sx_drop ?_
     refine sx_blkeq (intCs ch) (by rw [set_back (by omega) hop]) ?_
     exact q_post (fun _ m => m) ⟨true, dn, Hq, rfl, rfl, hJt2, fun _ => by rw [hr, res_cons, hdn, show (chs l[pr.length]).toNat = k by omega], fun h => (by cases h)⟩

end Go.Proofs.YtoadjlmbdliceaaGreat

/- Walks, printed by a program out of the code of the functions: each theorem is a contract of one function. -/
namespace Go.Proofs.YtoadjlmbdliceaaGreat
open Go Go.Sx
set_option linter.all false
set_option maxRecDepth 20000
set_option maxHeartbeats 4000000
instance T.by_28 : Has (bytesK Tryz.prog 28) ([.slice none 0 0], 1, 24) := ⟨by kernel_rfl⟩
instance T.elt_32 : Has (eltK Tryz.prog 32) (28, 1) := ⟨by kernel_rfl⟩
instance T.ty_32 : Has (tyK Tryz.prog 32) (false, 1) := ⟨by kernel_rfl⟩
instance T.und_32 : Has (Tryz.prog.underlying 32) (.slice 28) := ⟨by kernel_rfl⟩
instance T.zero_109 : Has (zeroK Tryz.prog 109) [.nilFunc] := ⟨by kernel_rfl⟩
instance T.zero_28 : Has (zeroK Tryz.prog 28) [.slice none 0 0] := ⟨by kernel_rfl⟩
instance T.zero_32 : Has (zeroK Tryz.prog 32) [.slice none 0 0] := ⟨by kernel_rfl⟩
theorem seFromI (I : IMap) (g1 g2 g3 g4 g5 gc : Nat) (vc : Value) (c : List Kind) (hvc : RdS I vc c) (hsc : SmC c) (l : List Rep) (A : Option Addr) (c0 : Nat) (hv : RdS I (.slice A l.length c0) l) (hl : l.length ≤ 1000000) (hsl : ∀ r ∈ l, ∀ e ∈ r.options, SmE e) (ly : Nat) (J : Bool → List (List Int) → IMap → List Res → Prop) (hJm : JMono J) (hY : YieldsS Tryz.prog ly (fun I vs (x : List Int) => ∃ v, vs = [v] ∧ RdS I v x) (fun _ _ => True) J) (k1 : ICells I g1 0 [vc]) (k2 : ICells I g2 0 [.slice A l.length c0]) (k3 : ICells I g3 0 [.slice (some ⟨gc, 0, none⟩) l.length l.length]) (k4 : ICells I g4 0 [.func (.yield ly) #[] #[]]) (k5 : ICells I g5 0 [.func (.func 81) #[] #[.pointer (some ⟨g1, 0, none⟩), .pointer (some ⟨g2, 0, none⟩), .pointer (some ⟨g3, 0, none⟩), .pointer (some ⟨g4, 0, none⟩), .pointer (some ⟨g5, 0, none⟩)]]) (n : Nat) : ∀ (I2 : IMap), ILe I I2 → ∀ (rs : List Rep), rs.length < n → ∀ (pre : List Int), Mid c l pre rs → ∀ (dn : List (List Int)) (Hq : List Res), J true dn I2 Hq →
    FnH Tryz.prog 81 #[.int .i64 ((pre.length : Nat) : Int), .pointer (some ⟨g1, 0, none⟩), .pointer (some ⟨g2, 0, none⟩), .pointer (some ⟨g3, 0, none⟩), .pointer (some ⟨g4, 0, none⟩), .pointer (some ⟨g5, 0, none⟩)] I2 (.blk gc 3 (intCs (pre ++ openT rs)) :: Hq) (FromPost c l J gc 3 (pre ++ openT rs) pre rs dn) := by
 induction n with
 | zero => intro _ _ rs h; exact absurd h (Nat.not_lt_zero _)
 | succ n ih =>
  intro I2 hI rs hrs pre hm dn Hq hJ
  exact seFrom I2 g1 g2 g3 g4 g5 gc vc c (hvc.le hI) hsc l A c0 (hv.le hI) hl hsl ly J hJm hY (k1.le hI) (k2.le hI) (k3.le hI) (k4.le hI) (k5.le hI) rs (fun I3 hI3 pr rr hlt hm3 dn3 Hq3 hJ3 => ih I3 (hI.trans hI3) rr (by omega) pr hm3 dn3 Hq3 hJ3) pre hm _ rfl dn Hq hJ

theorem histIt (I : IMap) (vc : Value) (c : List Kind) (hvc : RdS I vc c) (hsc : SmC c) (A : Option Addr) (c0 : Nat) (l : List Rep) (hv : RdS I (.slice A l.length c0) l) (hl : l.length ≤ 1000000) (hsl : ∀ r ∈ l, ∀ e ∈ r.options, SmE e) (hC : validC c = true) (hP : ∀ r ∈ l, chs r ≠ 0) (gl gv : Nat) (k2 : ICells I gl 0 [.slice A l.length c0]) (k1 : ICells I gv 0 [vc]) :
    FnIt Tryz.prog 80 [.pointer (some ⟨gl, 0, none⟩), .pointer (some ⟨gv, 0, none⟩)] I (fun I vs (x : List Int) => ∃ v, vs = [v] ∧ RdS I v x) (fun _ _ => True) (fun pre => pre = histF c l) (fun pre => pre <+: histF c l) := by
 intro ly J I1 Hc hI1 hJm hY hJ0
 have hvc := hvc.le hI1
 have hv := hv.le hI1
 have hA := hv.toA
 have k1 := k1.le hI1
 have k2 := k2.le hI1
 refine enter Tryz.func80 Tryz.call80 rfl Tryz.ntmps80 rfl (fun w0 => ?_)
 refine go 3 ?_
 refine o_box _ rfl rfl rfl (fun g3 => ?_)
 refine go 4 ?_
 refine o_v rfl (v_ldI he rfl (k2 0 _ rfl)) ?_
 refine go 2 ?_
 refine o_makeSlice he he rfl rfl rfl (by omega) (by omega) rfl (fun g10 => ?_)
 refine go 1 ?_
 refine o_alloc he rfl (fun g4 => ?_)
 refine go 1 ?_
 refine o_stw _ he rfl rfl rfl rfl rfl rfl ?_
 refine go 5 ?_
 refine bring1 ?_
 refine sx_blkeq (intCs (openTo' l 0)) ((intCs_rep l.length).trans (by simp [openTo', openT])) ?_
 refine o_v rfl (v_ldI he rfl (k2 0 _ rfl)) ?_
 refine go 5 ?_
 refine c_loop (α := Nat) 0 (fun i => I1)
  (fun i => [(1, .pointer (some ⟨gl, 0, none⟩)), (2, .pointer (some ⟨gv, 0, none⟩)), (3, .pointer (some ⟨g3, 0, none⟩)), (4, .pointer (some ⟨g4, 0, none⟩)), (11, .slice A l.length c0), (12, .int .i64 ((l.length : Nat) : Int)), (13, .int .i64 ((i : Nat) : Int))])
  (fun i => .blk g10 3 (intCs (openTo' l i)) :: .blk g4 28 [.slice (some ⟨g10, 0, none⟩) l.length l.length] :: .blk g3 108 [.func (.yield ly) #[] #[]] :: Hc)
  (fun i => i ≤ l.length)
  (fun i => l.length - i) (Nat.zero_le _) rfl sb rfl ?_
 intro i hi
 have hol := openTo_len l hi
 refine go 6 ?_
 refine cb rfl (fun h14 p14 => ?_) (fun h14 p14 => ?_)
 ·have hlt : i < l.length := by omega
  refine go 7 ?_
  obtain ⟨b16, o16, w16, e16, c16, r16⟩ := RdA.at_ hA (i := i) (by omega)
  obtain ⟨q16, rfl, S16, d16, rfl, hS16, hd16, hm16⟩ := r16
  refine o_v rfl (v_idx he rfl rfl e16 (i) (by omega) (by omega)) ?_
  refine o_v rfl (v_ldIa he rfl c16 rfl) ?_
  refine go 1 ?_
  refine o_alloc he rfl (fun g6 => ?_)
  refine go 2 ?_
  refine o_stw _ he rfl rfl rfl rfl rfl rfl ?_
  refine go 6 ?_
  refine o_callV (repChoices _ l[i] S16 d16 ⟨_, _, rfl, hS16, hd16, hm16⟩ (hsl _ (List.getElem_mem hlt))) rfl rfl ?_
  refine go 3 ?_
  refine cb rfl (fun h20 p20 => ?_) (fun h20 p20 => ?_)
  ·refine go 3 ?_
   refine o_v rfl (v_idx he rfl rfl rfl (i) (by omega) (by omega)) ?_
   refine go 1 ?_
   refine bring1 ?_
   refine o_st1 he rfl rfl rfl (by rw [intCs_len, Nat.blt_eq]; omega) ?_
   refine sx_blkeq (intCs ((openTo' l i).set i (-1))) (by rw [Nat.zero_add, Nat.mul_one, intCs_set]) ?_
   refine go 8 ?_
   refine bring1 ?_
   refine sx_drop ?_
   exact q_next (i + 1) (by omega) (by omega) rfl sb (by rw [openTo_next hlt, if_pos (by omega)])
  ·refine go 8 ?_
   refine sx_drop ?_
   exact q_next (i + 1) (by omega) (by omega) rfl sb (by rw [openTo_next hlt, if_neg (by omega)])
 ·obtain rfl : i = l.length := by omega
  rw [openTo_done]
  refine go 8 ?_
  refine o_alloc he rfl (fun g7 => ?_)
  refine go 4 ?_
  refine o_v rfl (v_makeFunc rfl rfl) ?_
  refine go 1 ?_
  refine o_stw _ he rfl rfl rfl rfl rfl rfl ?_
  refine go 3 ?_
  refine bring3 ?_
  refine sx_pub (fun Ig3 jg3 cg3 => ?_)
  have hvc := hvc.le jg3
  have hv := hv.le jg3
  have k1 := k1.le jg3
  have k2 := k2.le jg3
  have hJ0 := hJm _ _ _ _ _ jg3 hJ0
  refine bring2 ?_
  refine sx_pub (fun Ig4 jg4 cg4 => ?_)
  have hvc := hvc.le jg4
  have hv := hv.le jg4
  have k1 := k1.le jg4
  have k2 := k2.le jg4
  have cg3 := cg3.le jg4
  have hJ0 := hJm _ _ _ _ _ jg4 hJ0
  refine sx_pub (fun Ig7 jg7 cg7 => ?_)
  have hvc := hvc.le jg7
  have hv := hv.le jg7
  have k1 := k1.le jg7
  have k2 := k2.le jg7
  have cg3 := cg3.le jg7
  have cg4 := cg4.le jg7
  have hJ0 := hJm _ _ _ _ _ jg7 hJ0
  refine o_v rfl (v_ldI he rfl (cg7 0 _ rfl)) ?_
  refine go 1 ?_
  refine o_callA (seFromI _ gv gl g4 g3 g7 g10 vc c hvc hsc l A c0 hv hl hsl ly J hJm hY k1 k2 cg4 cg3 cg7 (l.length + 1) _ (ILe.refl _) l (Nat.lt_succ_self _) [] (mid_start hC hP) [] Hc hJ0) rfl rfl (fun v27 I27 H27 j27 q27 => ?_)
  obtain ⟨b27, dn, Hd, rfl, rfl, hJd, hbt, hbf⟩ := q27
  refine go 1 ?_
  refine end0 rfl ?_
  refine sx_drop ?_
  rw [hist_res]
  exact q_it b27 _ hJd (by cases b27 with
    | false => exact hbf rfl
    | true => exact hbt rfl)

theorem seHistories (I : IMap) (A : Option Addr) (m k : Nat) (vc : Value) :
    FnI Tryz.prog 49 #[.agg #[vc], .slice A m k] I (fun u J => ∃ gl gv, u = .func (.func 80) #[] #[.pointer (some ⟨gl, 0, none⟩), .pointer (some ⟨gv, 0, none⟩)] ∧ ICells J gl 0 [.slice A m k] ∧ ICells J gv 0 [vc]) := by
 refine enter Tryz.func49 Tryz.call49 rfl Tryz.ntmps49 rfl (fun w0 => ?_)
 refine go 3 ?_
 refine o_box _ rfl rfl rfl (fun g2 => ?_)
 refine go 1 ?_
 refine o_box _ rfl rfl rfl (fun g3 => ?_)
 refine go 5 ?_
 refine sx_pub (fun Ig3 jg3 cg3 => ?_)
 refine sx_pub (fun Ig2 jg2 cg2 => ?_)
 have cg3 := (cg3).le jg2
 refine o_v rfl (v_makeFunc rfl rfl) ?_
 refine go 4 ?_
 refine fin1 rfl rfl ?_
 exact q_i ⟨_, _, rfl, cg3, cg2⟩

theorem seAll (I : IMap) (vc : Value) (c : List Kind) (hvc : RdS I vc c) (hsc : SmC c) (v : Value) (l : List Rep) (hv : RdS I v l) (hl : l.length ≤ 1000000) (hsl : ∀ r ∈ l, ∀ e ∈ r.options, SmE e) (most : Int) :
    FnI Tryz.prog 19 #[.agg #[vc], v, .int .i64 most] I (fun u J => ∃ w, u = .tuple #[w, .int .i64 (allF c l most).2] ∧ RdS J w (allF c l most).1) := by
 have hv0 := hv
 obtain ⟨A, c0, rfl, hA, hc, hm⟩ := hv
 refine enter Tryz.func19 Tryz.call19 rfl Tryz.ntmps19 rfl (fun w0 => ?_)
 refine go 3 ?_
 refine o_box _ rfl rfl rfl (fun g3 => ?_)
 refine go 1 ?_
 refine o_box _ rfl rfl rfl (fun g5 => ?_)
 refine go 10 ?_
 refine sxb 13 rfl (fun h13 p13 => ?_) (fun h13 p13 => ?_)
 ·refine go 5 ?_
  refine c_true rfl ?_
  refine go 8 ?_
  refine fin2 rfl rfl rfl ?_
  have hr : allF c l most = ([], 1) := by unfold allF; rw [if_pos (by simp; omega)]
  exact q_i ⟨_, by rw [hr], by rw [hr]; exact RdS.nil'⟩
 ·refine go 5 ?_
  refine cb rfl (fun h16 p16 => ?_) (fun h16 p16 => ?_)
  ·refine go 8 ?_
   refine fin2 rfl rfl rfl ?_
   have hr : allF c l most = ([], 1) := by unfold allF; rw [if_pos (by simp; omega)]
   exact q_i ⟨_, by rw [hr], by rw [hr]; exact RdS.nil'⟩
  ·have hb2 : 1 ≤ most ∧ most ≤ 4096 := by omega
   have hb : ¬ (decide (most < 1) || decide (4096 < most)) = true := by simp; omega
   refine go 8 ?_
   refine o_callV (seChecked _ vc c hvc hsc _ l hv0 hl hsl) rfl rfl ?_
   refine go 9 ?_
   refine cb rfl (fun h21 p21 => ?_) (fun h21 p21 => ?_)
   ·refine go 9 ?_
    refine fin2 rfl rfl rfl ?_
    have hr : allF c l most = ([], errF c l) := by unfold allF; rw [if_neg hb, if_pos p21]
    exact q_i ⟨_, by rw [hr], by rw [hr]; exact RdS.nil'⟩
   ·have her : errF c l = 0 := by simpa using h21
    obtain ⟨hC, hP⟩ := err_zero her
    refine go 5 ?_
    refine o_alloc he rfl (fun g9 => ?_)
    refine go 6 ?_
    refine sx_nilrow 28 1 ?_
    refine go 2 ?_
    refine o_call (seHistories _ A _ c0 vc) rfl rfl (fun v25 I25 j25 q25 => ?_)
    have hvc := hvc.le j25
    have hv0 := hv0.le j25
    obtain ⟨gl, gv, rfl, k2, k1⟩ := q25
    refine go 3 ?_
    refine bring2 ?_
    refine bring2 ?_
    refine bring2 ?_
    refine c_range (σ := Option Addr × Nat × List Value) (ps := [26]) (none, 0, []) (fun ⟨A9, c9, xs⟩ => [.row (.slice A9 xs.length c9) 28 1 xs.length xs, .blk g9 32 [.slice A9 xs.length c9], .blk g5 3 [.int .i64 most]]) (fun pre I ⟨A9, c9, xs⟩ => Flat I xs pre ∧ (pre.length : Int) < most) (fun pre I ⟨A9, c9, xs⟩ cd => cd = .exit 0 ∧ Flat I xs pre ∧ (pre.length : Int) = most) rfl Tryz.call80 (histIt _ vc c hvc hsc A c0 l hv0 hl hsl hC hP gl gv k2 k1) (fun I vs x h => by obtain ⟨w, rfl, _⟩ := h; rfl) rfl (fun pre I I' s hI h => by obtain ⟨A9, c9, xs⟩ := s; exact ⟨h.1.le hI, h.2⟩) (fun pre I I' s c hI h => by obtain ⟨A9, c9, xs⟩ := s; exact ⟨h.1, h.2.1.le hI, h.2.2⟩) (⟨.nil, by simp; omega⟩) rfl ?_ ?_ ?_
    ·rintro r E1 pre x vs I1 ⟨A9, c9, xs⟩ hI1 ⟨hF, hlt⟩ ⟨w, rfl, hw⟩ _
     have hw0 := hw
     obtain ⟨B, cB, rfl, _, _, _⟩ := hw
     have hxl : xs.length = pre.length := hF.len.trans (Nat.mul_one _)
     
     refine sx_exp3 ?_
     refine go 3 ?_
     refine r_begin ?_
     refine go 6 ?_
     refine o_buildSlice he he rfl rfl rfl rfl rfl rfl rfl (fun v29 => ?_)
     refine go 1 ?_
     refine bring3 ?_
     refine o_appendO he he rfl rfl rfl rfl rfl (by omega) (by omega) rfl (fun v30 => ?_)
     refine sx_rowslice (fun A30 c30 hv30 => ?_)
     subst hv30
     refine go 1 ?_
     refine bring4 ?_
     refine o_stw _ he rfl rfl rfl rfl rfl rfl ?_
     refine go 10 ?_
     refine cb rfl (fun h34 p34 => ?_) (fun h34 p34 => ?_)
     ·refine go 2 ?_
      refine bring2 ?_
      refine sx_drop ?_
      refine bring4 ?_
      refine bring1 ?_
      refine bring2 ?_
      refine bring4 ?_
      refine bring4 ?_
      exact r_exit ((A30, c30, xs ++ [.slice B x.length cB])) (hI1) (⟨rfl, hF.append (.one ⟨_, rfl, hw0⟩), by simp only [List.length_append, List.length_singleton]; omega⟩) (by simp only [List.length_append, List.length_singleton]; rfl)
     ·refine go 2 ?_
      refine bring2 ?_
      refine sx_drop ?_
      refine bring4 ?_
      refine bring1 ?_
      refine bring2 ?_
      refine bring4 ?_
      refine bring4 ?_
      exact r_next ((A30, c30, xs ++ [.slice B x.length cB])) (hI1) (⟨hF.append (.one ⟨_, rfl, hw0⟩), by simp only [List.length_append, List.length_singleton] at *; omega⟩) (by simp only [List.length_append, List.length_singleton]; rfl)
    ·rintro D pre I1 ⟨A9, c9, xs⟩ hI1 hfull ⟨hF, hlt⟩
     have hxl : xs.length = pre.length := hF.len.trans (Nat.mul_one _)
     have hpre : pre = (histF c l).take most.toNat := by rw [← hfull, List.take_of_length_le (by omega)]
     refine sx_app3 ?_
     refine go 10 ?_
     refine cb rfl (fun h37 p37 => ?_) (fun h37 p37 => ?_)
     ·refine go 8 ?_
      refine q_mark ?_
      refine fin2 rfl rfl rfl ?_
      have hr : allF c l most = ([], 21) := by unfold allF; rw [if_neg hb, if_neg (by simpa using her), if_pos (by rw [← hpre]; exact List.eq_nil_of_length_eq_zero (by omega))]
      exact q_i ⟨_, by rw [hr], by rw [hr]; exact RdS.nil'⟩
     ·refine go 4 ?_
      refine bring1 ?_
      refine sx_pubrow (l := pre) rfl hxl (hF) (fun Ip jp Rp => ?_)
      refine go 6 ?_
      refine q_mark ?_
      refine fin2 rfl rfl rfl ?_
      have hr : allF c l most = (pre, 0) := by unfold allF; rw [if_neg hb, if_neg (by simpa using her), ← hpre, if_neg (fun e => by rw [e, List.length_nil] at hxl; omega)]
      exact q_i ⟨_, by rw [hr], by rw [hr]; exact Rp⟩
    ·rintro D pre I1 ⟨A9, c9, xs⟩ cd hI1 hpart ⟨rfl, hF, heq⟩
     have hxl : xs.length = pre.length := hF.len.trans (Nat.mul_one _)
     have hpre : pre = (histF c l).take most.toNat := by rw [show most.toNat = pre.length by omega]; exact List.prefix_iff_eq_take.1 hpart
     refine sx_app3 ?_
     refine go 11 ?_
     refine cb rfl (fun h37 p37 => ?_) (fun h37 p37 => ?_)
     ·refine go 8 ?_
      refine q_mark ?_
      refine fin2 rfl rfl rfl ?_
      have hr : allF c l most = ([], 21) := by unfold allF; rw [if_neg hb, if_neg (by simpa using her), if_pos (by rw [← hpre]; exact List.eq_nil_of_length_eq_zero (by omega))]
      exact q_i ⟨_, by rw [hr], by rw [hr]; exact RdS.nil'⟩
     ·refine go 4 ?_
      refine bring1 ?_
      refine sx_pubrow (l := pre) rfl hxl (hF) (fun Ip jp Rp => ?_)
      refine go 6 ?_
      refine q_mark ?_
      refine fin2 rfl rfl rfl ?_
      have hr : allF c l most = (pre, 0) := by unfold allF; rw [if_neg hb, if_neg (by simpa using her), ← hpre, if_neg (fun e => by rw [e, List.length_nil] at hxl; omega)]
      exact q_i ⟨_, by rw [hr], by rw [hr]; exact Rp⟩

theorem seFirst (I : IMap) (vc : Value) (c : List Kind) (hvc : RdS I vc c) (hsc : SmC c) (v : Value) (l : List Rep) (hv : RdS I v l) (hl : l.length ≤ 1000000) (hsl : ∀ r ∈ l, ∀ e ∈ r.options, SmE e)  :
    FnI Tryz.prog 17 #[.agg #[vc], v] I (fun u J => ∃ w, u = .tuple #[w, .int .i64 (firstF c l).2] ∧ RdS J w (firstF c l).1) := by
 refine enter Tryz.func17 Tryz.call17 rfl Tryz.ntmps17 rfl (fun w0 => ?_)
 refine go 3 ?_
 refine o_box _ rfl rfl rfl (fun g2 => ?_)
 refine go 9 ?_
 refine o_call (seAll _ vc c hvc hsc _ l hv hl hsl 1) rfl rfl (fun v11 I11 j11 q11 => ?_)
 obtain ⟨w11, rfl, hw11⟩ := q11
 refine go 14 ?_
 refine cb rfl (fun h15 p15 => ?_) (fun h15 p15 => ?_)
 ·refine go 9 ?_
  refine fin2 rfl rfl rfl ?_
  exact q_i ⟨_, by rw [first_no p15]; rfl, by rw [first_no p15]; exact RdS.nil'⟩
 ·have h0 : (allF c l 1).2 = 0 := by simpa using h15
  have hpos := all_pos h0
  obtain ⟨A11, c11, rfl, hA11, hc11, hm11⟩ := hw11
  refine go 5 ?_
  obtain ⟨b18, o18, w18, e18, c18, r18⟩ := RdA.at_ hA11 (i := 0) (by omega)
  obtain ⟨q18, rfl, S18, d18, rfl, hS18, hd18, hm18⟩ := r18
  refine o_v rfl (v_idx he rfl rfl e18 (0) (by omega) (by omega)) ?_
  refine o_v rfl (v_ldI he rfl (c18 0 _ rfl)) ?_
  refine go 5 ?_
  refine fin2 rfl rfl rfl ?_
  exact q_i ⟨_, by rw [first_yes h0]; try rfl, by rw [first_yes h0]; exact ⟨_, _, rfl, hS18, hd18, hm18⟩⟩

theorem seCount (I : IMap) (vc : Value) (c : List Kind) (hvc : RdS I vc c) (hsc : SmC c) (v : Value) (l : List Rep) (hv : RdS I v l) (hl : l.length ≤ 1000000) (hsl : ∀ r ∈ l, ∀ e ∈ r.options, SmE e) (most : Int) :
    FnI Tryz.prog 21 #[.agg #[vc], v, .int .i64 most] I (fun u J => u = .tuple #[.int .i64 (countF c l most).1, .int .i64 (countF c l most).2]) := by
 refine enter Tryz.func21 Tryz.call21 rfl Tryz.ntmps21 rfl (fun w0 => ?_)
 refine go 3 ?_
 refine o_box _ rfl rfl rfl (fun g3 => ?_)
 refine go 10 ?_
 refine o_call (seAll _ vc c hvc hsc _ l hv hl hsl most) rfl rfl (fun v14 I14 j14 q14 => ?_)
 obtain ⟨w14, rfl, hw14⟩ := q14
 obtain ⟨A14, c14, rfl, hA14, hc14, hm14⟩ := hw14
 refine go 14 ?_
 refine cb rfl (fun h18 p18 => ?_) (fun h18 p18 => ?_)
 ·refine go 8 ?_
  refine fin2 rfl rfl rfl ?_
  exact q_i (by unfold countF; rw [if_pos p18])
 ·refine go 12 ?_
  refine fin2 rfl rfl rfl ?_
  exact q_i (by unfold countF; rw [if_neg p18]; rfl)

end Go.Proofs.YtoadjlmbdliceaaGreat

/- Walks, printed by a program out of the code of the functions: each theorem is a contract of one function. -/
namespace Go.Proofs.YtoadjlmbdliceaaGreat
open Go Go.Sx
set_option linter.all false
set_option maxRecDepth 20000
set_option maxHeartbeats 4000000
instance T.by_47 : Has (bytesK Tryz.prog 47) ([.slice none 0 0, .bool false], 2, 32) := ⟨by kernel_rfl⟩
instance T.pl_47 : Has (plK Tryz.prog 47) [(0, 1), (1, 1)] := ⟨by kernel_rfl⟩
theorem ref16Ints (I : IMap) (v : Value) (l : List (Int)) (hv : RdS I v l) (w : Value) (m : List (Int)) (hw : RdS I w m) :
    FnV Tryz.prog 23 #[v, w] I (.bool (decide (l = m))) := by
 obtain ⟨A, c0, rfl, hA, hc, hm⟩ := hv
 obtain ⟨B, c1, rfl, hB, hc1, hm1⟩ := hw
 refine enter Tryz.func23 Tryz.call23 rfl Tryz.ntmps23 rfl (fun w0 => ?_)
 refine go 15 ?_
 refine cb rfl (fun h10 p10 => ?_) (fun h10 p10 => ?_)
 ·refine go 7 ?_
  refine fin1 rfl rfl ?_
  exact q_v (congrArg Value.bool (decide_eq_false (by rintro rfl; revert h10; simp)).symm)
 ·have hlm : l.length = m.length := by revert h10; simp; omega
  refine go 9 ?_
  refine c_loop (α := Nat) 0 (fun i => I)
   (fun i => [(0, .slice A l.length c0), (1, .slice B m.length c1), (5, .int .i64 ((i : Nat) : Int))])
   (fun i => [])
   (fun i => i ≤ l.length ∧ l.take i = m.take i)
   (fun i => l.length - i) ⟨Nat.zero_le _, rfl⟩ rfl sb rfl ?_
  intro i ⟨hi, hn⟩
  refine go 9 ?_
  refine cb rfl (fun h14 p14 => ?_) (fun h14 p14 => ?_)
  ·have hlt : i < l.length := by omega
   have hlt2 : i < m.length := by omega
   refine go 5 ?_
   refine d_startH T.mixed ?_
   refine d_tv 0 rfl rfl (by kernel_rfl) rfl .slnil rfl (v_move rfl) ?_
   refine d_tv 1 rfl rfl (by kernel_rfl) rfl .slnil rfl (v_move rfl) ?_
   obtain ⟨b19, o19, w19, e19, c19, r19⟩ := RdA.at_ hA (i := i) (by omega)
   obtain rfl := r19
   refine d_tv 2 rfl rfl (by kernel_rfl) rfl .slnil rfl (v_idx he rfl rfl e19 (i) (by omega) (by omega)) ?_
   refine d_tv 3 rfl rfl (by kernel_rfl) rfl .slnil rfl (v_ldI he rfl (c19 0 _ rfl)) ?_
   refine d_tv 4 rfl rfl (by kernel_rfl) rfl .slnil rfl (v_move rfl) ?_
   refine d_tv 5 rfl rfl (by kernel_rfl) rfl .slnil rfl (v_move rfl) ?_
   obtain ⟨b23, o23, w23, e23, c23, r23⟩ := RdA.at_ hB (i := i) (by omega)
   obtain rfl := r23
   refine d_tv 6 rfl rfl (by kernel_rfl) rfl .slnil rfl (v_idx he rfl rfl e23 (i) (by omega) (by omega)) ?_
   refine d_tv 7 rfl rfl (by kernel_rfl) rfl .slnil rfl (v_ldI he rfl (c23 0 _ rfl)) ?_
   refine d_tv 8 rfl rfl (by kernel_rfl) rfl .slnil rfl (v_neq rfl rfl) ?_
   refine d_done (by kernel_rfl) ?_
   refine go 1 ?_
   refine cb rfl (fun h25 p25 => ?_) (fun h25 p25 => ?_)
   ·refine go 11 ?_
    refine fin1 rfl rfl ?_
    exact q_v (congrArg Value.bool (same_no hlt hlt2 (by simpa using h25)).symm)
   ·refine go 9 ?_
    exact q_next (i + 1) ⟨by omega, same_next hlt hlt2 hn (by simpa using h25)⟩ (by omega) rfl sb rfl
  ·refine go 11 ?_
   refine fin1 rfl rfl ?_
   exact q_v (congrArg Value.bool (decide_eq_true (same_end hlm (by omega) hn)).symm)

theorem ref16Lists (I : IMap) (v : Value) (l : List (List Int)) (hv : RdS I v l) (w : Value) (m : List (List Int)) (hw : RdS I w m) :
    FnV Tryz.prog 24 #[v, w] I (.bool (decide (l = m))) := by
 obtain ⟨A, c0, rfl, hA, hc, hm⟩ := hv
 obtain ⟨B, c1, rfl, hB, hc1, hm1⟩ := hw
 refine enter Tryz.func24 Tryz.call24 rfl Tryz.ntmps24 rfl (fun w0 => ?_)
 refine go 15 ?_
 refine cb rfl (fun h10 p10 => ?_) (fun h10 p10 => ?_)
 ·refine go 7 ?_
  refine fin1 rfl rfl ?_
  exact q_v (congrArg Value.bool (decide_eq_false (by rintro rfl; revert h10; simp)).symm)
 ·have hlm : l.length = m.length := by revert h10; simp; omega
  refine go 9 ?_
  refine c_loop (α := Nat) 0 (fun i => I)
   (fun i => [(0, .slice A l.length c0), (1, .slice B m.length c1), (5, .int .i64 ((i : Nat) : Int))])
   (fun i => [])
   (fun i => i ≤ l.length ∧ l.take i = m.take i)
   (fun i => l.length - i) ⟨Nat.zero_le _, rfl⟩ rfl sb rfl ?_
  intro i ⟨hi, hn⟩
  refine go 9 ?_
  refine cb rfl (fun h14 p14 => ?_) (fun h14 p14 => ?_)
  ·have hlt : i < l.length := by omega
   have hlt2 : i < m.length := by omega
   refine go 5 ?_
   refine d_startH T.mixed ?_
   refine d_tv 0 rfl rfl (by kernel_rfl) rfl .slnil rfl (v_move rfl) ?_
   refine d_tv 1 rfl rfl (by kernel_rfl) rfl .slnil rfl (v_move rfl) ?_
   obtain ⟨b19, o19, w19, e19, c19, r19⟩ := RdA.at_ hA (i := i) (by omega)
   obtain ⟨q19, rfl, S19, d19, rfl, hS19, hd19, hm19⟩ := r19
   refine d_tv 2 rfl rfl (by kernel_rfl) rfl .slnil rfl (v_idx he rfl rfl e19 (i) (by omega) (by omega)) ?_
   refine d_tv 3 rfl rfl (by kernel_rfl) rfl .slnil rfl (v_ldI he rfl (c19 0 _ rfl)) ?_
   refine d_tv 4 rfl rfl (by kernel_rfl) rfl .slnil rfl (v_move rfl) ?_
   refine d_tv 5 rfl rfl (by kernel_rfl) rfl .slnil rfl (v_move rfl) ?_
   obtain ⟨b23, o23, w23, e23, c23, r23⟩ := RdA.at_ hB (i := i) (by omega)
   obtain ⟨q23, rfl, S23, d23, rfl, hS23, hd23, hm23⟩ := r23
   refine d_tv 6 rfl rfl (by kernel_rfl) rfl .slnil rfl (v_idx he rfl rfl e23 (i) (by omega) (by omega)) ?_
   refine d_tv 7 rfl rfl (by kernel_rfl) rfl .slnil rfl (v_ldI he rfl (c23 0 _ rfl)) ?_
   refine d_one 8 (by kernel_rfl) rfl ?_
   refine o_callV (ref16Ints _ _ l[i] ⟨_, _, rfl, hS19, hd19, hm19⟩ _ m[i] ⟨_, _, rfl, hS23, hd23, hm23⟩) rfl rfl ?_
   refine d_on (fun _ m => m.keeps .slnil) ?_
   refine d_tv 9 rfl rfl (by kernel_rfl) rfl .slnil rfl (v_not rfl) ?_
   refine d_done (by kernel_rfl) ?_
   refine go 1 ?_
   refine cb rfl (fun h26 p26 => ?_) (fun h26 p26 => ?_)
   ·refine go 11 ?_
    refine fin1 rfl rfl ?_
    exact q_v (congrArg Value.bool (same_no hlt hlt2 (by simpa using h26)).symm)
   ·refine go 9 ?_
    exact q_next (i + 1) ⟨by omega, same_next hlt hlt2 hn (by simpa using h26)⟩ (by omega) rfl sb rfl
  ·refine go 11 ?_
   refine fin1 rfl rfl ?_
   exact q_v (congrArg Value.bool (decide_eq_true (same_end hlm (by omega) hn)).symm)

theorem ref13Ways (I : IMap) (v : Value) (l : List Rep) (hv : RdS I v l) (hl : l.length ≤ 1000000) (hsl : ∀ r ∈ l, ∀ e ∈ r.options, SmE e) (most : Int) (hmo : most ≤ 4096) :
    FnV Tryz.prog 55 #[v, .int .i64 most] I (.int .i64 ((waysGo most 1 l : Nat) : Int)) := by
 obtain ⟨A, c0, rfl, hA, hc, hm⟩ := hv
 refine enter Tryz.func55 Tryz.call55 rfl Tryz.ntmps55 rfl (fun w0 => ?_)
 refine go 17 ?_
 refine c_loop2 (0) (1) (fun i n => I)
  (fun i n => [(0, .slice A l.length c0), (1, .int .i64 most), (5, .int .i64 ((n : Nat) : Int)), (6, .int .i64 ((i : Nat) : Int))])
  (fun i n => [])
  (fun i n => i ≤ l.length ∧ n ≤ 1000000 ∧ waysGo most 1 l = waysGo most n (l.drop i))
  (fun i n => l.length - i) ⟨Nat.zero_le _, by omega, rfl⟩ rfl sb rfl ?_
 intro i n ⟨hi, hn, hw⟩
 refine go 8 ?_
 refine sxb 11 rfl (fun h11 p11 => ?_) (fun h11 p11 => ?_)
 ·refine go 6 ?_
  refine cb rfl (fun h15 p15 => ?_) (fun h15 p15 => ?_)
  ·have hlt : i < l.length := by omega
   have hnm : ((n : Nat) : Int) ≤ most := by omega
   have hc5 := chs_five l[i]
   have hcn := chs_nn l[i]
   have hpn : n * max 1 (chs l[i]).toNat ≤ 4096 * 5 := Nat.mul_le_mul (by omega) (by omega)
   have hpi : (n : Int) * ((max 1 (chs l[i]).toNat : Nat) : Int) = ((n * max 1 (chs l[i]).toNat : Nat) : Int) := (Int.natCast_mul _ _).symm
   generalize hmx : max 1 (chs l[i]).toNat = mx at hpn hpi
   refine go 8 ?_
   obtain ⟨b21, o21, w21, e21, c21, r21⟩ := RdA.at_ hA (i := i) (by omega)
   obtain ⟨q21, rfl, S21, d21, rfl, hS21, hd21, hm21⟩ := r21
   refine o_v rfl (v_idx he rfl rfl e21 (i) (by omega) (by omega)) ?_
   refine o_v rfl (v_ldIa he rfl c21 rfl) ?_
   refine go 1 ?_
   refine o_callV (ref13Choices _ l[i] S21 d21 ⟨_, _, rfl, hS21, hd21, hm21⟩ (hsl _ (List.getElem_mem hlt))) rfl rfl ?_
   refine o_v rfl (OV.cast (u := .int .i64 ((mx : Nat) : Int)) (v_max rfl rfl) (congrArg (Value.int .i64) (by split <;> omega))) ?_
   refine o_v rfl (OV.cast (u := .int .i64 ((n * mx : Nat) : Int)) (v_mul rfl rfl ⟨by omega, by omega⟩) (congrArg (Value.int .i64) (by rw [hpi]))) ?_
   refine go 10 ?_
   exact q_next2 (i + 1) (n * mx) ⟨by omega, by omega, by rw [hw, ways_step hlt (by omega), hmx]⟩ (by omega) rfl sb rfl
  ·refine go 12 ?_
   refine fin1 rfl rfl ?_
   exact q_v (congrArg (Value.int .i64) (by rw [hw, ways_big (by omega)]))
 ·refine go 6 ?_
  refine c_false rfl ?_
  refine go 12 ?_
  refine fin1 rfl rfl ?_
  obtain rfl : i = l.length := by omega
  exact q_v (congrArg (Value.int .i64) (by rw [hw, List.drop_length]; rfl))

theorem ref16Few (I : IMap) (v : Value) (l : List Rep) (hv : RdS I v l) (most : Int) (hmo : most ≤ 4096) :
    FnV Tryz.prog 33 #[v, .int .i64 most] I (.bool (few16 l most)) := by
 refine enter Tryz.func33 Tryz.call33 rfl Tryz.ntmps33 rfl (fun w0 => ?_)
 refine go 9 ?_
 refine o_callV (ref13Few _ v l hv 12) rfl rfl ?_
 refine go 1 ?_
 refine sxb 7 rfl (fun h7 p7 => ?_) (fun h7 p7 => ?_)
 ·refine go 3 ?_
  refine o_yes rfl rfl h7 (o_callV (ref13Ways _ v l hv (by have := (fewR_sm h7).2; omega) (fewR_sm h7).1 most hmo) rfl rfl ?_)
  refine go 7 ?_
  refine fin1 rfl rfl ?_
  exact q_v (congrArg Value.bool (by simp only [few16, h7, bS]))
 ·refine go 10 ?_
  refine fin1 rfl rfl ?_
  exact q_v (congrArg Value.bool (by simp only [few16, h7, bS]))

theorem law16few (I : IMap) (vc : Value) (c : List Kind) (hvc : RdS I vc c) (v : Value) (l : List Rep) (hv : RdS I v l)  :
    FnV Tryz.prog 16 #[.agg #[vc], v] I (.bool (fewC c && few16 l 200)) := by
 refine enter Tryz.func16 Tryz.call16 rfl Tryz.ntmps16 rfl (fun w0 => ?_)
 refine go 3 ?_
 refine o_box _ rfl rfl rfl (fun g2 => ?_)
 refine go 7 ?_
 refine o_callV (refFew _ vc c hvc) rfl rfl ?_
 refine go 1 ?_
 refine sxb 7 rfl (fun h7 p7 => ?_) (fun h7 p7 => ?_)
 ·refine go 2 ?_
  refine o_yes rfl rfl h7 (o_callV (ref16Few _ v l hv 200 (by omega)) rfl rfl ?_)
  refine go 5 ?_
  refine fin1 rfl rfl ?_
  exact q_v (congrArg Value.bool (by simp only [h7, bS]))
 ·refine go 7 ?_
  refine fin1 rfl rfl ?_
  exact q_v (congrArg Value.bool (by simp only [h7, bS]))

theorem made16 (I : IMap) (p k : ByteArray) :
    FnI Tryz.prog 53 #[.string p, .string k] I (fun u J => ∃ w, u = .agg #[w, .bool false] ∧ RdS J w [sxMade p k]) := by
 refine enter Tryz.func53 Tryz.call53 rfl Tryz.ntmps53 rfl (fun w0 => ?_)
 refine go 3 ?_
 refine o_alloc he rfl (fun g4 => ?_)
 refine go 7 ?_
 refine o_val rfl (v_build (pl := [(0, 1), (1, 1), (2, 1), (3, 1), (4, 1), (5, 1), (6, 1), (7, 1), (8, 6)]) he he rfl rfl) ?_
 refine go 1 ?_
 refine o_buildSlice he he rfl rfl rfl rfl rfl rfl rfl (fun v8 => ?_)
 refine sx_pubrow (l := [sxMade p k]) rfl rfl (.one rfl) (fun I8 j8 R8 => ?_)
 have R8s := R8
 obtain ⟨A8, c8, rfl, _⟩ := R8s
 refine go 1 ?_
 refine o_val rfl (v_build (pl := [(0, 1), (1, 1)]) he he rfl rfl) ?_
 refine go 1 ?_
 refine o_stw _ he rfl rfl rfl rfl rfl rfl ?_
 refine go 3 ?_
 refine fin1 rfl ⟨_, _, _, rfl, m0, .inr ⟨_, he, rfl, rfl⟩⟩ ?_
 exact q_i ⟨_, rfl, R8⟩

theorem fit16 (I : IMap) (p : ByteArray) :
    FnV Tryz.prog 54 #[.string p] I (.agg (sxFit p).cells.toArray) := by
 refine enter Tryz.func54 Tryz.call54 rfl Tryz.ntmps54 rfl (fun w0 => ?_)
 refine go 3 ?_
 refine o_alloc he rfl (fun g2 => ?_)
 refine go 6 ?_
 refine o_val rfl (v_build (pl := [(0, 1), (1, 1), (2, 1), (3, 1), (4, 1), (5, 1), (6, 1), (7, 1), (8, 6)]) he he rfl rfl) ?_
 refine go 1 ?_
 refine o_stw _ he rfl rfl rfl rfl rfl rfl ?_
 refine go 3 ?_
 refine fin1 rfl ⟨_, _, _, rfl, m0, .inr ⟨_, he, rfl, rfl⟩⟩ ?_
 exact q_v rfl

theorem example16 (I : IMap) :
    FnI Tryz.prog 31 #[] I (fun u J => ∃ vc A, u = .tuple #[.agg #[vc], .slice A sxL.length sxL.length] ∧ RdS J vc sxC ∧ RdA J A sxL) := by
 refine enter Tryz.func31 Tryz.call31 rfl Tryz.ntmps31 rfl (fun w0 => ?_)
 refine go 3 ?_
 refine o_alloc he rfl (fun g0 => ?_)
 refine go 6 ?_
 refine o_val rfl (v_build (pl := [(0, 1), (1, 1), (2, 1)]) he he rfl rfl) ?_
 refine go 1 ?_
 refine o_buildSlice he he rfl rfl rfl rfl rfl rfl rfl (fun v7 => ?_)
 refine sx_pubrow (l := [sAxle]) rfl rfl (.one rfl) (fun I7 j7 R7 => ?_)
 try have R7 := R7.le j7
 try have R9 := R9.le j7
 try have R11 := R11.le j7
 try have R14 := R14.le j7
 try have R16 := R16.le j7
 try have R18 := R18.le j7
 try have R23 := R23.le j7
 have R7s := R7
 obtain ⟨A7, c7, rfl, _⟩ := R7s
 refine go 1 ?_
 refine o_val rfl (v_build (pl := [(0, 1), (1, 1), (2, 1)]) he he rfl rfl) ?_
 refine go 1 ?_
 refine o_buildSlice he he rfl rfl rfl rfl rfl rfl rfl (fun v9 => ?_)
 refine sx_pubrow (l := [(⟨sAxle, [sAxle], 1⟩ : Slot)]) rfl rfl (.one ⟨_, rfl, R7⟩) (fun I9 j9 R9 => ?_)
 try have R7 := R7.le j9
 try have R9 := R9.le j9
 try have R11 := R11.le j9
 try have R14 := R14.le j9
 try have R16 := R16.le j9
 try have R18 := R18.le j9
 try have R23 := R23.le j9
 have R9s := R9
 obtain ⟨A9, c9, rfl, _⟩ := R9s
 refine go 1 ?_
 refine o_val rfl (v_build (pl := [(0, 1), (1, 1), (2, 1)]) he he rfl rfl) ?_
 refine go 1 ?_
 refine o_buildSlice he he rfl rfl rfl rfl rfl rfl rfl (fun v11 => ?_)
 refine sx_pubrow (l := sxC) rfl rfl (.cons ⟨_, rfl, RdS.nil'⟩ (.one ⟨_, rfl, R9⟩)) (fun I11 j11 R11 => ?_)
 try have R7 := R7.le j11
 try have R9 := R9.le j11
 try have R11 := R11.le j11
 try have R14 := R14.le j11
 try have R16 := R16.le j11
 try have R18 := R18.le j11
 try have R23 := R23.le j11
 have R11s := R11
 obtain ⟨A11, c11, rfl, _⟩ := R11s
 refine go 1 ?_
 refine o_val rfl (v_build (pl := [(0, 1)]) he he rfl rfl) ?_
 refine go 1 ?_
 refine o_alloc he rfl (fun g2 => ?_)
 refine go 1 ?_
 refine o_stw _ he rfl rfl rfl rfl rfl rfl ?_
 refine go 16 ?_
 refine o_call (made16 _ sA sAxle) rfl rfl (fun v14 I14 j14 q14 => ?_)
 try have R7 := R7.le j14
 try have R9 := R9.le j14
 try have R11 := R11.le j14
 try have R14 := R14.le j14
 try have R16 := R16.le j14
 try have R18 := R18.le j14
 try have R23 := R23.le j14
 obtain ⟨w14, rfl, R14⟩ := q14
 have R14s := R14
 obtain ⟨A14, c14, rfl, _⟩ := R14s
 refine go 2 ?_
 refine o_call (made16 _ sB sAxle) rfl rfl (fun v16 I16 j16 q16 => ?_)
 try have R7 := R7.le j16
 try have R9 := R9.le j16
 try have R11 := R11.le j16
 try have R14 := R14.le j16
 try have R16 := R16.le j16
 try have R18 := R18.le j16
 try have R23 := R23.le j16
 obtain ⟨w16, rfl, R16⟩ := q16
 have R16s := R16
 obtain ⟨A16, c16, rfl, _⟩ := R16s
 refine go 2 ?_
 refine o_call (made16 _ sW sWheel) rfl rfl (fun v18 I18 j18 q18 => ?_)
 try have R7 := R7.le j18
 try have R9 := R9.le j18
 try have R11 := R11.le j18
 try have R14 := R14.le j18
 try have R16 := R16.le j18
 try have R18 := R18.le j18
 try have R23 := R23.le j18
 obtain ⟨w18, rfl, R18⟩ := q18
 have R18s := R18
 obtain ⟨A18, c18, rfl, _⟩ := R18s
 refine go 2 ?_
 refine o_callV (fit16 _ sA) rfl rfl ?_
 refine go 2 ?_
 refine o_callV (fit16 _ sB) rfl rfl ?_
 refine go 1 ?_
 refine o_buildSlice he he rfl rfl rfl rfl rfl rfl rfl (fun v23 => ?_)
 refine sx_pubrow (l := [sxFit sA, sxFit sB]) rfl rfl (.cons rfl (.one rfl)) (fun I23 j23 R23 => ?_)
 try have R7 := R7.le j23
 try have R9 := R9.le j23
 try have R11 := R11.le j23
 try have R14 := R14.le j23
 try have R16 := R16.le j23
 try have R18 := R18.le j23
 try have R23 := R23.le j23
 have R23s := R23
 obtain ⟨A23, c23, rfl, _⟩ := R23s
 refine go 1 ?_
 refine o_val rfl (v_build (pl := [(0, 1), (1, 1)]) he he rfl rfl) ?_
 refine go 1 ?_
 refine o_val rfl (v_build (pl := [(0, 1), (1, 1), (2, 1), (3, 1), (4, 1), (5, 1), (6, 1), (7, 1), (8, 6)]) he he rfl rfl) ?_
 refine go 1 ?_
 refine o_buildSlice he he rfl rfl rfl rfl rfl rfl rfl (fun v26 => ?_)
 refine sx_pubrow (l := [sxRem sA 6]) rfl rfl (.one rfl) (fun I26 j26 R26 => ?_)
 try have R7 := R7.le j26
 try have R9 := R9.le j26
 try have R11 := R11.le j26
 try have R14 := R14.le j26
 try have R16 := R16.le j26
 try have R18 := R18.le j26
 try have R23 := R23.le j26
 have R26s := R26
 obtain ⟨A26, c26, rfl, _⟩ := R26s
 refine go 1 ?_
 refine o_val rfl (v_build (pl := [(0, 1), (1, 1)]) he he rfl rfl) ?_
 refine go 1 ?_
 refine o_buildSliceB he he rfl rfl rfl rfl rfl rfl rfl (fun g28 => ?_)
 refine sx_pub (fun Ig28 jg28 cg28 => ?_)
 try have R7 := R7.le jg28
 try have R9 := R9.le jg28
 try have R11 := R11.le jg28
 try have R14 := R14.le jg28
 try have R16 := R16.le jg28
 try have R18 := R18.le jg28
 try have R23 := R23.le jg28
 try have R26 := R26.le jg28
 have B28 := Flat.rda (l := sxL) (.cons ⟨_, rfl, R14⟩ (.cons ⟨_, rfl, R16⟩ (.cons ⟨_, rfl, R18⟩ (.cons ⟨_, rfl, R23⟩ (.one ⟨_, rfl, R26⟩))))) cg28
 refine go 8 ?_
 refine bring1 ?_
 refine o_stw _ he rfl rfl rfl rfl rfl rfl ?_
 refine go 4 ?_
 refine fin2 rfl ⟨_, _, _, rfl, m0, .inr ⟨_, he, rfl, rfl⟩⟩ rfl ?_
 exact q_i ⟨_, _, rfl, R11, B28⟩

theorem exFirst16 (I : IMap) (vc : Value) (hvc : RdS I vc sxC) (v : Value) (hv : RdS I v sxL) : FnI Tryz.prog 17 #[.agg #[vc], v] I (fun u J => ∃ w, u = .tuple #[w, .int .i64 0] ∧ RdS J w ([0, 0, 0, 0, 0] : List Int)) := by
  have := seFirst I vc sxC hvc sx_smC v sxL hv (by decide) sxL_sm
  rw [sx_first] at this
  exact this

theorem exAll16 (I : IMap) (vc : Value) (hvc : RdS I vc sxC) (v : Value) (hv : RdS I v sxL) : FnI Tryz.prog 19 #[.agg #[vc], v, .int .i64 10] I (fun u J => ∃ w, u = .tuple #[w, .int .i64 0] ∧ RdS J w ([[0, 0, 0, 0, 0], [0, 0, 0, 0, 1], [0, 0, 0, 1, 1]] : List (List Int))) := by
  have := seAll I vc sxC hvc sx_smC v sxL hv (by decide) sxL_sm 10
  rw [sx_all] at this
  exact this

theorem exMore16 (I : IMap) (vc : Value) (hvc : RdS I vc sxC) (v : Value) (hv : RdS I v sxM) : FnI Tryz.prog 19 #[.agg #[vc], v, .int .i64 10] I (fun u J => ∃ w, u = .tuple #[w, .int .i64 0] ∧ RdS J w ([[0, 0, 0, 1, 1, 0]] : List (List Int))) := by
  have := seAll I vc sxC hvc sx_smC v sxM hv (by decide) sxM_sm 10
  rw [sx_more] at this
  exact this

theorem exCount16 (I : IMap) (vc : Value) (hvc : RdS I vc sxC) (v : Value) (hv : RdS I v sxL) : FnI Tryz.prog 21 #[.agg #[vc], v, .int .i64 2] I (fun u J => u = .tuple #[.int .i64 2, .int .i64 0]) := by
  have := seCount I vc sxC hvc sx_smC v sxL hv (by decide) sxL_sm 2
  rw [sx_count] at this
  exact this

theorem eqInts16 (I : IMap) (v : Value) (l : List (Int)) (hv : RdS I v l) (w : Value) (hw : RdS I w l) : FnV Tryz.prog 23 #[v, w] I (.bool true) := by
  have := ref16Ints I v l hv w l hw
  rwa [decide_eq_true rfl] at this

theorem eqLists16 (I : IMap) (v : Value) (l : List (List Int)) (hv : RdS I v l) (w : Value) (hw : RdS I w l) : FnV Tryz.prog 24 #[v, w] I (.bool true) := by
  have := ref16Lists I v l hv w l hw
  rwa [decide_eq_true rfl] at this

theorem head16 (I : IMap) :
    FnV Tryz.prog 15 #[] I (.bool true) := by
 refine enter Tryz.func15 Tryz.call15 rfl Tryz.ntmps15 rfl (fun w0 => ?_)
 refine go 8 ?_
 refine o_call (example16 _) rfl rfl (fun v13 I13 j13 q13 => ?_)
 obtain ⟨vc, A, rfl, hvc, hA⟩ := q13
 have hv : RdS _ _ sxL := ⟨A, _, rfl, hA, Nat.le_refl _, by decide⟩
 refine go 4 ?_
 refine o_alloc he rfl (fun g1 => ?_)
 refine go 1 ?_
 refine o_stw _ he rfl rfl rfl rfl rfl (by simp [hvc.one]) ?_
 refine go 8 ?_
 refine o_call (exFirst16 _ vc hvc _ hv) rfl rfl (fun v19 I19 j19 q19 => ?_)
 try have hvc := hvc.le j19
 try have hv := hv.le j19
 try have hA := hA.le j19
 try have hw19 := hw19.le j19
 try have hw25 := hw25.le j19
 try have hw36 := hw36.le j19
 try have R58 := R58.le j19
 try have R59 := R59.le j19
 try have R60 := R60.le j19
 try have R71 := R71.le j19
 obtain ⟨w19, rfl, hw19⟩ := q19
 refine go 12 ?_
 refine o_call (exAll16 _ vc hvc _ hv) rfl rfl (fun v25 I25 j25 q25 => ?_)
 try have hvc := hvc.le j25
 try have hv := hv.le j25
 try have hA := hA.le j25
 try have hw19 := hw19.le j25
 try have hw25 := hw25.le j25
 try have hw36 := hw36.le j25
 try have R58 := R58.le j25
 try have R59 := R59.le j25
 try have R60 := R60.le j25
 try have R71 := R71.le j25
 obtain ⟨w25, rfl, hw25⟩ := q25
 refine go 8 ?_
 refine sx_knowI (fun hE4 hf4 => ?_)
 refine d_startH T.mixed ?_
 refine d_tv 0 rfl rfl (by kernel_rfl) rfl (.refl _) rfl (v_ldw m0 he rfl rfl) ?_
 refine d_tv 1 rfl rfl (by kernel_rfl) rfl (.refl _) rfl (v_move rfl) ?_
 refine d_tv 2 rfl rfl (by kernel_rfl) rfl (.refl _) rfl (v_build (pl := [(0, 1), (1, 1), (2, 1), (3, 1), (4, 1), (5, 1), (6, 1), (7, 1), (8, 6)]) he he rfl rfl) ?_
 refine d_one 3 (by kernel_rfl) rfl ?_
 refine o_buildSlice he he rfl rfl rfl rfl rfl rfl rfl (fun v32 => ?_)
 refine sx_pubrow (l := [sxRem sB 7]) rfl rfl (.one rfl) (fun I32 j32 R32 => ?_)
 try have hvc := hvc.le j32
 try have hv := hv.le j32
 try have hA := hA.le j32
 try have hw19 := hw19.le j32
 try have hw25 := hw25.le j32
 try have hw36 := hw36.le j32
 try have R58 := R58.le j32
 try have R59 := R59.le j32
 try have R60 := R60.le j32
 try have R71 := R71.le j32
 have R32s := R32
 obtain ⟨A32, c32, rfl, _⟩ := R32s
 refine d_on (fun _ m => m.keepsI (.refl _) (j32) hE4 hf4) ?_
 refine d_t 4 rfl rfl (by kernel_rfl) rfl (fun _ m => m.keepsI (.refl _) (j32) hE4 hf4) (y_v rfl (v_build (pl := [(0, 1), (1, 1)]) he he rfl rfl)) ?_
 refine d_one 5 (by kernel_rfl) rfl ?_
 refine o_buildSlice he he rfl rfl rfl rfl rfl rfl rfl (fun v34 => ?_)
 refine d_on (fun _ m => m.keepsI (.cons _ (.refl _)) (j32) hE4 hf4) ?_
 refine d_one 6 (by kernel_rfl) rfl ?_
 refine o_appendF hA (by decide) (by decide) rfl he he rfl rfl rfl rfl (by decide) (by decide) rfl (fun v35 x35 f35 => ?_)
 refine sx_pubrow (l := sxM) rfl rfl (f35.append (.one ⟨_, rfl, R32⟩)) (fun I35 j35 R35 => ?_)
 try have hvc := hvc.le j35
 try have hv := hv.le j35
 try have hA := hA.le j35
 try have hw19 := hw19.le j35
 try have hw25 := hw25.le j35
 try have hw36 := hw36.le j35
 try have R58 := R58.le j35
 try have R59 := R59.le j35
 try have R60 := R60.le j35
 try have R71 := R71.le j35
 try have R32 := R32.le j35
 have hmore := R35
 refine d_on (fun _ m => m.keepsI (.cons _ (.refl _)) ((j32).trans j35) hE4 hf4) ?_
 refine d_one 7 (by kernel_rfl) rfl ?_
 refine o_call (exMore16 _ vc hvc _ hmore) rfl rfl (fun v36 I36 j36 q36 => ?_)
 try have hvc := hvc.le j36
 try have hv := hv.le j36
 try have hA := hA.le j36
 try have hw19 := hw19.le j36
 try have hw25 := hw25.le j36
 try have hw36 := hw36.le j36
 try have R58 := R58.le j36
 try have R59 := R59.le j36
 try have R60 := R60.le j36
 try have R71 := R71.le j36
 obtain ⟨w36, rfl, hw36⟩ := q36
 refine d_on (fun _ m => m.keepsI (.cons _ (.refl _)) (((j32).trans j35).trans j36) hE4 hf4) ?_
 refine d_t 8 rfl rfl (by kernel_rfl) rfl (fun _ m => m.keepsI (.cons _ (.refl _)) (((j32).trans j35).trans j36) hE4 hf4) (y_v rfl (v_move rfl)) ?_
 refine d_t 9 rfl rfl (by kernel_rfl) rfl (fun _ m => m.keepsI (.cons _ (.refl _)) (((j32).trans j35).trans j36) hE4 hf4) (y_v rfl (v_extract rfl rfl)) ?_
 refine d_t 10 rfl rfl (by kernel_rfl) rfl (fun _ m => m.keepsI (.cons _ (.refl _)) (((j32).trans j35).trans j36) hE4 hf4) (y_v rfl (v_extract rfl rfl)) ?_
 refine d_t 11 rfl rfl (by kernel_rfl) rfl (fun _ m => m.keepsI (.cons _ (.refl _)) (((j32).trans j35).trans j36) hE4 hf4) (y_v rfl (v_assign rfl)) ?_
 refine d_t 12 rfl rfl (by kernel_rfl) rfl (fun _ m => m.keepsI (.cons _ (.refl _)) (((j32).trans j35).trans j36) hE4 hf4) (y_v rfl (v_assign rfl)) ?_
 refine d_done (by kernel_rfl) ?_
 refine go 6 ?_
 refine o_call (exCount16 _ vc hvc _ hv) rfl rfl (fun v42 I42 j42 q42 => ?_)
 try have hvc := hvc.le j42
 try have hv := hv.le j42
 try have hA := hA.le j42
 try have hw19 := hw19.le j42
 try have hw25 := hw25.le j42
 try have hw36 := hw36.le j42
 try have R58 := R58.le j42
 try have R59 := R59.le j42
 try have R60 := R60.le j42
 try have R71 := R71.le j42
 obtain rfl := q42
 refine go 10 ?_
 refine o_v rfl (OV.cast (u := .bool true) (v_eql rfl rfl) (congrArg Value.bool (decide_eq_true (rfl)))) ?_
 refine go 3 ?_
 refine o_yes rfl rfl rfl (o_buildSlice he he rfl rfl rfl rfl rfl rfl rfl (fun v49 => ?_))
 refine sx_roweq (ys := [ci 0] ++ ([ci 0] ++ ([ci 0] ++ ([ci 0] ++ ([ci 0]))))) (rfl) ?_
 refine sx_pubrow (l := ([0, 0, 0, 0, 0] : List Int)) rfl rfl (.cons rfl (.cons rfl (.cons rfl (.cons rfl (.one rfl))))) (fun I49 j49 R49 => ?_)
 try have hvc := hvc.le j49
 try have hv := hv.le j49
 try have hA := hA.le j49
 try have hw19 := hw19.le j49
 try have hw25 := hw25.le j49
 try have hw36 := hw36.le j49
 try have R58 := R58.le j49
 try have R59 := R59.le j49
 try have R60 := R60.le j49
 try have R71 := R71.le j49
 have R49s := R49
 obtain ⟨A49, c49, rfl, _⟩ := R49s
 refine go 1 ?_
 refine o_yes rfl rfl rfl (o_callV (eqInts16 _ _ _ hw19 _ R49) rfl rfl ?_)
 refine go 3 ?_
 refine o_cons (o_yes rfl rfl rfl (o_val rfl (OV.cast (u := .bool true) (v_eql rfl rfl) (congrArg Value.bool (decide_eq_true (rfl)))) ?_))
 refine go 4 ?_
 refine o_yes rfl rfl rfl (o_buildSlice he he rfl rfl rfl rfl rfl rfl rfl (fun v58 => ?_))
 refine sx_roweq (ys := [ci 0] ++ ([ci 0] ++ ([ci 0] ++ ([ci 0] ++ ([ci 0]))))) (rfl) ?_
 refine sx_pubrow (l := ([0, 0, 0, 0, 0] : List Int)) rfl rfl (.cons rfl (.cons rfl (.cons rfl (.cons rfl (.one rfl))))) (fun I58 j58 R58 => ?_)
 try have hvc := hvc.le j58
 try have hv := hv.le j58
 try have hA := hA.le j58
 try have hw19 := hw19.le j58
 try have hw25 := hw25.le j58
 try have hw36 := hw36.le j58
 try have R58 := R58.le j58
 try have R59 := R59.le j58
 try have R60 := R60.le j58
 try have R71 := R71.le j58
 have R58s := R58
 obtain ⟨A58, c58, rfl, _⟩ := R58s
 refine go 1 ?_
 refine o_yes rfl rfl rfl (o_buildSlice he he rfl rfl rfl rfl rfl rfl rfl (fun v59 => ?_))
 refine sx_roweq (ys := [ci 0] ++ ([ci 0] ++ ([ci 0] ++ ([ci 0] ++ ([ci 1]))))) (rfl) ?_
 refine sx_pubrow (l := ([0, 0, 0, 0, 1] : List Int)) rfl rfl (.cons rfl (.cons rfl (.cons rfl (.cons rfl (.one rfl))))) (fun I59 j59 R59 => ?_)
 try have hvc := hvc.le j59
 try have hv := hv.le j59
 try have hA := hA.le j59
 try have hw19 := hw19.le j59
 try have hw25 := hw25.le j59
 try have hw36 := hw36.le j59
 try have R58 := R58.le j59
 try have R59 := R59.le j59
 try have R60 := R60.le j59
 try have R71 := R71.le j59
 have R59s := R59
 obtain ⟨A59, c59, rfl, _⟩ := R59s
 refine go 1 ?_
 refine o_yes rfl rfl rfl (o_buildSlice he he rfl rfl rfl rfl rfl rfl rfl (fun v60 => ?_))
 refine sx_roweq (ys := [ci 0] ++ ([ci 0] ++ ([ci 0] ++ ([ci 1] ++ ([ci 1]))))) (rfl) ?_
 refine sx_pubrow (l := ([0, 0, 0, 1, 1] : List Int)) rfl rfl (.cons rfl (.cons rfl (.cons rfl (.cons rfl (.one rfl))))) (fun I60 j60 R60 => ?_)
 try have hvc := hvc.le j60
 try have hv := hv.le j60
 try have hA := hA.le j60
 try have hw19 := hw19.le j60
 try have hw25 := hw25.le j60
 try have hw36 := hw36.le j60
 try have R58 := R58.le j60
 try have R59 := R59.le j60
 try have R60 := R60.le j60
 try have R71 := R71.le j60
 have R60s := R60
 obtain ⟨A60, c60, rfl, _⟩ := R60s
 refine go 1 ?_
 refine o_yes rfl rfl rfl (o_buildSlice he he rfl rfl rfl rfl rfl rfl rfl (fun v61 => ?_))
 refine sx_roweq (ys := [.slice A58 5 c58] ++ ([.slice A59 5 c59] ++ [.slice A60 5 c60])) (rfl) ?_
 refine sx_pubrow (l := ([[0, 0, 0, 0, 0], [0, 0, 0, 0, 1], [0, 0, 0, 1, 1]] : List (List Int))) rfl rfl (.cons ⟨_, rfl, R58⟩ (.cons ⟨_, rfl, R59⟩ (.one ⟨_, rfl, R60⟩))) (fun I61 j61 R61 => ?_)
 try have hvc := hvc.le j61
 try have hv := hv.le j61
 try have hA := hA.le j61
 try have hw19 := hw19.le j61
 try have hw25 := hw25.le j61
 try have hw36 := hw36.le j61
 try have R58 := R58.le j61
 try have R59 := R59.le j61
 try have R60 := R60.le j61
 try have R71 := R71.le j61
 refine go 1 ?_
 refine o_yes rfl rfl rfl (o_callV (eqLists16 _ _ _ hw25 _ R61) rfl rfl ?_)
 refine go 9 ?_
 refine o_cons (o_yes rfl rfl rfl (o_val rfl (OV.cast (u := .bool true) (v_eql rfl rfl) (congrArg Value.bool (decide_eq_true (rfl)))) ?_))
 refine go 4 ?_
 refine o_yes rfl rfl rfl (o_buildSlice he he rfl rfl rfl rfl rfl rfl rfl (fun v71 => ?_))
 refine sx_roweq (ys := [ci 0] ++ ([ci 0] ++ ([ci 0] ++ ([ci 1] ++ ([ci 1] ++ ([ci 0])))))) (rfl) ?_
 refine sx_pubrow (l := ([0, 0, 0, 1, 1, 0] : List Int)) rfl rfl (.cons rfl (.cons rfl (.cons rfl (.cons rfl (.cons rfl (.one rfl)))))) (fun I71 j71 R71 => ?_)
 try have hvc := hvc.le j71
 try have hv := hv.le j71
 try have hA := hA.le j71
 try have hw19 := hw19.le j71
 try have hw25 := hw25.le j71
 try have hw36 := hw36.le j71
 try have R58 := R58.le j71
 try have R59 := R59.le j71
 try have R60 := R60.le j71
 try have R71 := R71.le j71
 have R71s := R71
 obtain ⟨A71, c71, rfl, _⟩ := R71s
 refine go 1 ?_
 refine o_yes rfl rfl rfl (o_buildSlice he he rfl rfl rfl rfl rfl rfl rfl (fun v72 => ?_))
 refine sx_pubrow (l := ([[0, 0, 0, 1, 1, 0]] : List (List Int))) rfl rfl (.one ⟨_, rfl, R71⟩) (fun I72 j72 R72 => ?_)
 try have hvc := hvc.le j72
 try have hv := hv.le j72
 try have hA := hA.le j72
 try have hw19 := hw19.le j72
 try have hw25 := hw25.le j72
 try have hw36 := hw36.le j72
 try have R58 := R58.le j72
 try have R59 := R59.le j72
 try have R60 := R60.le j72
 try have R71 := R71.le j72
 refine go 1 ?_
 refine o_yes rfl rfl rfl (o_callV (eqLists16 _ _ _ hw36 _ R72) rfl rfl ?_)
 refine go 3 ?_
 refine o_cons (o_yes rfl rfl rfl (o_val rfl (OV.cast (u := .bool true) (v_eql rfl rfl) (congrArg Value.bool (decide_eq_true (rfl)))) ?_))
 refine go 3 ?_
 refine o_cons (o_yes rfl rfl rfl (o_val rfl (OV.cast (u := .bool true) (v_eql rfl rfl) (congrArg Value.bool (decide_eq_true (rfl)))) ?_))
 refine go 5 ?_
 refine fin1 rfl rfl ?_
 exact q_vI rfl

end Go.Proofs.YtoadjlmbdliceaaGreat

