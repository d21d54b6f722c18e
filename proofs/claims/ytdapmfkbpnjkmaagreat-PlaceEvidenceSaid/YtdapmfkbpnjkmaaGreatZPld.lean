/- The library of a symbolic run and the walks: merged. -/
import Derived.Test.YtdapmfkbpnjkmaaGreatZPlc
import Derived.Laws.Shifts
import Derived.Scope
/- Walks, printed by a program out of the code of the functions: each theorem is a contract of one function. -/
namespace Go.Proofs.YtdapmfkbpnjkmaaGreat
open Go Go.Sx
set_option linter.all false
set_option maxRecDepth 20000
set_option maxHeartbeats 4000000
instance T.by_359 : Has (bytesK Tryz.prog 359) ([.int .i64 0, .int .i64 0, .string ⟨#[]⟩, .string ⟨#[]⟩, .string ⟨#[]⟩, .string ⟨#[]⟩, .string ⟨#[]⟩, .string ⟨#[]⟩, .int .i64 0, .int .i64 0, .int .i64 0, .int .i64 0, .int .i64 0, .int .i64 0, .int .i64 0], 15, 168) := ⟨by kernel_rfl⟩
instance T.elt_357 : Has (eltK Tryz.prog 357) (359, 15) := ⟨by kernel_rfl⟩
instance T.fld_359_0 : Has (fldK Tryz.prog 359 0) (0, true, 14) := ⟨by kernel_rfl⟩
instance T.fld_359_1 : Has (fldK Tryz.prog 359 1) (14, false, 1) := ⟨by kernel_rfl⟩
instance T.pl_359 : Has (plK Tryz.prog 359) [(0, 14), (14, 1)] := ⟨by kernel_rfl⟩
instance T.ty_359 : Has (tyK Tryz.prog 359) (true, 15) := ⟨by kernel_rfl⟩
instance T.und_357 : Has (Tryz.prog.underlying 357) (.slice 359) := ⟨by kernel_rfl⟩
instance T.zero_359 : Has (zeroK Tryz.prog 359) [.int .i64 0, .int .i64 0, .string ⟨#[]⟩, .string ⟨#[]⟩, .string ⟨#[]⟩, .string ⟨#[]⟩, .string ⟨#[]⟩, .string ⟨#[]⟩, .int .i64 0, .int .i64 0, .int .i64 0, .int .i64 0, .int .i64 0, .int .i64 0, .int .i64 0] := ⟨by kernel_rfl⟩
theorem swapRangeP (I : IMap) {rest : Rst 15} {cap : Nat} (l : List Pkd) (N : Nat) (hN : l.length = N) (g a b n : Nat) (f : FuncId) (h : a + n ≤ b) (hb : b + n ≤ l.length) (hl : l.length ≤ 1000000) :
    FnM Tryz.prog 358 #[.slice (some ⟨g, 0, none⟩) N cap, .int .i64 ((a : Nat) : Int), .int .i64 ((b : Nat) : Int), .int .i64 ((n : Nat) : Int), .func (.func f) #[] #[]] I (.blk g 359 (evCh (l) ++ rest.l).flatten) (.blk g 359 (evCh (swpN l a b n) ++ rest.l).flatten) := by
 refine enter Tryz.func358 Tryz.call358 rfl Tryz.ntmps358 rfl (fun w0 => ?_)
 refine go 6 ?_
 refine c_loop (α := Nat) 0 (fun i => I)
  (fun i => [(0, .slice (some ⟨g, 0, none⟩) N cap), (1, .int .i64 ((a : Nat) : Int)), (2, .int .i64 ((b : Nat) : Int)), (3, .int .i64 ((n : Nat) : Int)), (10, .int .i64 ((i : Nat) : Int))])
  (fun i => [.blk g 359 (evCh (swpN l a b i) ++ rest.l).flatten])
  (fun i => i ≤ n)
  (fun i => n - i) (Nat.zero_le _) rfl sb rfl ?_
 intro i hi
 refine go 8 ?_
 refine cb rfl (fun h13 p13 => ?_) (fun h13 p13 => ?_)
 ·have hlt : i < n := by omega
  have hm := swpN_len l a b i
  have h1 : a + i < (swpN l a b i).length := by omega
  have h2 : b + i < (swpN l a b i).length := by omega
  refine go 4 ?_
  refine d_start1 T.mixed ?_
  refine d_tv 0 rfl rfl (by kernel_rfl) rfl (.cons _ .slnil) rfl (v_move rfl) ?_
  refine d_tv 1 rfl rfl (by kernel_rfl) rfl (.cons _ .slnil) rfl (v_move rfl) ?_
  refine d_tv 2 rfl rfl (by kernel_rfl) rfl (.cons _ .slnil) rfl (v_move rfl) ?_
  refine d_tv 3 rfl rfl (by kernel_rfl) rfl (.cons _ .slnil) rfl (v_add rfl rfl ⟨by omega, by omega⟩) ?_
  refine d_tv 4 rfl rfl (by kernel_rfl) rfl (.cons _ .slnil) rfl (v_move rfl) ?_
  refine d_tv 5 rfl rfl (by kernel_rfl) rfl (.cons _ .slnil) rfl (v_move rfl) ?_
  refine d_tv 6 rfl rfl (by kernel_rfl) rfl (.cons _ .slnil) rfl (v_move rfl) ?_
  refine d_tv 7 rfl rfl (by kernel_rfl) rfl (.cons _ .slnil) rfl (v_add rfl rfl ⟨by omega, by omega⟩) ?_
  refine d_tv 8 rfl rfl (by kernel_rfl) rfl (.cons _ .slnil) rfl (v_move rfl) ?_
  refine d_tv 9 rfl rfl (by kernel_rfl) rfl (.cons _ .slnil) rfl (v_move rfl) ?_
  refine d_tv 10 rfl rfl (by kernel_rfl) rfl (.cons _ .slnil) rfl (v_move rfl) ?_
  refine d_tv 11 rfl rfl (by kernel_rfl) rfl (.cons _ .slnil) rfl (v_add rfl rfl ⟨by omega, by omega⟩) ?_
  refine d_tv 12 rfl rfl (by kernel_rfl) rfl (.cons _ .slnil) rfl (v_idx he rfl rfl rfl (b + i) (by omega) (by omega)) ?_
  refine d_tv 14 rfl rfl (by kernel_rfl) rfl (.cons _ .slnil) rfl (v_move rfl) ?_
  refine d_tv 15 rfl rfl (by kernel_rfl) rfl (.cons _ .slnil) rfl (v_move rfl) ?_
  refine d_tv 16 rfl rfl (by kernel_rfl) rfl (.cons _ .slnil) rfl (v_move rfl) ?_
  refine d_tv 17 rfl rfl (by kernel_rfl) rfl (.cons _ .slnil) rfl (v_add rfl rfl ⟨by omega, by omega⟩) ?_
  refine d_tv 18 rfl rfl (by kernel_rfl) rfl (.cons _ .slnil) rfl (v_idx he rfl rfl rfl (a + i) (by omega) (by omega)) ?_
  refine d_two 13 19 (by kernel_rfl) rfl rfl ?_ ?_
  ·refine o_val rfl (v_ldc m0 ((evCh_ukP _).append rest.uk) he rfl (b + i) (by omega) (evCh_restP h2)) ?_
   refine d_on (fun _ m => m.keeps (.cons _ .slnil)) ?_
   refine d_one 19 (by kernel_rfl) rfl ?_
   refine o_val rfl (v_ldc m0 ((evCh_ukP _).append rest.uk) he rfl (a + i) (by omega) (evCh_restP h1)) ?_
   refine d_on (fun _ m => m.keeps (.cons _ .slnil)) ?_
   refine d_tv 20 rfl rfl (by kernel_rfl) rfl (.cons _ .slnil) rfl (v_idx he rfl rfl rfl (a + i) (by omega) (by omega)) ?_
   refine d_one 21 (by kernel_rfl) rfl ?_
   refine o_stc _ (a + i) (by first | exact (evCh_ukP _).append rest.uk | exact ((evCh_ukP _).append rest.uk).set rfl _) he rfl rfl rfl rfl rfl (by omega) (by simp [evCh_len]; omega) ?_
   refine d_on (fun _ m => m.keeps (.cons _ .slnil)) ?_
   refine d_tv 22 rfl rfl (by kernel_rfl) rfl (.cons _ .slnil) rfl (v_idx he rfl rfl rfl (b + i) (by omega) (by omega)) ?_
   refine d_one 23 (by kernel_rfl) rfl ?_
   refine o_stc _ (b + i) (by first | exact (evCh_ukP _).append rest.uk | exact ((evCh_ukP _).append rest.uk).set rfl _) he rfl rfl rfl rfl rfl (by omega) (by simp [evCh_len]; omega) ?_
   refine d_on (fun _ m => m.keeps (.cons _ .slnil)) ?_
   refine d_done (by kernel_rfl) ?_
   refine go 8 ?_
   exact q_next (i + 1) (by omega) (by omega) rfl sb (by rw [swpN]; first | rw [← evCh_swpR h1 h2] | rw [← evCh_swpR' h1 h2 (by omega)])
  ·refine o_val rfl (v_ldc m0 ((evCh_ukP _).append rest.uk) he rfl (a + i) (by omega) (evCh_restP h1)) ?_
   refine d_on (fun _ m => m.keeps (.cons _ .slnil)) ?_
   refine d_one 13 (by kernel_rfl) rfl ?_
   refine o_val rfl (v_ldc m0 ((evCh_ukP _).append rest.uk) he rfl (b + i) (by omega) (evCh_restP h2)) ?_
   refine d_on (fun _ m => m.keeps (.cons _ .slnil)) ?_
   refine d_tv 20 rfl rfl (by kernel_rfl) rfl (.cons _ .slnil) rfl (v_idx he rfl rfl rfl (a + i) (by omega) (by omega)) ?_
   refine d_one 21 (by kernel_rfl) rfl ?_
   refine o_stc _ (a + i) (by first | exact (evCh_ukP _).append rest.uk | exact ((evCh_ukP _).append rest.uk).set rfl _) he rfl rfl rfl rfl rfl (by omega) (by simp [evCh_len]; omega) ?_
   refine d_on (fun _ m => m.keeps (.cons _ .slnil)) ?_
   refine d_tv 22 rfl rfl (by kernel_rfl) rfl (.cons _ .slnil) rfl (v_idx he rfl rfl rfl (b + i) (by omega) (by omega)) ?_
   refine d_one 23 (by kernel_rfl) rfl ?_
   refine o_stc _ (b + i) (by first | exact (evCh_ukP _).append rest.uk | exact ((evCh_ukP _).append rest.uk).set rfl _) he rfl rfl rfl rfl rfl (by omega) (by simp [evCh_len]; omega) ?_
   refine d_on (fun _ m => m.keeps (.cons _ .slnil)) ?_
   refine d_done (by kernel_rfl) ?_
   refine go 8 ?_
   exact q_next (i + 1) (by omega) (by omega) rfl sb (by rw [swpN]; first | rw [← evCh_swpR h1 h2] | rw [← evCh_swpR' h1 h2 (by omega)])
 ·refine go 4 ?_
  refine end0 rfl ?_
  obtain rfl : i = n := by omega
  exact q_m

theorem insSortP (I : IMap) {rest : Rst 15} {cap : Nat} (l : List Pkd) (N : Nat) (hN : l.length = N) (g a b : Nat) (f : FuncId) (hp : ∀ x y : Pkd, FnV Tryz.prog f #[.agg (Day.ch x).toArray, .agg (Day.ch y).toArray] I (.int .i64 ((Day.day x - Day.day y)))) (hab : a ≤ b) (hb : b ≤ l.length) (hl : l.length ≤ 1000000) :
    FnX Tryz.prog 347 #[.slice (some ⟨g, 0, none⟩) N cap, .int .i64 ((a : Nat) : Int), .int .i64 ((b : Nat) : Int), .func (.func f) #[] #[]] I [.blk g 359 (evCh (l) ++ rest.l).flatten] (fun u r => u = .tuple #[] ∧ ∃ m, r = .blk g 359 (evCh (m) ++ rest.l).flatten ∧ Seg l m a b) := by
 refine enter Tryz.func347 Tryz.call347 rfl Tryz.ntmps347 rfl (fun w0 => ?_)
 refine go 3 ?_
 refine o_v rfl (OV.cast (u := .int .i64 ((a + 1 : Nat) : Int)) (v_add rfl rfl ⟨by omega, by omega⟩) (congrArg (Value.int .i64) (by omega))) ?_
 refine go 4 ?_
 refine c_loop2 (a + 1) (l) (fun i m => I)
  (fun i m => [(0, .slice (some ⟨g, 0, none⟩) N cap), (1, .int .i64 ((a : Nat) : Int)), (2, .int .i64 ((b : Nat) : Int)), (3, .func (.func f) #[] #[]), (8, .int .i64 ((i : Nat) : Int))])
  (fun i m => [.blk g 359 (evCh (m) ++ rest.l).flatten])
  (fun i m => a + 1 ≤ i ∧ (i ≤ b ∨ (m = l ∧ i = a + 1)) ∧ Seg l m a i)
  (fun i m => b - i) ⟨Nat.le_refl _, .inr ⟨rfl, rfl⟩, Seg.one l a⟩ rfl sb rfl ?_
 intro i m ⟨h1, h2, hs⟩
 refine go 8 ?_
 refine cb rfl (fun h14 p14 => ?_) (fun h14 p14 => ?_)
 ·have hlt : i < b := by omega
  refine go 11 ?_
  refine c_loop2 (i) (m) (fun j k => I)
   (fun j k => [(0, .slice (some ⟨g, 0, none⟩) N cap), (1, .int .i64 ((a : Nat) : Int)), (2, .int .i64 ((b : Nat) : Int)), (3, .func (.func f) #[] #[]), (8, .int .i64 ((i : Nat) : Int)), (9, .int .i64 ((j : Nat) : Int))])
   (fun j k => [.blk g 359 (evCh (k) ++ rest.l).flatten])
   (fun j k => a ≤ j ∧ j ≤ i ∧ Ins l k a i j)
   (fun j k => j) ⟨by omega, Nat.le_refl _, Ins.start hs⟩ rfl sb rfl ?_
  intro j k ⟨hj1, hj2, hk⟩
  have hkl := hk.len
  refine go 2 ?_
  refine d_startH T.mixed ?_
  refine d_tv 0 rfl rfl (by kernel_rfl) rfl (.refl _) rfl (v_move rfl) ?_
  refine d_tv 1 rfl rfl (by kernel_rfl) rfl (.refl _) rfl (v_move rfl) ?_
  refine d_tv 2 rfl rfl (by kernel_rfl) rfl (.refl _) rfl (v_gtr rfl rfl) ?_
  refine d_tv 3 rfl rfl (by kernel_rfl) rfl (.refl _) rfl (v_move rfl) ?_
  refine sxb 21 rfl (fun h21 p21 => ?_) (fun h21 p21 => ?_)
  ·have hjk : j < k.length := by omega
   have hjk1 : j - 1 < k.length := by omega
   refine d_t 4 rfl rfl (by kernel_rfl) rfl (fun _ m => m.keeps (.refl _)) (y_yes rfl rfl h21 (v_move rfl)) ?_
   refine d_t 5 rfl rfl (by kernel_rfl) rfl (fun _ m => m.keeps (.refl _)) (y_yes rfl rfl h21 (v_move rfl)) ?_
   refine d_t 6 rfl rfl (by kernel_rfl) rfl (fun _ m => m.keeps (.refl _)) (y_yes rfl rfl h21 (v_move rfl)) ?_
   refine d_t 7 rfl rfl (by kernel_rfl) rfl (fun _ m => m.keeps (.refl _)) (y_yes rfl rfl h21 (v_idx he rfl rfl rfl (j) (by omega) (by omega))) ?_
   refine d_t 8 rfl rfl (by kernel_rfl) rfl (fun _ m => m.keeps (.refl _)) (y_yes rfl rfl h21 (v_ldc m0 ((evCh_ukP _).append rest.uk) he rfl (j) (by omega) (evCh_restP hjk))) ?_
   refine d_t 9 rfl rfl (by kernel_rfl) rfl (fun _ m => m.keeps (.refl _)) (y_yes rfl rfl h21 (v_move rfl)) ?_
   refine d_t 10 rfl rfl (by kernel_rfl) rfl (fun _ m => m.keeps (.refl _)) (y_yes rfl rfl h21 (v_move rfl)) ?_
   refine d_t 11 rfl rfl (by kernel_rfl) rfl (fun _ m => m.keeps (.refl _)) (y_yes rfl rfl h21 (v_sub rfl rfl ⟨by omega, by omega⟩)) ?_
   refine d_t 12 rfl rfl (by kernel_rfl) rfl (fun _ m => m.keeps (.refl _)) (y_yes rfl rfl h21 (v_idx he rfl rfl rfl (j - 1) (by omega) (by omega))) ?_
   refine d_t 13 rfl rfl (by kernel_rfl) rfl (fun _ m => m.keeps (.refl _)) (y_yes rfl rfl h21 (v_ldc m0 ((evCh_ukP _).append rest.uk) he rfl (j - 1) (by omega) (evCh_restP hjk1))) ?_
   refine d_one 14 (by kernel_rfl) rfl ?_
   refine o_yes rfl rfl h21 (o_callV (hp _ _) rfl rfl ?_)
   refine d_on (fun _ m => m.keeps (.refl _)) ?_
   refine d_t 15 rfl rfl (by kernel_rfl) rfl (fun _ m => m.keeps (.refl _)) (y_yes rfl rfl h21 (v_lss rfl rfl)) ?_
   refine d_tv 16 rfl rfl (by kernel_rfl) rfl (.refl _) rfl (v_and_t h21 rfl rfl) ?_
   refine d_done (by kernel_rfl) ?_
   refine go 1 ?_
   refine cb rfl (fun h34 p34 => ?_) (fun h34 p34 => ?_)
   ·refine go 4 ?_
    refine d_start1 T.mixed ?_
    refine d_tv 0 rfl rfl (by kernel_rfl) rfl (.cons _ .slnil) rfl (v_move rfl) ?_
    refine d_tv 1 rfl rfl (by kernel_rfl) rfl (.cons _ .slnil) rfl (v_move rfl) ?_
    refine d_tv 2 rfl rfl (by kernel_rfl) rfl (.cons _ .slnil) rfl (v_move rfl) ?_
    refine d_tv 3 rfl rfl (by kernel_rfl) rfl (.cons _ .slnil) rfl (v_move rfl) ?_
    refine d_tv 4 rfl rfl (by kernel_rfl) rfl (.cons _ .slnil) rfl (v_sub rfl rfl ⟨by omega, by omega⟩) ?_
    refine d_tv 5 rfl rfl (by kernel_rfl) rfl (.cons _ .slnil) rfl (v_move rfl) ?_
    refine d_tv 6 rfl rfl (by kernel_rfl) rfl (.cons _ .slnil) rfl (v_move rfl) ?_
    refine d_tv 7 rfl rfl (by kernel_rfl) rfl (.cons _ .slnil) rfl (v_sub rfl rfl ⟨by omega, by omega⟩) ?_
    refine d_tv 8 rfl rfl (by kernel_rfl) rfl (.cons _ .slnil) rfl (v_idx he rfl rfl rfl (j - 1) (by omega) (by omega)) ?_
    refine d_tv 10 rfl rfl (by kernel_rfl) rfl (.cons _ .slnil) rfl (v_move rfl) ?_
    refine d_tv 11 rfl rfl (by kernel_rfl) rfl (.cons _ .slnil) rfl (v_move rfl) ?_
    refine d_tv 12 rfl rfl (by kernel_rfl) rfl (.cons _ .slnil) rfl (v_idx he rfl rfl rfl (j) (by omega) (by omega)) ?_
    refine d_two 9 13 (by kernel_rfl) rfl rfl ?_ ?_
    ·refine o_val rfl (v_ldc m0 ((evCh_ukP _).append rest.uk) he rfl (j - 1) (by omega) (evCh_restP hjk1)) ?_
     refine d_on (fun _ m => m.keeps (.cons _ .slnil)) ?_
     refine d_one 13 (by kernel_rfl) rfl ?_
     refine o_val rfl (v_ldc m0 ((evCh_ukP _).append rest.uk) he rfl (j) (by omega) (evCh_restP hjk)) ?_
     refine d_on (fun _ m => m.keeps (.cons _ .slnil)) ?_
     refine d_tv 14 rfl rfl (by kernel_rfl) rfl (.cons _ .slnil) rfl (v_idx he rfl rfl rfl (j) (by omega) (by omega)) ?_
     refine d_one 15 (by kernel_rfl) rfl ?_
     refine o_stc _ (j) (by first | exact (evCh_ukP _).append rest.uk | exact ((evCh_ukP _).append rest.uk).set rfl _) he rfl rfl rfl rfl rfl (by omega) (by simp [evCh_len]; omega) ?_
     refine d_on (fun _ m => m.keeps (.cons _ .slnil)) ?_
     refine d_tv 16 rfl rfl (by kernel_rfl) rfl (.cons _ .slnil) rfl (v_idx he rfl rfl rfl (j - 1) (by omega) (by omega)) ?_
     refine d_one 17 (by kernel_rfl) rfl ?_
     refine o_stc _ (j - 1) (by first | exact (evCh_ukP _).append rest.uk | exact ((evCh_ukP _).append rest.uk).set rfl _) he rfl rfl rfl rfl rfl (by omega) (by simp [evCh_len]; omega) ?_
     refine d_on (fun _ m => m.keeps (.cons _ .slnil)) ?_
     refine d_done (by kernel_rfl) ?_
     refine go 4 ?_
     refine o_v rfl (OV.cast (u := .int .i64 ((j - 1 : Nat) : Int)) (v_sub rfl rfl ⟨by omega, by omega⟩) (congrArg (Value.int .i64) (by omega))) ?_
     refine go 3 ?_
     exact q_next2 (j - 1) (swp k j (j - 1)) ⟨by omega, by omega, hk.step (by omega) (by omega) (by omega) (by have := p34; simp only [subI_neg] at this; rw [dayAt_eq (by omega), dayAt_eq (by omega)]; exact this)⟩ (by omega) rfl sb (by first | rw [← evCh_swpR (show j < k.length by omega) (show j - 1 < k.length by omega)] | rw [← evCh_swpR' (show j < k.length by omega) (show j - 1 < k.length by omega) (by omega)])
    ·refine o_val rfl (v_ldc m0 ((evCh_ukP _).append rest.uk) he rfl (j) (by omega) (evCh_restP hjk)) ?_
     refine d_on (fun _ m => m.keeps (.cons _ .slnil)) ?_
     refine d_one 9 (by kernel_rfl) rfl ?_
     refine o_val rfl (v_ldc m0 ((evCh_ukP _).append rest.uk) he rfl (j - 1) (by omega) (evCh_restP hjk1)) ?_
     refine d_on (fun _ m => m.keeps (.cons _ .slnil)) ?_
     refine d_tv 14 rfl rfl (by kernel_rfl) rfl (.cons _ .slnil) rfl (v_idx he rfl rfl rfl (j) (by omega) (by omega)) ?_
     refine d_one 15 (by kernel_rfl) rfl ?_
     refine o_stc _ (j) (by first | exact (evCh_ukP _).append rest.uk | exact ((evCh_ukP _).append rest.uk).set rfl _) he rfl rfl rfl rfl rfl (by omega) (by simp [evCh_len]; omega) ?_
     refine d_on (fun _ m => m.keeps (.cons _ .slnil)) ?_
     refine d_tv 16 rfl rfl (by kernel_rfl) rfl (.cons _ .slnil) rfl (v_idx he rfl rfl rfl (j - 1) (by omega) (by omega)) ?_
     refine d_one 17 (by kernel_rfl) rfl ?_
     refine o_stc _ (j - 1) (by first | exact (evCh_ukP _).append rest.uk | exact ((evCh_ukP _).append rest.uk).set rfl _) he rfl rfl rfl rfl rfl (by omega) (by simp [evCh_len]; omega) ?_
     refine d_on (fun _ m => m.keeps (.cons _ .slnil)) ?_
     refine d_done (by kernel_rfl) ?_
     refine go 4 ?_
     refine o_v rfl (OV.cast (u := .int .i64 ((j - 1 : Nat) : Int)) (v_sub rfl rfl ⟨by omega, by omega⟩) (congrArg (Value.int .i64) (by omega))) ?_
     refine go 3 ?_
     exact q_next2 (j - 1) (swp k j (j - 1)) ⟨by omega, by omega, hk.step (by omega) (by omega) (by omega) (by have := p34; simp only [subI_neg] at this; rw [dayAt_eq (by omega), dayAt_eq (by omega)]; exact this)⟩ (by omega) rfl sb (by first | rw [← evCh_swpR (show j < k.length by omega) (show j - 1 < k.length by omega)] | rw [← evCh_swpR' (show j < k.length by omega) (show j - 1 < k.length by omega) (by omega)])
   ·refine go 12 ?_
    exact q_next2 (i + 1) (k) ⟨by omega, .inl (by omega), hk.done (by omega) (by omega) (.inr (by have := p34; simp only [subI_neg] at this; rw [dayAt_eq (by omega), dayAt_eq (by omega)]; omega))⟩ (by omega) rfl sb rfl
  ·refine d_t 4 rfl rfl (by kernel_rfl) rfl (fun _ m => m.keeps (.refl _)) (y_no rfl rfl h21) ?_
   refine d_t 5 rfl rfl (by kernel_rfl) rfl (fun _ m => m.keeps (.refl _)) (y_no rfl rfl h21) ?_
   refine d_t 6 rfl rfl (by kernel_rfl) rfl (fun _ m => m.keeps (.refl _)) (y_no rfl rfl h21) ?_
   refine d_t 7 rfl rfl (by kernel_rfl) rfl (fun _ m => m.keeps (.refl _)) (y_no rfl rfl h21) ?_
   refine d_t 8 rfl rfl (by kernel_rfl) rfl (fun _ m => m.keeps (.refl _)) (y_no rfl rfl h21) ?_
   refine d_t 9 rfl rfl (by kernel_rfl) rfl (fun _ m => m.keeps (.refl _)) (y_no rfl rfl h21) ?_
   refine d_t 10 rfl rfl (by kernel_rfl) rfl (fun _ m => m.keeps (.refl _)) (y_no rfl rfl h21) ?_
   refine d_t 11 rfl rfl (by kernel_rfl) rfl (fun _ m => m.keeps (.refl _)) (y_no rfl rfl h21) ?_
   refine d_t 12 rfl rfl (by kernel_rfl) rfl (fun _ m => m.keeps (.refl _)) (y_no rfl rfl h21) ?_
   refine d_t 13 rfl rfl (by kernel_rfl) rfl (fun _ m => m.keeps (.refl _)) (y_no rfl rfl h21) ?_
   refine d_t 14 rfl rfl (by kernel_rfl) rfl (fun _ m => m.keeps (.refl _)) (y_no rfl rfl h21) ?_
   refine d_t 15 rfl rfl (by kernel_rfl) rfl (fun _ m => m.keeps (.refl _)) (y_no rfl rfl h21) ?_
   refine d_tv 16 rfl rfl (by kernel_rfl) rfl (.refl _) rfl (v_and_f h21 rfl) ?_
   refine d_done (by kernel_rfl) ?_
   refine go 1 ?_
   refine c_false rfl ?_
   refine go 12 ?_
   exact q_next2 (i + 1) (k) ⟨by omega, .inl (by omega), hk.done (by omega) (by omega) (.inl (by omega))⟩ (by omega) rfl sb rfl
 ·refine go 4 ?_
  refine end0 rfl ?_
  exact q_x (by refine ⟨rfl, m, rfl, ?_⟩; rcases h2 with h2 | ⟨rfl, h2⟩; exact (show i = b by omega) ▸ hs; exact Seg.none (by omega))

theorem rotateP (I : IMap) {rest : Rst 15} {cap : Nat} (l : List Pkd) (N : Nat) (hN : l.length = N) (g a m b : Nat) (f : FuncId) (ham : a < m) (hmb : m < b) (hb : b ≤ l.length) (hl : l.length ≤ 1000000) :
    FnX Tryz.prog 355 #[.slice (some ⟨g, 0, none⟩) N cap, .int .i64 ((a : Nat) : Int), .int .i64 ((m : Nat) : Int), .int .i64 ((b : Nat) : Int), .func (.func f) #[] #[]] I [.blk g 359 (evCh (l) ++ rest.l).flatten] (fun u r => u = .tuple #[] ∧ ∃ k, r = .blk g 359 (evCh (k) ++ rest.l).flatten ∧ k.length = l.length ∧ ∀ q, k[q]? = rotG (l[·]?) m (m - a) (b - m) q) := by
 refine enter Tryz.func355 Tryz.call355 rfl Tryz.ntmps355 rfl (fun w0 => ?_)
 refine go 4 ?_
 refine o_v rfl (OV.cast (u := .int .i64 ((m - a : Nat) : Int)) (v_sub rfl rfl ⟨by omega, by omega⟩) (congrArg (Value.int .i64) (by omega))) ?_
 refine go 7 ?_
 refine o_v rfl (OV.cast (u := .int .i64 ((b - m : Nat) : Int)) (v_sub rfl rfl ⟨by omega, by omega⟩) (congrArg (Value.int .i64) (by omega))) ?_
 refine go 5 ?_
 refine c_loop3 (m - a) (b - m) (l) (fun i j k => I)
  (fun i j k => [(0, .slice (some ⟨g, 0, none⟩) N cap), (1, .int .i64 ((a : Nat) : Int)), (2, .int .i64 ((m : Nat) : Int)), (3, .int .i64 ((b : Nat) : Int)), (4, .func (.func f) #[] #[]), (10, .int .i64 ((i : Nat) : Int)), (11, .int .i64 ((j : Nat) : Int))])
  (fun i j k => [.blk g 359 (evCh (k) ++ rest.l).flatten])
  (fun i j k => 1 ≤ i ∧ 1 ≤ j ∧ i ≤ m ∧ m + j ≤ l.length ∧ k.length = l.length ∧ ∀ q, rotG (k[·]?) m i j q = rotG (l[·]?) m (m - a) (b - m) q)
  (fun i j k => i + j) ⟨by omega, by omega, by omega, by omega, rfl, fun q => rfl⟩ rfl sb rfl ?_
 intro i j k ⟨hi1, hj1, him, hmj, hkl, hk⟩
 refine go 8 ?_
 refine cb rfl (fun h20 p20 => ?_) (fun h20 p20 => ?_)
 ·refine go 10 ?_
  refine cb rfl (fun h23 p23 => ?_) (fun h23 p23 => ?_)
  ·refine go 5 ?_
   refine o_v rfl (OV.cast (u := .int .i64 ((m - i : Nat) : Int)) (v_sub rfl rfl ⟨by omega, by omega⟩) (congrArg (Value.int .i64) (by omega))) ?_
   refine go 4 ?_
   refine o_callM (swapRangeP _ k N (by omega) g (m - i) m j f (by omega) (by omega) (by omega)) rfl rfl ?_
   refine go 5 ?_
   refine o_v rfl (OV.cast (u := .int .i64 ((i - j : Nat) : Int)) (v_sub rfl rfl ⟨by omega, by omega⟩) (congrArg (Value.int .i64) (by omega))) ?_
   refine go 4 ?_
   exact q_next3 (i - j) (j) (swpN k (m - i) m j) ⟨by omega, by omega, by omega, by omega, (swpN_len _ _ _ _).trans hkl, fun q => (rot_gt (by omega) (by omega) (swpN_get _ (by omega) (by omega)) q).trans (hk q)⟩ (by omega) rfl sb rfl
  ·refine go 5 ?_
   refine o_v rfl (OV.cast (u := .int .i64 ((m - i : Nat) : Int)) (v_sub rfl rfl ⟨by omega, by omega⟩) (congrArg (Value.int .i64) (by omega))) ?_
   refine go 4 ?_
   refine o_v rfl (OV.cast (u := .int .i64 ((m + j - i : Nat) : Int)) (v_sub rfl rfl ⟨by omega, by omega⟩) (congrArg (Value.int .i64) (by omega))) ?_
   refine go 3 ?_
   refine o_callM (swapRangeP _ k N (by omega) g (m - i) (m + j - i) i f (by omega) (by omega) (by omega)) rfl rfl ?_
   refine go 5 ?_
   refine o_v rfl (OV.cast (u := .int .i64 ((j - i : Nat) : Int)) (v_sub rfl rfl ⟨by omega, by omega⟩) (congrArg (Value.int .i64) (by omega))) ?_
   refine go 4 ?_
   exact q_next3 (i) (j - i) (swpN k (m - i) (m + j - i) i) ⟨by omega, by omega, by omega, by omega, (swpN_len _ _ _ _).trans hkl, fun q => (rot_lt (by omega) (by omega) (swpN_get _ (by omega) (by omega)) q).trans (hk q)⟩ (by omega) rfl sb rfl
 ·obtain rfl : i = j := by have := p20; omega
  refine go 9 ?_
  refine o_v rfl (OV.cast (u := .int .i64 ((m - i : Nat) : Int)) (v_sub rfl rfl ⟨by omega, by omega⟩) (congrArg (Value.int .i64) (by omega))) ?_
  refine go 4 ?_
  refine o_callM (swapRangeP _ k N (by omega) g (m - i) m i f (by omega) (by omega) (by omega)) rfl rfl ?_
  refine go 1 ?_
  refine end0 rfl ?_
  exact q_x ⟨rfl, swpN k (m - i) m i, rfl, (swpN_len _ _ _ _).trans hkl, fun q => (rot_eq him (swpN_get _ (by omega) (by omega)) q).trans (hk q)⟩

theorem symMergeWP (I : IMap) {rest : Rst 15} {cap : Nat} (N g : Nat) (f : FuncId) (hp : ∀ x y : Pkd, FnV Tryz.prog f #[.agg (Day.ch x).toArray, .agg (Day.ch y).toArray] I (.int .i64 ((Day.day x - Day.day y)))) (hN0 : N ≤ 1000000) (W : Nat) (ih : ∀ (l : List Pkd) (a m b : Nat), l.length = N → b - a < W → a < m → m < b → b ≤ l.length → SrtD l a m → SrtD l m b → FnX Tryz.prog 348 #[.slice (some ⟨g, 0, none⟩) N cap, .int .i64 ((a : Nat) : Int), .int .i64 ((m : Nat) : Int), .int .i64 ((b : Nat) : Int), .func (.func f) #[] #[]] I [.blk g 359 (evCh (l) ++ rest.l).flatten] (fun u r => u = .tuple #[] ∧ ∃ m, r = .blk g 359 (evCh (m) ++ rest.l).flatten ∧ Seg l m a b)) (l : List Pkd) (a m b : Nat) (hN : l.length = N) (hW : b - a ≤ W) (ham : a < m) (hmb : m < b) (hb : b ≤ l.length) (m1 : SrtD l a m) (m2 : SrtD l m b) :
    FnX Tryz.prog 348 #[.slice (some ⟨g, 0, none⟩) N cap, .int .i64 ((a : Nat) : Int), .int .i64 ((m : Nat) : Int), .int .i64 ((b : Nat) : Int), .func (.func f) #[] #[]] I [.blk g 359 (evCh (l) ++ rest.l).flatten] (fun u r => u = .tuple #[] ∧ ∃ m, r = .blk g 359 (evCh (m) ++ rest.l).flatten ∧ Seg l m a b) := by
 refine enter Tryz.func348 Tryz.call348 rfl Tryz.ntmps348 rfl (fun w0 => ?_)
 refine go 5 ?_
 refine o_v rfl (OV.cast (u := .int .i64 ((m - a : Nat) : Int)) (v_sub rfl rfl ⟨by omega, by omega⟩) (congrArg (Value.int .i64) (by omega))) ?_
 refine go 3 ?_
 refine cb rfl (fun h28 p28 => ?_) (fun h28 p28 => ?_)
 ·obtain rfl : m = a + 1 := by omega
  refine go 14 ?_
  refine c_loop2 (a + 1) (b) (fun i j => I)
   (fun i j => [(0, .slice (some ⟨g, 0, none⟩) N cap), (1, .int .i64 ((a : Nat) : Int)), (2, .int .i64 ((a + 1 : Nat) : Int)), (3, .int .i64 ((b : Nat) : Int)), (4, .func (.func f) #[] #[]), (10, .int .i64 ((i : Nat) : Int)), (11, .int .i64 ((j : Nat) : Int))])
   (fun i j => [.blk g 359 (evCh (l) ++ rest.l).flatten])
   (fun i j => a + 1 ≤ i ∧ i ≤ j ∧ j ≤ b ∧ (∀ q, a + 1 ≤ q → q < i → dayAt l q < dayAt l a) ∧ (∀ q, j ≤ q → q < b → dayAt l a ≤ dayAt l q))
   (fun i j => j - i) ⟨by omega, by omega, by omega, fun q _ _ => by omega, fun q _ _ => by omega⟩ rfl sb rfl ?_
  intro i j ⟨hi1, hij, hjb, hlo, hhi⟩
  refine go 8 ?_
  refine cb rfl (fun h33 p33 => ?_) (fun h33 p33 => ?_)
  ·have hh : (i + j) / 2 < l.length := by omega
   have ha0 : a < l.length := by omega
   refine go 8 ?_
   refine o_v rfl (v_conv he he rfl (m := (i : Int) + (j : Int)) (wrap_u64 _ (by omega) (by omega))) ?_
   refine o_v rfl (v_shr1 rfl (by decide)) ?_
   refine o_v rfl (v_conv he he rfl (m := (((i + j) / 2 : Nat) : Int)) (by rw [IntKind.wrap_i64]; omega)) ?_
   refine go 4 ?_
   refine d_startH T.mixed ?_
   refine d_tv 0 rfl rfl (by kernel_rfl) rfl (.refl _) rfl (v_move rfl) ?_
   refine d_tv 1 rfl rfl (by kernel_rfl) rfl (.refl _) rfl (v_move rfl) ?_
   refine d_tv 2 rfl rfl (by kernel_rfl) rfl (.refl _) rfl (v_move rfl) ?_
   refine d_tv 3 rfl rfl (by kernel_rfl) rfl (.refl _) rfl (v_idx he rfl rfl rfl ((i + j) / 2) (by omega) (by omega)) ?_
   refine d_tv 4 rfl rfl (by kernel_rfl) rfl (.refl _) rfl (v_ldc m0 ((evCh_ukP _).append rest.uk) he rfl ((i + j) / 2) (by omega) (evCh_restP hh)) ?_
   refine d_tv 5 rfl rfl (by kernel_rfl) rfl (.refl _) rfl (v_move rfl) ?_
   refine d_tv 6 rfl rfl (by kernel_rfl) rfl (.refl _) rfl (v_move rfl) ?_
   refine d_tv 7 rfl rfl (by kernel_rfl) rfl (.refl _) rfl (v_idx he rfl rfl rfl (a) (by omega) (by omega)) ?_
   refine d_tv 8 rfl rfl (by kernel_rfl) rfl (.refl _) rfl (v_ldc m0 ((evCh_ukP _).append rest.uk) he rfl (a) (by omega) (evCh_restP ha0)) ?_
   refine d_one 9 (by kernel_rfl) rfl ?_
   refine o_callV (hp _ _) rfl rfl ?_
   refine d_on (fun _ m => m.keeps (.refl _)) ?_
   refine d_tv 10 rfl rfl (by kernel_rfl) rfl (.refl _) rfl (v_lss rfl rfl) ?_
   refine d_done (by kernel_rfl) ?_
   refine go 1 ?_
   refine cb rfl (fun h50 p50 => ?_) (fun h50 p50 => ?_)
   ·refine go 7 ?_
    exact q_next2 ((i + j) / 2 + 1) (j) ⟨by omega, by omega, by omega, fun q q1 q2 => by have := m2.le (p := q) (q := (i + j) / 2) q1 (by omega) (by omega); have := day_ltP p50; omega, hhi⟩ (by omega) rfl sb rfl
   ·refine go 6 ?_
    exact q_next2 (i) ((i + j) / 2) ⟨by omega, by omega, by omega, hlo, fun q q1 q2 => by have := m2.le (p := (i + j) / 2) (q := q) (by omega) q1 q2; have := day_geP p50; omega⟩ (by omega) rfl sb rfl
  ·obtain rfl : i = j := by omega
   refine go 13 ?_
   refine c_loop (α := Nat) 0 (fun t => I)
    (fun t => [(0, .slice (some ⟨g, 0, none⟩) N cap), (1, .int .i64 ((a : Nat) : Int)), (2, .int .i64 ((a + 1 : Nat) : Int)), (3, .int .i64 ((b : Nat) : Int)), (4, .func (.func f) #[] #[]), (10, .int .i64 ((i : Nat) : Int)), (13, .int .i64 ((a + t : Nat) : Int))])
    (fun t => [.blk g 359 (evCh (bub l a t) ++ rest.l).flatten])
    (fun t => a + t + 1 ≤ i)
    (fun t => i - t) (by omega) rfl sb rfl ?_
   intro t ht
   refine go 5 ?_
   refine o_v rfl (OV.cast (u := .int .i64 ((i - 1 : Nat) : Int)) (v_sub rfl rfl ⟨by omega, by omega⟩) (congrArg (Value.int .i64) (by omega))) ?_
   refine go 3 ?_
   refine cb rfl (fun h58 p58 => ?_) (fun h58 p58 => ?_)
   ·have hbl := bub_len l a t
    have hk1 : a + t < (bub l a t).length := by omega
    have hk2 : a + t + 1 < (bub l a t).length := by omega
    refine go 4 ?_
    refine d_start1 T.mixed ?_
    refine d_tv 0 rfl rfl (by kernel_rfl) rfl (.cons _ .slnil) rfl (v_move rfl) ?_
    refine d_tv 1 rfl rfl (by kernel_rfl) rfl (.cons _ .slnil) rfl (v_move rfl) ?_
    refine d_tv 2 rfl rfl (by kernel_rfl) rfl (.cons _ .slnil) rfl (v_move rfl) ?_
    refine d_tv 3 rfl rfl (by kernel_rfl) rfl (.cons _ .slnil) rfl (v_move rfl) ?_
    refine d_tv 4 rfl rfl (by kernel_rfl) rfl (.cons _ .slnil) rfl (OV.cast (u := .int .i64 ((a + t + 1 : Nat) : Int)) (v_add rfl rfl ⟨by omega, by omega⟩) (congrArg (Value.int .i64) (by omega))) ?_
    refine d_tv 5 rfl rfl (by kernel_rfl) rfl (.cons _ .slnil) rfl (v_move rfl) ?_
    refine d_tv 6 rfl rfl (by kernel_rfl) rfl (.cons _ .slnil) rfl (v_move rfl) ?_
    refine d_tv 7 rfl rfl (by kernel_rfl) rfl (.cons _ .slnil) rfl (OV.cast (u := .int .i64 ((a + t + 1 : Nat) : Int)) (v_add rfl rfl ⟨by omega, by omega⟩) (congrArg (Value.int .i64) (by omega))) ?_
    refine d_tv 8 rfl rfl (by kernel_rfl) rfl (.cons _ .slnil) rfl (v_idx he rfl rfl rfl (a + t + 1) (by omega) (by omega)) ?_
    refine d_tv 10 rfl rfl (by kernel_rfl) rfl (.cons _ .slnil) rfl (v_move rfl) ?_
    refine d_tv 11 rfl rfl (by kernel_rfl) rfl (.cons _ .slnil) rfl (v_move rfl) ?_
    refine d_tv 12 rfl rfl (by kernel_rfl) rfl (.cons _ .slnil) rfl (v_idx he rfl rfl rfl (a + t) (by omega) (by omega)) ?_
    refine d_two 9 13 (by kernel_rfl) rfl rfl ?_ ?_
    ·refine o_val rfl (v_ldc m0 ((evCh_ukP _).append rest.uk) he rfl (a + t + 1) (by omega) (evCh_restP hk2)) ?_
     refine d_on (fun _ m => m.keeps (.cons _ .slnil)) ?_
     refine d_one 13 (by kernel_rfl) rfl ?_
     refine o_val rfl (v_ldc m0 ((evCh_ukP _).append rest.uk) he rfl (a + t) (by omega) (evCh_restP hk1)) ?_
     refine d_on (fun _ m => m.keeps (.cons _ .slnil)) ?_
     refine d_tv 14 rfl rfl (by kernel_rfl) rfl (.cons _ .slnil) rfl (v_idx he rfl rfl rfl (a + t) (by omega) (by omega)) ?_
     refine d_one 15 (by kernel_rfl) rfl ?_
     refine o_stc _ (a + t) (by first | exact (evCh_ukP _).append rest.uk | exact ((evCh_ukP _).append rest.uk).set rfl _) he rfl rfl rfl rfl rfl (by omega) (by simp [evCh_len]; omega) ?_
     refine d_on (fun _ m => m.keeps (.cons _ .slnil)) ?_
     refine d_tv 16 rfl rfl (by kernel_rfl) rfl (.cons _ .slnil) rfl (v_idx he rfl rfl rfl (a + t + 1) (by omega) (by omega)) ?_
     refine d_one 17 (by kernel_rfl) rfl ?_
     refine o_stc _ (a + t + 1) (by first | exact (evCh_ukP _).append rest.uk | exact ((evCh_ukP _).append rest.uk).set rfl _) he rfl rfl rfl rfl rfl (by omega) (by simp [evCh_len]; omega) ?_
     refine d_on (fun _ m => m.keeps (.cons _ .slnil)) ?_
     refine d_done (by kernel_rfl) ?_
     refine go 4 ?_
     refine o_v rfl (OV.cast (u := .int .i64 ((a + (t + 1) : Nat) : Int)) (v_add rfl rfl ⟨by omega, by omega⟩) (congrArg (Value.int .i64) (by omega))) ?_
     refine go 3 ?_
     exact q_next (t + 1) (by omega) (by omega) rfl sb (by rw [bub]; first | rw [← evCh_swpR hk1 hk2] | rw [← evCh_swpR' hk1 hk2 (by omega)])
    ·refine o_val rfl (v_ldc m0 ((evCh_ukP _).append rest.uk) he rfl (a + t) (by omega) (evCh_restP hk1)) ?_
     refine d_on (fun _ m => m.keeps (.cons _ .slnil)) ?_
     refine d_one 9 (by kernel_rfl) rfl ?_
     refine o_val rfl (v_ldc m0 ((evCh_ukP _).append rest.uk) he rfl (a + t + 1) (by omega) (evCh_restP hk2)) ?_
     refine d_on (fun _ m => m.keeps (.cons _ .slnil)) ?_
     refine d_tv 14 rfl rfl (by kernel_rfl) rfl (.cons _ .slnil) rfl (v_idx he rfl rfl rfl (a + t) (by omega) (by omega)) ?_
     refine d_one 15 (by kernel_rfl) rfl ?_
     refine o_stc _ (a + t) (by first | exact (evCh_ukP _).append rest.uk | exact ((evCh_ukP _).append rest.uk).set rfl _) he rfl rfl rfl rfl rfl (by omega) (by simp [evCh_len]; omega) ?_
     refine d_on (fun _ m => m.keeps (.cons _ .slnil)) ?_
     refine d_tv 16 rfl rfl (by kernel_rfl) rfl (.cons _ .slnil) rfl (v_idx he rfl rfl rfl (a + t + 1) (by omega) (by omega)) ?_
     refine d_one 17 (by kernel_rfl) rfl ?_
     refine o_stc _ (a + t + 1) (by first | exact (evCh_ukP _).append rest.uk | exact ((evCh_ukP _).append rest.uk).set rfl _) he rfl rfl rfl rfl rfl (by omega) (by simp [evCh_len]; omega) ?_
     refine d_on (fun _ m => m.keeps (.cons _ .slnil)) ?_
     refine d_done (by kernel_rfl) ?_
     refine go 4 ?_
     refine o_v rfl (OV.cast (u := .int .i64 ((a + (t + 1) : Nat) : Int)) (v_add rfl rfl ⟨by omega, by omega⟩) (congrArg (Value.int .i64) (by omega))) ?_
     refine go 3 ?_
     exact q_next (t + 1) (by omega) (by omega) rfl sb (by rw [bub]; first | rw [← evCh_swpR hk1 hk2] | rw [← evCh_swpR' hk1 hk2 (by omega)])
   ·refine go 7 ?_
    refine fin0 rfl ?_
    exact q_x ⟨rfl, _, rfl, (show i - 1 - a = t by omega) ▸ merge_up m2 hi1 hjb hb hlo hhi⟩
 ·have hma : a + 2 ≤ m := by omega
  refine go 7 ?_
  refine o_v rfl (OV.cast (u := .int .i64 ((b - m : Nat) : Int)) (v_sub rfl rfl ⟨by omega, by omega⟩) (congrArg (Value.int .i64) (by omega))) ?_
  refine go 3 ?_
  refine cb rfl (fun h80 p80 => ?_) (fun h80 p80 => ?_)
  ·obtain rfl : b = m + 1 := by omega
   refine go 14 ?_
   refine c_loop2 (a) (m) (fun i j => I)
    (fun i j => [(0, .slice (some ⟨g, 0, none⟩) N cap), (1, .int .i64 ((a : Nat) : Int)), (2, .int .i64 ((m : Nat) : Int)), (3, .int .i64 ((m + 1 : Nat) : Int)), (4, .func (.func f) #[] #[]), (14, .int .i64 ((i : Nat) : Int)), (15, .int .i64 ((j : Nat) : Int))])
    (fun i j => [.blk g 359 (evCh (l) ++ rest.l).flatten])
    (fun i j => a ≤ i ∧ i ≤ j ∧ j ≤ m ∧ (∀ q, a ≤ q → q < i → dayAt l q ≤ dayAt l m) ∧ (∀ q, j ≤ q → q < m → dayAt l m < dayAt l q))
    (fun i j => j - i) ⟨by omega, by omega, by omega, fun q _ _ => by omega, fun q _ _ => by omega⟩ rfl sb rfl ?_
   intro i j ⟨hi1, hij, hjb, hlo, hhi⟩
   refine go 8 ?_
   refine cb rfl (fun h85 p85 => ?_) (fun h85 p85 => ?_)
   ·have hh : (i + j) / 2 < l.length := by omega
    have hm0 : m < l.length := by omega
    refine go 8 ?_
    refine o_v rfl (v_conv he he rfl (m := (i : Int) + (j : Int)) (wrap_u64 _ (by omega) (by omega))) ?_
    refine o_v rfl (v_shr1 rfl (by decide)) ?_
    refine o_v rfl (v_conv he he rfl (m := (((i + j) / 2 : Nat) : Int)) (by rw [IntKind.wrap_i64]; omega)) ?_
    refine go 4 ?_
    refine d_startH T.mixed ?_
    refine d_tv 0 rfl rfl (by kernel_rfl) rfl (.refl _) rfl (v_move rfl) ?_
    refine d_tv 1 rfl rfl (by kernel_rfl) rfl (.refl _) rfl (v_move rfl) ?_
    refine d_tv 2 rfl rfl (by kernel_rfl) rfl (.refl _) rfl (v_move rfl) ?_
    refine d_tv 3 rfl rfl (by kernel_rfl) rfl (.refl _) rfl (v_idx he rfl rfl rfl (m) (by omega) (by omega)) ?_
    refine d_tv 4 rfl rfl (by kernel_rfl) rfl (.refl _) rfl (v_ldc m0 ((evCh_ukP _).append rest.uk) he rfl (m) (by omega) (evCh_restP hm0)) ?_
    refine d_tv 5 rfl rfl (by kernel_rfl) rfl (.refl _) rfl (v_move rfl) ?_
    refine d_tv 6 rfl rfl (by kernel_rfl) rfl (.refl _) rfl (v_move rfl) ?_
    refine d_tv 7 rfl rfl (by kernel_rfl) rfl (.refl _) rfl (v_idx he rfl rfl rfl ((i + j) / 2) (by omega) (by omega)) ?_
    refine d_tv 8 rfl rfl (by kernel_rfl) rfl (.refl _) rfl (v_ldc m0 ((evCh_ukP _).append rest.uk) he rfl ((i + j) / 2) (by omega) (evCh_restP hh)) ?_
    refine d_one 9 (by kernel_rfl) rfl ?_
    refine o_callV (hp _ _) rfl rfl ?_
    refine d_on (fun _ m => m.keeps (.refl _)) ?_
    refine d_tv 10 rfl rfl (by kernel_rfl) rfl (.refl _) rfl (v_lss rfl rfl) ?_
    refine d_tv 11 rfl rfl (by kernel_rfl) rfl (.refl _) rfl (v_not rfl) ?_
    refine d_done (by kernel_rfl) ?_
    refine go 1 ?_
    refine cb rfl (fun h103 p103 => ?_) (fun h103 p103 => ?_)
    ·refine go 7 ?_
     exact q_next2 ((i + j) / 2 + 1) (j) ⟨by omega, by omega, by omega, fun q q1 q2 => by have := m1.le (p := q) (q := (i + j) / 2) q1 (by omega) (by omega); have := day_geP p103; omega, hhi⟩ (by omega) rfl sb rfl
    ·refine go 6 ?_
     exact q_next2 (i) ((i + j) / 2) ⟨by omega, by omega, by omega, hlo, fun q q1 q2 => by have := m1.le (p := (i + j) / 2) (q := q) (by omega) q1 q2; have := day_ltP p103; omega⟩ (by omega) rfl sb rfl
   ·obtain rfl : i = j := by omega
    refine go 13 ?_
    refine c_loop (α := Nat) 0 (fun t => I)
     (fun t => [(0, .slice (some ⟨g, 0, none⟩) N cap), (1, .int .i64 ((a : Nat) : Int)), (2, .int .i64 ((m : Nat) : Int)), (3, .int .i64 ((m + 1 : Nat) : Int)), (4, .func (.func f) #[] #[]), (14, .int .i64 ((i : Nat) : Int)), (17, .int .i64 ((m - t : Nat) : Int))])
     (fun t => [.blk g 359 (evCh (bud l m t) ++ rest.l).flatten])
     (fun t => t + i ≤ m)
     (fun t => m - t) (by omega) rfl ⟨rfl, rfl, rfl, rfl, rfl, rfl, congrArg (fun z : Int => some (Value.int .i64 z)) (by omega), trivial⟩ rfl ?_
    intro t ht
    refine go 8 ?_
    refine cb rfl (fun h110 p110 => ?_) (fun h110 p110 => ?_)
    ·have hbl := bud_len l m t
     have hk1 : m - t < (bud l m t).length := by omega
     have hk2 : m - t - 1 < (bud l m t).length := by omega
     refine go 4 ?_
     refine d_start1 T.mixed ?_
     refine d_tv 0 rfl rfl (by kernel_rfl) rfl (.cons _ .slnil) rfl (v_move rfl) ?_
     refine d_tv 1 rfl rfl (by kernel_rfl) rfl (.cons _ .slnil) rfl (v_move rfl) ?_
     refine d_tv 2 rfl rfl (by kernel_rfl) rfl (.cons _ .slnil) rfl (v_move rfl) ?_
     refine d_tv 3 rfl rfl (by kernel_rfl) rfl (.cons _ .slnil) rfl (v_move rfl) ?_
     refine d_tv 4 rfl rfl (by kernel_rfl) rfl (.cons _ .slnil) rfl (OV.cast (u := .int .i64 ((m - t - 1 : Nat) : Int)) (v_sub rfl rfl ⟨by omega, by omega⟩) (congrArg (Value.int .i64) (by omega))) ?_
     refine d_tv 5 rfl rfl (by kernel_rfl) rfl (.cons _ .slnil) rfl (v_move rfl) ?_
     refine d_tv 6 rfl rfl (by kernel_rfl) rfl (.cons _ .slnil) rfl (v_move rfl) ?_
     refine d_tv 7 rfl rfl (by kernel_rfl) rfl (.cons _ .slnil) rfl (OV.cast (u := .int .i64 ((m - t - 1 : Nat) : Int)) (v_sub rfl rfl ⟨by omega, by omega⟩) (congrArg (Value.int .i64) (by omega))) ?_
     refine d_tv 8 rfl rfl (by kernel_rfl) rfl (.cons _ .slnil) rfl (v_idx he rfl rfl rfl (m - t - 1) (by omega) (by omega)) ?_
     refine d_tv 10 rfl rfl (by kernel_rfl) rfl (.cons _ .slnil) rfl (v_move rfl) ?_
     refine d_tv 11 rfl rfl (by kernel_rfl) rfl (.cons _ .slnil) rfl (v_move rfl) ?_
     refine d_tv 12 rfl rfl (by kernel_rfl) rfl (.cons _ .slnil) rfl (v_idx he rfl rfl rfl (m - t) (by omega) (by omega)) ?_
     refine d_two 9 13 (by kernel_rfl) rfl rfl ?_ ?_
     ·refine o_val rfl (v_ldc m0 ((evCh_ukP _).append rest.uk) he rfl (m - t - 1) (by omega) (evCh_restP hk2)) ?_
      refine d_on (fun _ m => m.keeps (.cons _ .slnil)) ?_
      refine d_one 13 (by kernel_rfl) rfl ?_
      refine o_val rfl (v_ldc m0 ((evCh_ukP _).append rest.uk) he rfl (m - t) (by omega) (evCh_restP hk1)) ?_
      refine d_on (fun _ m => m.keeps (.cons _ .slnil)) ?_
      refine d_tv 14 rfl rfl (by kernel_rfl) rfl (.cons _ .slnil) rfl (v_idx he rfl rfl rfl (m - t) (by omega) (by omega)) ?_
      refine d_one 15 (by kernel_rfl) rfl ?_
      refine o_stc _ (m - t) (by first | exact (evCh_ukP _).append rest.uk | exact ((evCh_ukP _).append rest.uk).set rfl _) he rfl rfl rfl rfl rfl (by omega) (by simp [evCh_len]; omega) ?_
      refine d_on (fun _ m => m.keeps (.cons _ .slnil)) ?_
      refine d_tv 16 rfl rfl (by kernel_rfl) rfl (.cons _ .slnil) rfl (v_idx he rfl rfl rfl (m - t - 1) (by omega) (by omega)) ?_
      refine d_one 17 (by kernel_rfl) rfl ?_
      refine o_stc _ (m - t - 1) (by first | exact (evCh_ukP _).append rest.uk | exact ((evCh_ukP _).append rest.uk).set rfl _) he rfl rfl rfl rfl rfl (by omega) (by simp [evCh_len]; omega) ?_
      refine d_on (fun _ m => m.keeps (.cons _ .slnil)) ?_
      refine d_done (by kernel_rfl) ?_
      refine go 4 ?_
      refine o_v rfl (OV.cast (u := .int .i64 ((m - (t + 1) : Nat) : Int)) (v_sub rfl rfl ⟨by omega, by omega⟩) (congrArg (Value.int .i64) (by omega))) ?_
      refine go 3 ?_
      exact q_next (t + 1) (by omega) (by omega) rfl sb (by rw [bud]; first | rw [← evCh_swpR hk1 hk2] | rw [← evCh_swpR' hk1 hk2 (by omega)])
     ·refine o_val rfl (v_ldc m0 ((evCh_ukP _).append rest.uk) he rfl (m - t) (by omega) (evCh_restP hk1)) ?_
      refine d_on (fun _ m => m.keeps (.cons _ .slnil)) ?_
      refine d_one 9 (by kernel_rfl) rfl ?_
      refine o_val rfl (v_ldc m0 ((evCh_ukP _).append rest.uk) he rfl (m - t - 1) (by omega) (evCh_restP hk2)) ?_
      refine d_on (fun _ m => m.keeps (.cons _ .slnil)) ?_
      refine d_tv 14 rfl rfl (by kernel_rfl) rfl (.cons _ .slnil) rfl (v_idx he rfl rfl rfl (m - t) (by omega) (by omega)) ?_
      refine d_one 15 (by kernel_rfl) rfl ?_
      refine o_stc _ (m - t) (by first | exact (evCh_ukP _).append rest.uk | exact ((evCh_ukP _).append rest.uk).set rfl _) he rfl rfl rfl rfl rfl (by omega) (by simp [evCh_len]; omega) ?_
      refine d_on (fun _ m => m.keeps (.cons _ .slnil)) ?_
      refine d_tv 16 rfl rfl (by kernel_rfl) rfl (.cons _ .slnil) rfl (v_idx he rfl rfl rfl (m - t - 1) (by omega) (by omega)) ?_
      refine d_one 17 (by kernel_rfl) rfl ?_
      refine o_stc _ (m - t - 1) (by first | exact (evCh_ukP _).append rest.uk | exact ((evCh_ukP _).append rest.uk).set rfl _) he rfl rfl rfl rfl rfl (by omega) (by simp [evCh_len]; omega) ?_
      refine d_on (fun _ m => m.keeps (.cons _ .slnil)) ?_
      refine d_done (by kernel_rfl) ?_
      refine go 4 ?_
      refine o_v rfl (OV.cast (u := .int .i64 ((m - (t + 1) : Nat) : Int)) (v_sub rfl rfl ⟨by omega, by omega⟩) (congrArg (Value.int .i64) (by omega))) ?_
      refine go 3 ?_
      exact q_next (t + 1) (by omega) (by omega) rfl sb (by rw [bud]; first | rw [← evCh_swpR hk1 hk2] | rw [← evCh_swpR' hk1 hk2 (by omega)])
    ·refine go 7 ?_
     refine fin0 rfl ?_
     exact q_x ⟨rfl, _, rfl, (show m - i = t by omega) ▸ merge_down m1 hi1 hjb (by omega) hlo hhi⟩
  ·have hmb2 : m + 2 ≤ b := by omega
   refine go 7 ?_
   refine o_v rfl (v_conv he he rfl (m := (a : Int) + (b : Int)) (wrap_u64 _ (by omega) (by omega))) ?_
   refine o_v rfl (v_shr1 rfl (by decide)) ?_
   refine o_v rfl (v_conv he he rfl (m := (((a + b) / 2 : Nat) : Int)) (by rw [IntKind.wrap_i64]; omega)) ?_
   refine go 7 ?_
   refine o_v rfl (OV.cast (u := .int .i64 ((((a + b) / 2) + m : Nat) : Int)) (v_add rfl rfl ⟨by omega, by omega⟩) (congrArg (Value.int .i64) (by omega))) ?_
   refine go 10 ?_
   refine c_cutx2 (Ix := (fun S R => I)) (Lx := (fun S R => [(0, .slice (some ⟨g, 0, none⟩) N cap), (1, .int .i64 ((a : Nat) : Int)), (2, .int .i64 ((m : Nat) : Int)), (3, .int .i64 ((b : Nat) : Int)), (4, .func (.func f) #[] #[]), (18, .int .i64 ((((a + b) / 2) : Nat) : Int)), (19, .int .i64 ((((a + b) / 2) + m : Nat) : Int)), (20, .int .i64 ((S : Nat) : Int)), (21, .int .i64 ((R : Nat) : Int))])) (Hx := (fun S R => [.blk g 359 (evCh (l) ++ rest.l).flatten])) (p := (fun S R => (((a + b) / 2) < m ∧ S = ((a + b) / 2) + m - b ∧ R = ((a + b) / 2)) ∨ (m ≤ ((a + b) / 2) ∧ S = a ∧ R = m))) ?_ ?_
   ·refine go 7 ?_
    refine cb rfl (fun h140 p140 => ?_) (fun h140 p140 => ?_)
    ·refine go 4 ?_
     refine o_v rfl (OV.cast (u := .int .i64 ((((a + b) / 2) + m - b : Nat) : Int)) (v_sub rfl rfl ⟨by omega, by omega⟩) (congrArg (Value.int .i64) (by omega))) ?_
     refine go 8 ?_
     exact q_cutx2 (((a + b) / 2) + m - b) (((a + b) / 2)) (.inl ⟨by omega, rfl, rfl⟩) sb rfl rfl
    ·refine go 11 ?_
     exact q_cutx2 (a) (m) (.inr ⟨by omega, rfl, rfl⟩) sb rfl rfl
   ·intro S R hS
    refine go 3 ?_
    refine o_v rfl (OV.cast (u := .int .i64 ((((a + b) / 2) + m - 1 : Nat) : Int)) (v_sub rfl rfl ⟨by omega, by omega⟩) (congrArg (Value.int .i64) (by omega))) ?_
    refine go 5 ?_
    refine c_loop2 (S) (R) (fun s r => I)
     (fun s r => [(0, .slice (some ⟨g, 0, none⟩) N cap), (1, .int .i64 ((a : Nat) : Int)), (2, .int .i64 ((m : Nat) : Int)), (3, .int .i64 ((b : Nat) : Int)), (4, .func (.func f) #[] #[]), (18, .int .i64 ((((a + b) / 2) : Nat) : Int)), (19, .int .i64 ((((a + b) / 2) + m : Nat) : Int)), (20, .int .i64 ((s : Nat) : Int)), (21, .int .i64 ((r : Nat) : Int)), (22, .int .i64 ((((a + b) / 2) + m - 1 : Nat) : Int))])
     (fun s r => [.blk g 359 (evCh (l) ++ rest.l).flatten])
     (fun s r => S ≤ s ∧ s ≤ r ∧ r ≤ R ∧ (∀ q, S ≤ q → q < s → dayAt l q ≤ dayAt l (((a + b) / 2) + m - 1 - q)) ∧ (∀ q, r ≤ q → q < R → dayAt l (((a + b) / 2) + m - 1 - q) < dayAt l q))
     (fun s r => r - s) ⟨by omega, by omega, by omega, fun q _ _ => by omega, fun q _ _ => by omega⟩ rfl sb rfl ?_
    intro s r ⟨hs1, hsr, hrR, hlo, hhi⟩
    refine go 8 ?_
    refine cb rfl (fun h151 p151 => ?_) (fun h151 p151 => ?_)
    ·have hh : (s + r) / 2 < l.length := by omega
     have hh2 : ((a + b) / 2) + m - 1 - (s + r) / 2 < l.length := by omega
     refine go 8 ?_
     refine o_v rfl (v_conv he he rfl (m := (s : Int) + (r : Int)) (wrap_u64 _ (by omega) (by omega))) ?_
     refine o_v rfl (v_shr1 rfl (by decide)) ?_
     refine o_v rfl (v_conv he he rfl (m := (((s + r) / 2 : Nat) : Int)) (by rw [IntKind.wrap_i64]; omega)) ?_
     refine go 4 ?_
     refine d_startH T.mixed ?_
     refine d_tv 0 rfl rfl (by kernel_rfl) rfl (.refl _) rfl (v_move rfl) ?_
     refine d_tv 1 rfl rfl (by kernel_rfl) rfl (.refl _) rfl (v_move rfl) ?_
     refine d_tv 2 rfl rfl (by kernel_rfl) rfl (.refl _) rfl (v_move rfl) ?_
     refine d_tv 3 rfl rfl (by kernel_rfl) rfl (.refl _) rfl (v_move rfl) ?_
     refine d_tv 4 rfl rfl (by kernel_rfl) rfl (.refl _) rfl (OV.cast (u := .int .i64 ((((a + b) / 2) + m - 1 - (s + r) / 2 : Nat) : Int)) (v_sub rfl rfl ⟨by omega, by omega⟩) (congrArg (Value.int .i64) (by omega))) ?_
     refine d_tv 5 rfl rfl (by kernel_rfl) rfl (.refl _) rfl (v_idx he rfl rfl rfl (((a + b) / 2) + m - 1 - (s + r) / 2) (by omega) (by omega)) ?_
     refine d_tv 6 rfl rfl (by kernel_rfl) rfl (.refl _) rfl (v_ldc m0 ((evCh_ukP _).append rest.uk) he rfl (((a + b) / 2) + m - 1 - (s + r) / 2) (by omega) (evCh_restP hh2)) ?_
     refine d_tv 7 rfl rfl (by kernel_rfl) rfl (.refl _) rfl (v_move rfl) ?_
     refine d_tv 8 rfl rfl (by kernel_rfl) rfl (.refl _) rfl (v_move rfl) ?_
     refine d_tv 9 rfl rfl (by kernel_rfl) rfl (.refl _) rfl (v_idx he rfl rfl rfl ((s + r) / 2) (by omega) (by omega)) ?_
     refine d_tv 10 rfl rfl (by kernel_rfl) rfl (.refl _) rfl (v_ldc m0 ((evCh_ukP _).append rest.uk) he rfl ((s + r) / 2) (by omega) (evCh_restP hh)) ?_
     refine d_one 11 (by kernel_rfl) rfl ?_
     refine o_callV (hp _ _) rfl rfl ?_
     refine d_on (fun _ m => m.keeps (.refl _)) ?_
     refine d_tv 12 rfl rfl (by kernel_rfl) rfl (.refl _) rfl (v_lss rfl rfl) ?_
     refine d_tv 13 rfl rfl (by kernel_rfl) rfl (.refl _) rfl (v_not rfl) ?_
     refine d_done (by kernel_rfl) ?_
     refine go 1 ?_
     refine cb rfl (fun h171 p171 => ?_) (fun h171 p171 => ?_)
     ·refine go 7 ?_
      exact q_next2 ((s + r) / 2 + 1) (r) ⟨by omega, by omega, by omega, spl_up m1 m2 ham hmb rfl hS (h := (s + r) / 2) (r := r) (by omega) (by omega) hrR (day_geP p171), hhi⟩ (by omega) rfl sb rfl
     ·refine go 6 ?_
      exact q_next2 (s) ((s + r) / 2) ⟨by omega, by omega, by omega, hlo, spl_dn m1 m2 ham hmb rfl hS (h := (s + r) / 2) (s := s) hs1 (by omega) (by omega) (day_ltP p171)⟩ (by omega) rfl sb rfl
    ·obtain rfl : s = r := by omega
     obtain ⟨hx, hy⟩ := spl_fin m1 m2 ham hmb rfl hS hs1 hrR hlo hhi
     have g0 : a ≤ s := by omega
     have g1 : s ≤ m := by omega
     have g2 : m ≤ ((a + b) / 2 + m - s) := by omega
     have g3 : ((a + b) / 2 + m - s) ≤ b := by omega
     have hc : s + (((a + b) / 2 + m - s) - m) = ((a + b) / 2) := by omega
     refine go 9 ?_
     refine o_v rfl (OV.cast (u := .int .i64 ((((a + b) / 2 + m - s) : Nat) : Int)) (v_sub rfl rfl ⟨by omega, by omega⟩) (congrArg (Value.int .i64) (by omega))) ?_
     refine go 4 ?_
     refine c_cutx (α := List Pkd) (Ix := (fun k => I)) (Lx := (fun k => [(0, .slice (some ⟨g, 0, none⟩) N cap), (1, .int .i64 ((a : Nat) : Int)), (2, .int .i64 ((m : Nat) : Int)), (3, .int .i64 ((b : Nat) : Int)), (4, .func (.func f) #[] #[]), (18, .int .i64 ((((a + b) / 2) : Nat) : Int)), (20, .int .i64 ((s : Nat) : Int)), (24, .int .i64 ((((a + b) / 2 + m - s) : Nat) : Int))])) (Hx := (fun k => [.blk g 359 (evCh (k) ++ rest.l).flatten])) (p := (fun k => Rot l k a s m ((a + b) / 2 + m - s) b)) ?_ ?_
     ·refine go 6 ?_
      refine sxb 181 rfl (fun h181 p181 => ?_) (fun h181 p181 => ?_)
      ·refine go 6 ?_
       refine cb rfl (fun h185 p185 => ?_) (fun h185 p185 => ?_)
       ·refine go 7 ?_
        refine o_callX1 (rotateP _ l N hN g s m ((a + b) / 2 + m - s) f (by omega) (by omega) (by omega) (by omega)) rfl rfl (fun v191 s191 q191 => ?_)
        obtain ⟨rfl, k, rfl, hkl, hk⟩ := q191
        refine go 2 ?_
        exact q_cutx k (Rot.of g1 g2 (by omega) hkl hk hx) sb rfl rfl
       ·refine go 2 ?_
        exact q_cutx l (Rot.id (by omega) g1 g2) sb rfl rfl
      ·refine go 6 ?_
       refine c_false rfl ?_
       refine go 2 ?_
       exact q_cutx l (Rot.id (by omega) g1 g2) sb rfl rfl
     ·intro k hk
      refine go 1 ?_
      refine c_cutx (α := List Pkd) (Ix := (fun k1 => I)) (Lx := (fun k1 => [(0, .slice (some ⟨g, 0, none⟩) N cap), (1, .int .i64 ((a : Nat) : Int)), (2, .int .i64 ((m : Nat) : Int)), (3, .int .i64 ((b : Nat) : Int)), (4, .func (.func f) #[] #[]), (18, .int .i64 ((((a + b) / 2) : Nat) : Int)), (20, .int .i64 ((s : Nat) : Int)), (24, .int .i64 ((((a + b) / 2 + m - s) : Nat) : Int))])) (Hx := (fun k1 => [.blk g 359 (evCh (k1) ++ rest.l).flatten])) (p := (fun k1 => Seg k k1 a ((a + b) / 2))) ?_ ?_
      ·refine go 6 ?_
       refine sxb 195 rfl (fun h195 p195 => ?_) (fun h195 p195 => ?_)
       ·refine go 6 ?_
        refine cb rfl (fun h199 p199 => ?_) (fun h199 p199 => ?_)
        ·refine go 7 ?_
         refine o_callX1 (ih k a s ((a + b) / 2) (hk.len.trans hN) (by omega) (by omega) (by omega) (by have := hk.len; omega) (hk.p1 m1 g1) ((hk.p2 m2 g1 g2 g3).sub (Nat.le_refl _) (by omega))) rfl rfl (fun v205 s205 q205 => ?_)
         obtain ⟨rfl, k1, rfl, hk1⟩ := q205
         refine go 2 ?_
         exact q_cutx k1 hk1 sb rfl rfl
        ·refine go 2 ?_
         exact q_cutx k (Seg.refl' (hk.left m1 m2 g1 g2 g3 hc (by omega) g0)) sb rfl rfl
       ·refine go 6 ?_
        refine c_false rfl ?_
        refine go 2 ?_
        exact q_cutx k (Seg.refl' (hk.left m1 m2 g1 g2 g3 hc (by omega) g0)) sb rfl rfl
      ·intro k1 hk1
       have hl1 : k1.length = N := hk1.len.trans (hk.len.trans hN)
       refine go 6 ?_
       refine sxb 209 rfl (fun h209 p209 => ?_) (fun h209 p209 => ?_)
       ·refine go 6 ?_
        refine cb rfl (fun h213 p213 => ?_) (fun h213 p213 => ?_)
        ·refine go 7 ?_
         refine o_callX1 (ih k1 ((a + b) / 2) ((a + b) / 2 + m - s) b hl1 (by omega) (by omega) (by omega) (by omega) (hk1.keepD (Nat.le_refl _) ((hk.p3 m1 g0 g1 g2).sub (by omega) (Nat.le_refl _))) (hk1.keepD (by omega) (hk.p4 m2 g1 g2))) rfl rfl (fun v219 s219 q219 => ?_)
         obtain ⟨rfl, k2, rfl, hk2⟩ := q219
         refine go 1 ?_
         refine end0 rfl ?_
         exact q_x ⟨rfl, k2, rfl, hk.done m1 m2 g0 g1 g2 g3 hb hc hx hy hk1 hk2⟩
        ·refine go 1 ?_
         refine end0 rfl ?_
         exact q_x ⟨rfl, k1, rfl, hk.done m1 m2 g0 g1 g2 g3 hb hc hx hy hk1 (Seg.refl' (hk1.keepD (Nat.le_refl _) (hk.right m1 m2 g0 g1 g2 hc (by omega) g3)))⟩
       ·refine go 6 ?_
        refine c_false rfl ?_
        refine go 1 ?_
        refine end0 rfl ?_
        exact q_x ⟨rfl, k1, rfl, hk.done m1 m2 g0 g1 g2 g3 hb hc hx hy hk1 (Seg.refl' (hk1.keepD (Nat.le_refl _) (hk.right m1 m2 g0 g1 g2 hc (by omega) g3)))⟩

theorem symMergeP (I : IMap) {rest : Rst 15} {cap : Nat} (N g : Nat) (f : FuncId) (hp : ∀ x y : Pkd, FnV Tryz.prog f #[.agg (Day.ch x).toArray, .agg (Day.ch y).toArray] I (.int .i64 ((Day.day x - Day.day y)))) (hN0 : N ≤ 1000000) (W : Nat) : ∀ (l : List Pkd) (a m b : Nat), l.length = N → b - a ≤ W → a < m → m < b → b ≤ l.length → SrtD l a m → SrtD l m b → FnX Tryz.prog 348 #[.slice (some ⟨g, 0, none⟩) N cap, .int .i64 ((a : Nat) : Int), .int .i64 ((m : Nat) : Int), .int .i64 ((b : Nat) : Int), .func (.func f) #[] #[]] I [.blk g 359 (evCh (l) ++ rest.l).flatten] (fun u r => u = .tuple #[] ∧ ∃ m, r = .blk g 359 (evCh (m) ++ rest.l).flatten ∧ Seg l m a b) := by
  induction W using Nat.strongRecOn with
  | _ W ih => exact fun l a m b hN hW ham hmb hb m1 m2 => symMergeWP I N g f hp hN0 W (fun l' a' m' b' h1 h2 h3 h4 h5 h6 h7 => ih (b' - a') h2 l' a' m' b' h1 (Nat.le_refl _) h3 h4 h5 h6 h7) l a m b hN hW ham hmb hb m1 m2

theorem stableP (I : IMap) {rest : Rst 15} {cap : Nat} (N g : Nat) (f : FuncId) (hp : ∀ x y : Pkd, FnV Tryz.prog f #[.agg (Day.ch x).toArray, .agg (Day.ch y).toArray] I (.int .i64 ((Day.day x - Day.day y)))) (hN0 : N ≤ 1000000) (l : List Pkd) (hN : l.length = N) :
    FnX Tryz.prog 333 #[.slice (some ⟨g, 0, none⟩) N cap, .int .i64 ((N : Nat) : Int), .func (.func f) #[] #[]] I [.blk g 359 (evCh (l) ++ rest.l).flatten] (fun u r => u = .tuple #[] ∧ ∃ m, r = .blk g 359 (evCh (m) ++ rest.l).flatten ∧ Stb l m ∧ SrtD m 0 N) := by
 refine enter Tryz.func333 Tryz.call333 rfl Tryz.ntmps333 rfl (fun w0 => ?_)
 refine go 14 ?_
 refine c_loop2 (0) (l) (fun a m => I)
  (fun a m => [(0, .slice (some ⟨g, 0, none⟩) N cap), (1, .int .i64 ((N : Nat) : Int)), (2, .func (.func f) #[] #[]), (6, .int .i64 20), (7, .int .i64 ((a : Nat) : Int)), (8, .int .i64 ((a + 20 : Nat) : Int))])
  (fun a m => [.blk g 359 (evCh (m) ++ rest.l).flatten])
  (fun a m => a ≤ N ∧ Stb l m ∧ Pre m 20 a)
  (fun a m => N - a) ⟨Nat.zero_le _, Stb.refl l, .zero⟩ rfl sb rfl ?_
 intro a m ⟨ha, hs, hP⟩
 have hmN : m.length = N := hs.1.symm.trans hN
 refine go 8 ?_
 refine cb rfl (fun h13 p13 => ?_) (fun h13 p13 => ?_)
 ·refine go 10 ?_
  refine o_callX1 (insSortP _ m N hmN g a (a + 20) f hp (by omega) (by omega) (by omega)) rfl rfl (fun v18 s18 q18 => ?_)
  obtain ⟨rfl, k18, rfl, h18⟩ := q18
  refine go 11 ?_
  refine o_v rfl (OV.cast (u := .int .i64 ((a + 20 + 20 : Nat) : Int)) (v_add rfl rfl ⟨by omega, by omega⟩) (congrArg (Value.int .i64) (by omega))) ?_
  refine go 4 ?_
  exact q_next2 (a + 20) (k18) ⟨by omega, hs.trans h18.stb, hP.put h18⟩ (by omega) rfl sb rfl
 ·refine go 12 ?_
  refine o_callX1 (insSortP _ m N hmN g a N f hp ha (by omega) (by omega)) rfl rfl (fun v27 s27 q27 => ?_)
  obtain ⟨rfl, m3, rfl, h27⟩ := q27
  refine go 3 ?_
  refine c_loop2 (20) (m3) (fun q m => I)
   (fun q m => [(0, .slice (some ⟨g, 0, none⟩) N cap), (1, .int .i64 ((N : Nat) : Int)), (2, .func (.func f) #[] #[]), (6, .int .i64 ((q : Nat) : Int))])
   (fun q m => [.blk g 359 (evCh (m) ++ rest.l).flatten])
   (fun q m => 1 ≤ q ∧ Stb l m ∧ Blk m q N 0)
   (fun q m => N - q) ⟨by omega, hs.trans h27.stb, hP.last h27 ha (by omega)⟩ rfl sb rfl ?_
  intro q m ⟨hq, hs, hB⟩
  have hmN : m.length = N := hs.1.symm.trans hN
  refine go 8 ?_
  refine cb rfl (fun h30 p30 => ?_) (fun h30 p30 => ?_)
  ·refine go 6 ?_
   refine o_v rfl (OV.cast (u := .int .i64 ((2 * q : Nat) : Int)) (v_mul rfl rfl ⟨by omega, by omega⟩) (congrArg (Value.int .i64) (by omega))) ?_
   refine go 6 ?_
   refine c_loop2 (0) (m) (fun a k => I)
    (fun a k => [(0, .slice (some ⟨g, 0, none⟩) N cap), (1, .int .i64 ((N : Nat) : Int)), (2, .func (.func f) #[] #[]), (6, .int .i64 ((q : Nat) : Int)), (7, .int .i64 ((a : Nat) : Int)), (8, .int .i64 ((a + 2 * q : Nat) : Int))])
    (fun a k => [.blk g 359 (evCh (k) ++ rest.l).flatten])
    (fun a k => a ≤ N ∧ Stb l k ∧ Pre k (2 * q) a ∧ Blk k q N a)
    (fun a k => N - a) ⟨Nat.zero_le _, hs, .zero, hB⟩ rfl ⟨rfl, rfl, rfl, rfl, rfl, congrArg (fun z : Int => some (Value.int .i64 z)) (by omega), trivial⟩ rfl ?_
   intro a k ⟨ha, hkS, hkP, hkB⟩
   have hkN : k.length = N := hkS.1.symm.trans hN
   refine go 8 ?_
   refine cb rfl (fun h35 p35 => ?_) (fun h35 p35 => ?_)
   ·obtain ⟨t1, t2, t3⟩ := hkB.two (by omega) hq
    refine go 9 ?_
    refine o_v rfl (OV.cast (u := .int .i64 ((a + q : Nat) : Int)) (v_add rfl rfl ⟨by omega, by omega⟩) (congrArg (Value.int .i64) (by omega))) ?_
    refine go 3 ?_
    refine o_callX1 (symMergeP _ N g f hp hN0 _ k a (a + q) (a + 2 * q) hkN (Nat.le_refl _) (by omega) (by omega) (by omega) t1 t2) rfl rfl (fun v43 s43 q43 => ?_)
    obtain ⟨rfl, k43, rfl, h43⟩ := q43
    refine go 11 ?_
    refine o_v rfl (OV.cast (u := .int .i64 ((2 * q : Nat) : Int)) (v_mul rfl rfl ⟨by omega, by omega⟩) (congrArg (Value.int .i64) (by omega))) ?_
    refine o_v rfl (OV.cast (u := .int .i64 ((a + 2 * q + 2 * q : Nat) : Int)) (v_add rfl rfl ⟨by omega, by omega⟩) (congrArg (Value.int .i64) (by omega))) ?_
    refine go 4 ?_
    exact q_next2 (a + 2 * q) (k43) ⟨by omega, hkS.trans h43.stb, hkP.put h43, t3.same fun z z1 z2 => h43.out z (.inr (by omega))⟩ (by omega) rfl sb rfl
   ·refine go 6 ?_
    refine c_cutx (α := List Pkd) (Ix := (fun k => I)) (Lx := (fun k => [(0, .slice (some ⟨g, 0, none⟩) N cap), (1, .int .i64 ((N : Nat) : Int)), (2, .func (.func f) #[] #[]), (6, .int .i64 ((q : Nat) : Int))])) (Hx := (fun k => [.blk g 359 (evCh (k) ++ rest.l).flatten])) (p := (fun k => Stb l k ∧ Blk k (2 * q) N 0)) ?_ ?_
    ·refine go 4 ?_
     refine o_v rfl (OV.cast (u := .int .i64 ((a + q : Nat) : Int)) (v_add rfl rfl ⟨by omega, by omega⟩) (congrArg (Value.int .i64) (by omega))) ?_
     refine go 10 ?_
     refine cb rfl (fun h54 p54 => ?_) (fun h54 p54 => ?_)
     ·obtain ⟨t1, t2⟩ := hkB.one (by omega)
      refine go 7 ?_
      refine o_callX1 (symMergeP _ N g f hp hN0 _ k a (a + q) N hkN (Nat.le_refl _) (by omega) (by omega) (by omega) t1 (t2 (by omega))) rfl rfl (fun v60 s60 q60 => ?_)
      obtain ⟨rfl, k60, rfl, h60⟩ := q60
      refine go 2 ?_
      exact q_cutx k60 ⟨hkS.trans h60.stb, hkP.last h60 ha (by omega)⟩ sb rfl rfl
     ·refine go 2 ?_
      exact q_cutx k ⟨hkS, hkP.last (Seg.refl' (hkB.all (by omega))) ha (by omega)⟩ sb rfl rfl
    ·intro k ⟨hkS, hkB⟩
     refine go 2 ?_
     refine o_v rfl (OV.cast (u := .int .i64 ((2 * q : Nat) : Int)) (v_mul rfl rfl ⟨by omega, by omega⟩) (congrArg (Value.int .i64) (by omega))) ?_
     refine go 4 ?_
     exact q_next2 (2 * q) (k) ⟨by omega, hkS, hkB⟩ (by omega) rfl sb rfl
  ·refine go 4 ?_
   refine end0 rfl ?_
   exact q_x ⟨rfl, m, rfl, hs, hB.all (by omega)⟩

theorem sortStableP (I : IMap) {rest : Rst 15} {cap : Nat} (N g : Nat) (f : FuncId) (hp : ∀ x y : Pkd, FnV Tryz.prog f #[.agg (Day.ch x).toArray, .agg (Day.ch y).toArray] I (.int .i64 ((Day.day x - Day.day y)))) (hN0 : N ≤ 1000000) (l : List Pkd) (hN : l.length = N) :
    FnX Tryz.prog 301 #[.slice (some ⟨g, 0, none⟩) N cap, .func (.func f) #[] #[]] I [.blk g 359 (evCh (l) ++ rest.l).flatten] (fun u r => u = .tuple #[] ∧ ∃ m, r = .blk g 359 (evCh (m) ++ rest.l).flatten ∧ Stb l m ∧ SrtD m 0 N) := by
 refine enter Tryz.func301 Tryz.call301 rfl Tryz.ntmps301 rfl (fun w0 => ?_)
 refine go 6 ?_
 refine o_callX1 (stableP _ N g f hp hN0 l hN) rfl rfl (fun v8 s8 q8 => ?_)
 obtain ⟨rfl, m8, rfl, h8⟩ := q8
 refine go 1 ?_
 refine end0 rfl ?_
 exact q_x ⟨rfl, m8, rfl, h8⟩

theorem insSortNil (I : IMap) (f : FuncId) :
    FnV Tryz.prog 347 #[.slice none 0 0, .int .i64 0, .int .i64 0, .func (.func f) #[] #[]] I (.tuple #[]) := by
 refine enter Tryz.func347 Tryz.call347 rfl Tryz.ntmps347 rfl (fun w0 => ?_)
 refine go 3 ?_
 refine o_v rfl (OV.cast (u := .int .i64 1) (v_add rfl rfl ⟨by omega, by omega⟩) rfl) ?_
 refine go 4 ?_
 refine c_loop (α := Nat) 0 (fun i => I)
  (fun i => [(0, .slice none 0 0), (1, .int .i64 0), (2, .int .i64 0), (3, .func (.func f) #[] #[]), (8, .int .i64 1)])
  (fun i => [])
  (fun i => True)
  (fun i => 0) trivial rfl sb rfl ?_
 intro i _
 refine go 8 ?_
 refine cb rfl (fun h14 p14 => ?_) (fun h14 p14 => ?_)
 ·exact absurd p14 (by decide)
 ·refine go 4 ?_
  refine end0 rfl ?_
  exact q_v rfl

theorem stableNil (I : IMap) (f : FuncId) :
    FnV Tryz.prog 333 #[.slice none 0 0, .int .i64 0, .func (.func f) #[] #[]] I (.tuple #[]) := by
 refine enter Tryz.func333 Tryz.call333 rfl Tryz.ntmps333 rfl (fun w0 => ?_)
 refine go 14 ?_
 refine c_loop (α := Nat) 0 (fun i => I)
  (fun i => [(0, .slice none 0 0), (1, .int .i64 0), (2, .func (.func f) #[] #[]), (6, .int .i64 20), (7, .int .i64 0), (8, .int .i64 20)])
  (fun i => [])
  (fun i => True)
  (fun i => 0) trivial rfl sb rfl ?_
 intro i _
 refine go 8 ?_
 refine cb rfl (fun h13 p13 => ?_) (fun h13 p13 => ?_)
 ·exact absurd p13 (by decide)
 ·refine go 12 ?_
  refine o_callV (insSortNil _ f) rfl rfl ?_
  refine go 3 ?_
  refine c_loop (α := Nat) 0 (fun i => I)
   (fun i => [(0, .slice none 0 0), (1, .int .i64 0), (2, .func (.func f) #[] #[]), (6, .int .i64 20)])
   (fun i => [])
   (fun i => True)
   (fun i => 0) trivial rfl sb rfl ?_
  intro i _
  refine go 8 ?_
  refine cb rfl (fun h30 p30 => ?_) (fun h30 p30 => ?_)
  ·exact absurd p30 (by decide)
  ·refine go 4 ?_
   refine end0 rfl ?_
   exact q_v rfl

theorem sortNil (I : IMap) (f : FuncId) :
    FnV Tryz.prog 301 #[.slice none 0 0, .func (.func f) #[] #[]] I (.tuple #[]) := by
 refine enter Tryz.func301 Tryz.call301 rfl Tryz.ntmps301 rfl (fun w0 => ?_)
 refine go 6 ?_
 refine o_callV (stableNil _ f) rfl rfl ?_
 refine go 1 ?_
 refine end0 rfl ?_
 exact q_v rfl

theorem sortPk (I : IMap) (v : Value) (l : List Pkd) (hN0 : l.length ≤ 1000000) (f : FuncId) (hp : ∀ x y : Pkd, FnV Tryz.prog f #[.agg (Day.ch x).toArray, .agg (Day.ch y).toArray] I (.int .i64 (Day.day x - Day.day y))) :
    FnX Tryz.prog 301 #[v, .func (.func f) #[] #[]] I [.row v 359 15 l.length (evCh l).flatten] (fun u r => u = .tuple #[] ∧ r = .row v 359 15 l.length (evCh (sortF l)).flatten) :=
  FnX.of_rowV (args := fun v => [v, .func (.func f) #[] #[]]) (evCh_ukP l) (evCh_len l)
    (fun h0 hv => by
      obtain rfl := List.eq_nil_of_length_eq_zero h0
      subst hv
      exact FnX.of_V (sortNil I f))
    (fun g cap rest hv hR hc hl => by
      subst hv
      refine FnX.back (yss := evCh (sortF l)) (evCh_ukP _) hR (by rw [evCh_len, sortF_len]) hc hl ?_
      refine FnH.mono (sortStableP I (rest := ⟨rest, hR⟩) (cap := cap) l.length g f hp hN0 l rfl) fun u I' H' hI h => ?_
      obtain ⟨h1, r', h2, h3, m, h4, h5, h6⟩ := h
      have hml : m.length = l.length := h5.1.symm
      obtain rfl := sortF_is h5 (SrtD.pw (by rw [hml]; exact h6))
      exact ⟨h1, r', h2, ⟨h3, rfl⟩, h4⟩)

theorem pkByDay (I : IMap) (x y : Pkd) :
    FnV Tryz.prog 302 #[.agg (Day.ch x).toArray, .agg (Day.ch y).toArray] I (.int .i64 (Day.day x - Day.day y)) := by
 refine enter Tryz.func302 Tryz.call302 rfl Tryz.ntmps302 rfl (fun w0 => ?_)
 show SX _ _ _ (argsL [.agg x.cells.toArray, .agg y.cells.toArray] 0) _ _
 refine go 3 ?_
 refine o_box _ rfl rfl rfl (fun g2 => ?_)
 refine go 1 ?_
 refine o_box _ rfl rfl rfl (fun g3 => ?_)
 refine go 11 ?_
 refine o_v rfl (v_sub rfl rfl ⟨by have := x.lo; have := x.hi; have := y.lo; have := y.hi; omega, by have := x.lo; have := x.hi; have := y.lo; have := y.hi; omega⟩) ?_
 refine go 4 ?_
 refine fin1 rfl rfl ?_
 exact q_v rfl

theorem followStep (I : IMap) (vc : Value) (c : List Kind) (hvc : RdS I vc c) (hsc : SmC c) (g1 : Nat) (c1 : ICells I g1 0 [vc]) (g2 : Nat) (v : Value) (st : List Part) (hv : RdS I v st) (hsf : SmF st) (e : Evt) (hse : SmE e) :
    FnG Tryz.prog 303 #[.agg e.cells.toArray, .pointer (some ⟨g1, 0, none⟩), .pointer (some ⟨g2, 0, none⟩)] I (.blk g2 53 [v]) (fun u J r => u = .int .i64 (applyF c st e).2 ∧ ∃ w, r = .blk g2 53 [w] ∧ RdS J w (applyF c st e).1) := by
 refine enter Tryz.func303 Tryz.call303 rfl Tryz.ntmps303 rfl (fun w0 => ?_)
 refine go 3 ?_
 refine o_box _ rfl rfl rfl (fun g3 => ?_)
 refine go 5 ?_
 refine o_v rfl (v_ldIa he rfl c1 rfl) ?_
 refine go 3 ?_
 refine o_call (flApply _ vc c hvc hsc v st hv hsf e hse) rfl rfl (fun v9 I9 j9 q9 => ?_)
 obtain ⟨w9, rfl, hw9⟩ := q9
 refine go 4 ?_
 refine bring1 ?_
 refine o_stw _ he rfl rfl rfl rfl rfl (by simp [hw9.one]) ?_
 refine go 10 ?_
 refine fin1 rfl rfl ?_
 refine bring1 ?_
 refine sx_drop ?_
 exact q_g ⟨rfl, w9, rfl, hw9⟩

theorem hiFollow (I : IMap) (vc : Value) (c : List Kind) (hvc : RdS I vc c) (hsc : SmC c) (v : Value) (l : List Rep) (hv : RdS I v l) (hl : l.length ≤ 1000000) (hsl : ∀ r ∈ l, ∀ e ∈ r.options, SmE e) (hgd : ∀ r ∈ l, validRep r = true) (w : Value) (ch : List Int) (hw : RdS I w ch) (hlc : ch.length = l.length) (day : Int) :
    FnI Tryz.prog 243 #[.agg #[vc], v, w, .int .i64 day] I (fun u J => u = .tuple #[.int .i64 (followF c l ch day).1, .int .i64 (followF c l ch day).2]) := by
 obtain ⟨A, c0, rfl, hA, hc, hm⟩ := hv
 obtain ⟨B, c1, rfl, hB, hc1, hm1⟩ := hw
 refine enter Tryz.func243 Tryz.call243 rfl Tryz.ntmps243 rfl (fun w0 => ?_)
 refine go 3 ?_
 refine o_box _ rfl rfl rfl (fun g4 => ?_)
 refine go 6 ?_
 refine sx_nilrow 359 15 ?_
 refine go 12 ?_
 refine c_loop4 ((0 : Nat)) (_) ([]) ([]) (fun i v xs out => I)
  (fun i v xs out => [(4, .pointer (some ⟨g4, 0, none⟩)), (2, .slice B ch.length c1), (3, .int .i64 day), (10, v), (19, .slice A l.length c0), (20, .int .i64 ((l.length : Nat) : Int)), (21, .int .i64 ((i : Nat) : Int))])
  (fun i v xs out => [.row v 359 15 out.length xs, .blk g4 24 [vc]])
  (fun i v xs out => i ≤ l.length ∧ pickF day l ch i = out ∧ Flat I xs out)
  (fun i v xs out => l.length - i) ⟨Nat.zero_le _, rfl, .nil⟩ rfl sb rfl ?_
 intro i v xs out ⟨hi, hw, hF⟩
 have hol : out.length ≤ i := by rw [← hw]; exact pick_len _ _ _ _
 refine go 6 ?_
 refine cb rfl (fun h22 p22 => ?_) (fun h22 p22 => ?_)
 ·have hlt : i < l.length := by omega
  have hlt2 : i < ch.length := by omega
  refine go 7 ?_
  obtain ⟨b24, o24, w24, e24, c24, r24⟩ := RdA.at_ hA (i := i) hlt
  obtain ⟨q24, rfl, S24, d24, rfl, hS24, hd24, hm24⟩ := r24
  refine o_v rfl (v_idx he rfl rfl e24 (i) (by omega) hlt) ?_
  refine o_v rfl (v_ldIa he rfl c24 rfl) ?_
  refine go 1 ?_
  refine o_alloc he rfl (fun g12 => ?_)
  refine go 2 ?_
  refine o_stw _ he rfl rfl rfl rfl rfl rfl ?_
  refine go 6 ?_
  obtain ⟨b28, o28, w28, e28, c28, r28⟩ := RdA.at_ hB (i := i) hlt2
  obtain rfl := r28
  refine o_v rfl (v_idx he rfl rfl e28 (i) (by omega) hlt2) ?_
  refine o_v rfl (v_ldI he rfl (c28 0 _ rfl)) ?_
  refine go 8 ?_
  refine sxb 32 rfl (fun h32 p32 => ?_) (fun h32 p32 => ?_)
  ·refine go 7 ?_
   refine sxb 39 rfl (fun h39 p39 => ?_) (fun h39 p39 => ?_)
   ·have hk : ch[i].toNat < l[i].options.length := by omega
    have hday := validE_day (validRep_e (hgd _ (List.getElem_mem hlt)) _ (List.getElem_mem hk))
    refine go 3 ?_
    obtain ⟨b43, o43, w43, e43, c43, r43⟩ := RdA.at_ hS24 (i := ch[i].toNat) hk
    obtain rfl := r43
    refine o_cons (o_yes rfl rfl h39 (o_val rfl (v_idx he rfl rfl e43 (ch[i].toNat) (by omega) hk) ?_))
    refine go 1 ?_
    refine o_cons (o_yes rfl rfl h39 (o_val rfl (v_ldI he rfl (c43 1 _ rfl)) ?_))
    refine go 5 ?_
    refine cb rfl (fun h48 p48 => ?_) (fun h48 p48 => ?_)
    ·refine go 5 ?_
     obtain ⟨b53, o53, w53, e53, c53, r53⟩ := RdA.at_ hS24 (i := ch[i].toNat) hk
     obtain rfl := r53
     refine o_v rfl (v_idx he rfl rfl e53 (ch[i].toNat) (by omega) hk) ?_
     refine o_v rfl (v_ldIa he rfl c53 rfl) ?_
     refine go 2 ?_
     refine o_val rfl (v_build (pl := [(0, 14), (14, 1)]) he he rfl rfl) ?_
     refine go 1 ?_
     refine o_buildSlice he he rfl rfl rfl rfl rfl rfl rfl (fun v57 => ?_)
     refine go 1 ?_
     refine bring2 ?_
     refine o_appendO he he rfl rfl rfl rfl rfl (by omega) (by omega) rfl (fun v58 => ?_)
     refine go 9 ?_
     refine bring1 ?_
     refine sx_drop ?_
     refine bring1 ?_
     refine sx_drop ?_
     exact q_next4 (i + 1) (_) (_) (out ++ [⟨l[i].options[ch[i].toNat], i, hday.1, hday.2⟩]) ⟨by omega, pk_yes hlt hlt2 hw p32 hk p48 hday, hF.append (.one rfl)⟩ (by omega) rfl sb (by first | rfl | (simp only [List.length_append, List.length_singleton]; rfl) | simp only [List.length_append, List.length_singleton])
    ·refine go 8 ?_
     refine sx_drop ?_
     exact q_next4 (i + 1) (_) (_) (out) ⟨by omega, pk_late hlt hlt2 hw hk p48, hF⟩ (by omega) rfl sb (by first | rfl | (simp only [List.length_append, List.length_singleton]; rfl) | simp only [List.length_append, List.length_singleton])
   ·refine go 11 ?_
    refine c_false rfl ?_
    refine go 8 ?_
    refine sx_drop ?_
    exact q_next4 (i + 1) (_) (_) (out) ⟨by omega, pk_big hlt hlt2 hw p39, hF⟩ (by omega) rfl sb (by first | rfl | (simp only [List.length_append, List.length_singleton]; rfl) | simp only [List.length_append, List.length_singleton])
  ·refine go 18 ?_
   refine c_false rfl ?_
   refine go 8 ?_
   refine sx_drop ?_
   exact q_next4 (i + 1) (_) (_) (out) ⟨by omega, pk_neg hlt hlt2 hw p32, hF⟩ (by omega) rfl sb (by first | rfl | (simp only [List.length_append, List.length_singleton]; rfl) | simp only [List.length_append, List.length_singleton])
 ·have e : i = l.length := (by omega)
  subst e
  refine go 9 ?_
  obtain ⟨xss, rfl, hx⟩ := FlatC.of hF
  obtain rfl := evCh_ofP hx
  refine o_callX1 (sortPk _ v out (by omega) 302 (fun x y => pkByDay _ x y)) rfl rfl (fun v61 s61 q61 => ?_)
  obtain ⟨rfl, rfl⟩ := q61
  have hso := sortF_len out
  refine sx_pubrow (l := sortF out) rfl (by rw [sortF_len]) ((evCh_flatP _).flat) (fun I61 j61 R61 => ?_)
  have hvc := hvc.le j61
  refine go 5 ?_
  refine o_alloc he rfl (fun g14 => ?_)
  refine go 4 ?_
  obtain ⟨A6, c6, rfl, hA6, _, _⟩ := R61
  refine bring1 ?_
  refine sx_pub (fun Ig4 jg4 cg4 => ?_)
  have hvc := hvc.le jg4
  have hA6 := hA6.le jg4
  refine o_v rfl (v_makeFunc rfl rfl) ?_
  refine go 12 ?_
  refine c_loop4 (0) ([]) (.slice none 0 0) (Ig4) (fun i st v14 J => J)
   (fun i st v14 J => [(15, .func (.func 303) #[] #[.pointer (some ⟨g4, 0, none⟩), .pointer (some ⟨g14, 0, none⟩)]), (63, .slice A6 (sortF out).length c6), (64, .int .i64 (((sortF out).length : Nat) : Int)), (65, .int .i64 ((i : Nat) : Int))])
   (fun i st v14 J => [.blk g14 53 [v14]])
   (fun i st v14 J => i ≤ (sortF out).length ∧ ILe Ig4 J ∧ RdS J v14 st ∧ SmF st ∧ followGo c [] (sortF out) = followGo c st ((sortF out).drop i))
   (fun i st v14 J => (sortF out).length - i) ⟨Nat.zero_le _, ILe.refl _, RdS.nil', SmF.nil, rfl⟩ rfl sb rfl ?_
  intro i st v14 J ⟨hi, hJ, hv14, hsf, hgo⟩
  have hvc := hvc.le hJ
  have hA6 := hA6.le hJ
  have cg4 := cg4.le hJ
  refine go 6 ?_
  refine cb rfl (fun h66 p66 => ?_) (fun h66 p66 => ?_)
  ·have hlt : i < (sortF out).length := by omega
   have hse : SmE (sortF out)[i].e := by
     obtain ⟨r, hr, he⟩ := pick_mem (day := day) (l := l) (ch := ch) (n := l.length) (p := (sortF out)[i]) (by rw [hw]; exact sortF_mem.1 (List.getElem_mem hlt))
     exact hsl r hr _ he
   refine go 6 ?_
   obtain ⟨b67, o67, w67, e67, c67, r67⟩ := RdA.at_ hA6 (i := i) hlt
   obtain rfl := r67
   refine o_v rfl (v_idx he rfl rfl e67 (i) (by omega) hlt) ?_
   refine o_v rfl (v_ldIa he rfl c67 rfl) ?_
   refine go 1 ?_
   refine o_alloc he rfl (fun g17 => ?_)
   refine go 1 ?_
   refine o_stw _ he rfl rfl rfl rfl rfl rfl ?_
   refine go 6 ?_
   refine o_v rfl (v_ldp ((sortF out)[i].e.cells) m0 he rfl rfl rfl) ?_
   refine go 1 ?_
   refine bring1 ?_
   refine o_callG (followStep _ vc c hvc hsc g4 cg4 g14 v14 st hv14 hsf (sortF out)[i].e hse) rfl rfl (fun v72 I72 s72 j72 q72 => ?_)
   obtain ⟨rfl, w72, rfl, hw72⟩ := q72
   refine go 9 ?_
   refine cb rfl (fun h74 p74 => ?_) (fun h74 p74 => ?_)
   ·have hok : ¬ (applyF c st (sortF out)[i].e).2 = 0 := by simpa using p74
    refine go 15 ?_
    refine fin2 rfl rfl rfl ?_
    exact q_i (by simp only [followF, hw, hgo, follow_step hlt, if_neg hok])
   ·have hok : (applyF c st (sortF out)[i].e).2 = 0 := by simpa using p74
    refine go 8 ?_
    refine bring1 ?_
    refine sx_drop ?_
    exact q_next4 (i + 1) (_) (_) (I72) ⟨by omega, hJ.trans j72, hw72, applyF_sm hsf hse, by rw [hgo, follow_step hlt, if_pos hok]⟩ (by omega) rfl sb rfl
  ·refine go 12 ?_
   refine fin2 rfl rfl rfl ?_
   exact q_i (by simp only [followF, hw, hgo, List.drop_eq_nil_of_le (show (sortF out).length ≤ i by omega)]; rfl)

theorem hiFails (I : IMap) (vc : Value) (c : List Kind) (hvc : RdS I vc c) (hsc : SmC c) (v : Value) (l : List Rep) (hv : RdS I v l) (hl : l.length ≤ 1000000) (hsl : ∀ r ∈ l, ∀ e ∈ r.options, SmE e) (w : Value) (ch : List Int) (hw : RdS I w ch) :
    FnI Tryz.prog 244 #[.agg #[vc], v, w] I (fun u J => u = .tuple #[.int .i64 (failsF c l ch).1, .int .i64 (failsF c l ch).2]) := by
 refine enter Tryz.func244 Tryz.call244 rfl Tryz.ntmps244 rfl (fun w0 => ?_)
 refine go 3 ?_
 refine o_box _ rfl rfl rfl (fun g3 => ?_)
 refine go 11 ?_
 refine o_callV (hiGiven _ vc c hvc hsc _ l hv hsl _ ch hw 0) rfl rfl ?_
 refine go 3 ?_
 refine cb rfl (fun h12 p12 => ?_) (fun h12 p12 => ?_)
 ·refine go 8 ?_
  refine fin2 rfl rfl rfl ?_
  exact q_i (by rw [failsF, if_pos (by simpa using h12)])
 ·obtain ⟨hlc, hgd⟩ := given_all (c := c) (l := l) (ch := ch) (n := 0) (by simpa using h12)
  refine go 8 ?_
  refine o_call (hiFollow _ vc c hvc hsc _ l hv hl hsl hgd _ ch hw hlc 40001) rfl rfl (fun v16 I16 j16 q16 => ?_)
  obtain rfl := q16
  refine go 7 ?_
  refine fin2 rfl rfl rfl ?_
  exact q_i (by rw [failsF, if_neg (by simp [show givenF c l ch 0 = true by simpa using h12])]; rfl)

theorem hiIs (I : IMap) (vc : Value) (c : List Kind) (hvc : RdS I vc c) (hsc : SmC c) (v : Value) (l : List Rep) (hv : RdS I v l) (hl : l.length ≤ 1000000) (hsl : ∀ r ∈ l, ∀ e ∈ r.options, SmE e) (w : Value) (ch : List Int) (hw : RdS I w ch) :
    FnI Tryz.prog 193 #[.agg #[vc], v, w] I (fun u J => u = .bool (isF c l ch)) := by
 refine enter Tryz.func193 Tryz.call193 rfl Tryz.ntmps193 rfl (fun w0 => ?_)
 refine go 3 ?_
 refine o_box _ rfl rfl rfl (fun g3 => ?_)
 refine go 9 ?_
 refine o_call (hiFails _ vc c hvc hsc _ l hv hl hsl _ ch hw) rfl rfl (fun v13 I13 j13 q13 => ?_)
 obtain rfl := q13
 refine go 15 ?_
 refine fin1 rfl rfl ?_
 exact q_i rfl

theorem hiFalse (I : IMap) (vc : Value) (c : List Kind) (hvc : RdS I vc c) (hsc : SmC c) (v : Value) (l : List Rep) (hv : RdS I v l) (hl : l.length ≤ 1000000) (hsl : ∀ r ∈ l, ∀ e ∈ r.options, SmE e) (w : Value) (ch : List Int) (hw : RdS I w ch) :
    FnI Tryz.prog 192 #[.agg #[vc], v, w] I (fun u J => u = .bool (falseF c l ch)) := by
 have hv0 := hv
 have hw0 := hw
 obtain ⟨A, c0, rfl, _, _, _⟩ := hv0
 obtain ⟨B, c1, rfl, _, _, _⟩ := hw0
 refine enter Tryz.func192 Tryz.call192 rfl Tryz.ntmps192 rfl (fun w0 => ?_)
 refine go 3 ?_
 refine o_box _ rfl rfl rfl (fun g3 => ?_)
 refine go 10 ?_
 refine o_callV (hiGiven _ vc c hvc hsc _ l hv hsl _ ch hw (-1)) rfl rfl ?_
 refine go 3 ?_
 refine cb rfl (fun h15 p15 => ?_) (fun h15 p15 => ?_)
 ·refine go 7 ?_
  refine fin1 rfl rfl ?_
  exact q_i (by rw [falseF, if_pos (by simpa using h15)])
 ·obtain ⟨hlc, hgd⟩ := given_all (c := c) (l := l) (ch := ch) (n := (-1)) (by simpa using h15)
  refine go 5 ?_
  refine o_alloc he rfl (fun g7 => ?_)
  refine go 1 ?_
  refine o_stw _ he rfl rfl rfl rfl rfl rfl ?_
  refine go 8 ?_
  refine o_call (hiDays _ A B _ c0 _ c1) rfl rfl (fun v18 I18 j18 q18 => ?_)
  have hvc := hvc.le j18
  have hv := hv.le j18
  have hw := hw.le j18
  obtain ⟨g2, g5, rfl, c2, c3⟩ := q18
  refine go 3 ?_
  refine c_range (σ := Int) (ps := [19]) 40001 (fun m => [.blk g7 3 [ci m]]) (fun pre I m => m = leastF pre) (fun pre I m cd => False) rfl Tryz.call300 (daysIt _ _ l hv _ ch hw hlc g2 g5 c2 c3) (fun I vs x h => by rw [h]; rfl) rfl (fun pre I I' s hI h => h) (fun _ _ _ _ _ _ h => h) (rfl) rfl ?_ ?_ ?_
  ·rintro r E1 pre x vs I1 m hI1 rfl rfl hpf
   refine sx_exp1 ?_
   refine go 3 ?_
   refine r_begin ?_
   refine go 4 ?_
   refine o_v rfl (v_imin rfl rfl) ?_
   refine go 1 ?_
   refine bring2 ?_
   refine o_stw _ he rfl rfl rfl rfl rfl rfl ?_
   refine go 2 ?_
   refine bring2 ?_
   refine bring2 ?_
   exact r_next (_) (hI1) ((by rw [least_snoc])) rfl
  ·rintro D pre I1 m hI1 hfull rfl
   refine sx_app1 ?_
   refine go 9 ?_
   refine o_call (hiFollow _ vc c (hvc.le hI1) hsc _ l (hv.le hI1) hl hsl hgd _ ch (hw.le hI1) hlc (leastF pre)) rfl rfl (fun v28 I28 j28 q28 => ?_)
   obtain rfl := q28
   refine go 15 ?_
   refine q_mark ?_
   refine fin1 rfl rfl ?_
   exact q_i (by rw [falseF, if_neg (by simp [show givenF c l ch (-1) = true by simpa using h15]), hfull])
  ·rintro D pre I1 m cd hI1 hpart h
   exact h.elim

end Go.Proofs.YtdapmfkbpnjkmaaGreat

/- Bits of numbers; numbers of a list opened. -/
set_option linter.all false
namespace Go.Sx
open Go
section
variable {P : Program} {n : Sz} {E : Ent} {I : IMap} {L : LL} {H : List Res}
variable {d ty : Nat} {pos : String} {af : Array Edge} {tx tyy : Nat} {x y : Operand}
end
/-- numbers of which those whose bits are set are open -/
def openF (ch : List Int) (a : Nat) : List Int := ch.mapIdx fun i k => if a.testBit i = true then -1 else k
theorem openF_len (ch : List Int) (a : Nat) : (openF ch a).length = ch.length := by simp [openF]
theorem hit_take_no {l : List Evt} {e : Evt} {m i : Nat} (hq : ∀ j x, j < m → l[j]? = some x → decide (x = e) = false) (hi : i ≤ m) : hit id (l.take i) e = false := by
  rw [hit_eq, List.any_eq_false]
  intro x hx
  obtain ⟨j, hj, rfl⟩ := List.getElem_of_mem hx
  rw [List.length_take] at hj
  rw [List.getElem_take]
  simpa using hq j _ (by omega) (List.getElem?_eq_getElem (by omega))
theorem hit_take_yes {l : List Evt} {e : Evt} {m i : Nat} (hm : m < i) (hl : m < l.length) (h : decide (l[m] = e) = true) : hit id (l.take i) e = true := by
  rw [hit_eq, List.any_eq_true]
  exact ⟨l[m], List.mem_iff_getElem.2 ⟨m, by rw [List.length_take]; omega, List.getElem_take⟩, h⟩
def fewR (l : List Rep) (n : Int) : Bool := allP (fun _ r => fewE r.options 6) l l.length && decide (((l.length : Nat) : Int) ≤ n)
theorem fewR_sm {l : List Rep} {n : Int} (h : fewR l n = true) : (∀ r ∈ l, ∀ e ∈ r.options, SmE e) ∧ ((l.length : Nat) : Int) ≤ n := by
  simp only [fewR, Bool.and_eq_true, decide_eq_true_eq] at h
  refine ⟨fun r hr => ?_, h.2⟩
  obtain ⟨_, h1⟩ := allP_mem h.1 hr
  exact (fewE_sm h1).1
end Go.Sx

/- Walks, printed by a program out of the code of the functions: each theorem is a contract of one function. -/
namespace Go.Proofs.YtdapmfkbpnjkmaaGreat
open Go Go.Sx
set_option linter.all false
set_option maxRecDepth 20000
set_option maxHeartbeats 4000000
theorem ref13Valid (I : IMap) (r : Rep) (S : Option Addr) (d : Nat) (hr : RdS I (.slice S r.options.length d) r.options) (hs : ∀ e ∈ r.options, SmE e) :
    FnV Tryz.prog 46 #[.agg (r.cells (.slice S r.options.length d)).toArray] I (.bool (validRep r)) := by
 have hSA : RdA I S r.options := (by obtain ⟨_, _, e, h, _⟩ := hr; cases e; exact h)
 have hl4 : d ≤ 9223372036854775807 := (by obtain ⟨_, _, e, h, h1, h2⟩ := hr; cases e; exact h2)
 have hl5 := hr.lenLe
 refine enter Tryz.func46 Tryz.call46 rfl Tryz.ntmps46 rfl (fun w0 => ?_)
 refine go 3 ?_
 refine o_box _ rfl rfl rfl (fun g1 => ?_)
 refine go 5 ?_
 refine c_cut (I' := I) (L' := [(1, .pointer (some ⟨g1, 0, none⟩)), (14, .bool (decide (((r.options.length : Nat) : Int) < 1) || decide ((4 : Int) < (r.options.length : Nat))))]) (H' := [.blk g1 64 (r.cells (.slice S r.options.length d))]) ?_ ?_
 ·refine go 6 ?_
  refine sxb 9 rfl (fun h9 p9 => ?_) (fun h9 p9 => ?_)
  ·refine go 7 ?_
   exact q_cut ⟨rfl, (congrArg (fun b => some (Value.bool b)) (by simp only [h9, bS])), trivial⟩ rfl rfl
  ·refine go 7 ?_
   exact q_cut ⟨rfl, (congrArg (fun b => some (Value.bool b)) (by simp only [h9, bS])), trivial⟩ rfl rfl
 ·refine cb rfl (fun h14 p14 => ?_) (fun h14 p14 => ?_)
  ·refine go 7 ?_
   refine fin1 rfl rfl ?_
   exact q_v (congrArg Value.bool (by simp only [validRep, show decide (((r.options.length : Nat) : Int) = 0) = decide (((r.options.length : Nat) : Int) < 1) from by rw [decide_eq_decide]; omega, h14]; rfl))
  ·refine go 9 ?_
   refine c_loop (α := Nat) 0 (fun i => I)
    (fun i => [(1, .pointer (some ⟨g1, 0, none⟩)), (3, .int .i64 ((i : Nat) : Int))])
    (fun i => [.blk g1 64 (r.cells (.slice S r.options.length d))])
    (fun i => i ≤ r.options.length ∧ allP optFine r.options i = true)
    (fun i => r.options.length - i) ⟨Nat.zero_le _, rfl⟩ rfl sb rfl ?_
   intro i ⟨hi, hn⟩
   refine go 10 ?_
   refine cb rfl (fun h19 p19 => ?_) (fun h19 p19 => ?_)
   ·have hlt : i < r.options.length := by omega
    refine go 10 ?_
    obtain ⟨b25, o25, w25, e25, c25, r25⟩ := RdA.at_ hSA (i := i) hlt
    obtain rfl := r25
    refine o_v rfl (v_idx he rfl rfl e25 (i) (by omega) hlt) ?_
    refine o_v rfl (v_ldIa he rfl c25 rfl) ?_
    refine go 1 ?_
    refine o_callV (ref09Valid _ r.options[i] (hs _ (List.getElem_mem hlt))) rfl rfl ?_
    refine go 3 ?_
    refine cb rfl (fun h28 p28 => ?_) (fun h28 p28 => ?_)
    ·refine go 12 ?_
     refine fin1 rfl rfl ?_
     exact q_v (congrArg Value.bool (by simp only [validRep, show decide (((r.options.length : Nat) : Int) = 0) = decide (((r.options.length : Nat) : Int) < 1) from by rw [decide_eq_decide]; omega, h14, allP_not hlt (show optFine (r.options.take i) r.options[i] = false by simp only [optFine, show validE r.options[i] = false by simpa using h28, bS]), bS]))
    ·refine go 8 ?_
     refine c_loop (α := Nat) 0 (fun m => I)
      (fun m => [(1, .pointer (some ⟨g1, 0, none⟩)), (3, .int .i64 ((i : Nat) : Int)), (4, .int .i64 ((m : Nat) : Int))])
      (fun m => [.blk g1 64 (r.cells (.slice S r.options.length d))])
      (fun m => m ≤ i ∧ ∀ j x, j < m → r.options[j]? = some x → decide (x = r.options[i]) = false)
      (fun m => i - m) ⟨Nat.zero_le _, fun j x hj => absurd hj (Nat.not_lt_zero j)⟩ rfl sb rfl ?_
     intro m ⟨hmm, hq⟩
     refine go 8 ?_
     refine cb rfl (fun h31 p31 => ?_) (fun h31 p31 => ?_)
     ·have hlm : m < r.options.length := by omega
      refine go 5 ?_
      refine d_startH T.mixed ?_
      refine d_tv 0 rfl rfl (by kernel_rfl) rfl (.refl _) rfl (v_fieldAddr he rfl) ?_
      refine d_tv 1 rfl rfl (by kernel_rfl) rfl (.refl _) rfl (v_ld m0 he rfl rfl) ?_
      refine d_tv 2 rfl rfl (by kernel_rfl) rfl (.refl _) rfl (v_move rfl) ?_
      obtain ⟨b37, o37, w37, e37, c37, r37⟩ := RdA.at_ hSA (i := m) hlm
      obtain rfl := r37
      refine d_tv 3 rfl rfl (by kernel_rfl) rfl (.refl _) rfl (v_idx he rfl rfl e37 (m) (by omega) hlm) ?_
      refine d_tv 4 rfl rfl (by kernel_rfl) rfl (.refl _) rfl (v_ldIa he rfl c37 rfl) ?_
      refine d_tv 5 rfl rfl (by kernel_rfl) rfl (.refl _) rfl (v_fieldAddr he rfl) ?_
      refine d_tv 6 rfl rfl (by kernel_rfl) rfl (.refl _) rfl (v_ld m0 he rfl rfl) ?_
      refine d_tv 7 rfl rfl (by kernel_rfl) rfl (.refl _) rfl (v_move rfl) ?_
      obtain ⟨b42, o42, w42, e42, c42, r42⟩ := RdA.at_ hSA (i := i) hlt
      obtain rfl := r42
      refine d_tv 8 rfl rfl (by kernel_rfl) rfl (.refl _) rfl (v_idx he rfl rfl e42 (i) (by omega) hlt) ?_
      refine d_tv 9 rfl rfl (by kernel_rfl) rfl (.refl _) rfl (v_ldIa he rfl c42 rfl) ?_
      refine d_tv 10 rfl rfl (by kernel_rfl) rfl (.refl _) rfl (v_steql T.eqg_96 (eqS_Evt r.options[m] r.options[i]) rfl rfl) ?_
      refine d_done (by kernel_rfl) ?_
      refine go 1 ?_
      refine cb rfl (fun h44 p44 => ?_) (fun h44 p44 => ?_)
      ·refine go 15 ?_
       refine fin1 rfl rfl ?_
       exact q_v (congrArg Value.bool (by simp only [validRep, show decide (((r.options.length : Nat) : Int) = 0) = decide (((r.options.length : Nat) : Int) < 1) from by rw [decide_eq_decide]; omega, h14, allP_not hlt (show optFine (r.options.take i) r.options[i] = false by simp only [optFine, hit_take_yes (show m < i by omega) hlm h44, bS]), bS]))
      ·refine go 9 ?_
       exact q_next (m + 1) ⟨by omega, idx_next (p := fun x => decide (x = r.options[i])) hq (show m < r.options.length by omega) h44⟩ (by omega) rfl sb rfl
     ·refine go 12 ?_
      exact q_next (i + 1) ⟨by omega, allP_succ hn hlt (by simp only [optFine, hit_take_no hq (show i ≤ m by omega), p28, bS])⟩ (by omega) rfl sb rfl
   ·refine go 11 ?_
    refine fin1 rfl rfl ?_
    have e : i = r.options.length := (by omega)
    subst e
    exact q_v (congrArg Value.bool (by simp only [validRep, hn, show decide (((r.options.length : Nat) : Int) = 0) = decide (((r.options.length : Nat) : Int) < 1) from by rw [decide_eq_decide]; omega, h14]; rfl))

theorem ref13Choices (I : IMap) (r : Rep) (S : Option Addr) (d : Nat) (hr : RdS I (.slice S r.options.length d) r.options) (hs : ∀ e ∈ r.options, SmE e) :
    FnV Tryz.prog 172 #[.agg (r.cells (.slice S r.options.length d)).toArray] I (.int .i64 (chs r)) := by
 have hl5 := hr.lenLe
 refine enter Tryz.func172 Tryz.call172 rfl Tryz.ntmps172 rfl (fun w0 => ?_)
 refine go 3 ?_
 refine o_box _ rfl rfl rfl (fun g1 => ?_)
 refine go 8 ?_
 refine o_callV (ref13Valid _ r S d hr hs) rfl rfl ?_
 refine go 3 ?_
 refine cb rfl (fun h5 p5 => ?_) (fun h5 p5 => ?_)
 ·refine go 7 ?_
  refine fin1 rfl rfl ?_
  exact q_v (congrArg (Value.int .i64) (by simp only [chs, show validRep r = false by simpa using h5, Bool.true_eq_false, Bool.false_eq_true, if_true, if_false]))
 ·have hl4 := validRep_len (r := r) (by simpa using h5)
  refine go 9 ?_
  refine cb rfl (fun h7 p7 => ?_) (fun h7 p7 => ?_)
  ·refine go 5 ?_
   refine o_v rfl (v_add rfl rfl ⟨by omega, by have := hl4; omega⟩) ?_
   refine go 5 ?_
   refine fin1 rfl rfl ?_
   exact q_v (congrArg (Value.int .i64) (by simp only [chs, show validRep r = true by simpa using h5, h7, Bool.true_eq_false, Bool.false_eq_true, if_true, if_false]))
  ·refine go 11 ?_
   refine fin1 rfl rfl ?_
   exact q_v (congrArg (Value.int .i64) (by simp only [chs, show validRep r = true by simpa using h5, h7, Bool.true_eq_false, Bool.false_eq_true, if_true, if_false]))

theorem ref13Few (I : IMap) (v : Value) (l : List Rep) (hv : RdS I v l) (n : Int) :
    FnV Tryz.prog 104 #[v, .int .i64 n] I (.bool (fewR l n)) := by
 obtain ⟨A, c0, rfl, hA, hc, hm⟩ := hv
 refine enter Tryz.func104 Tryz.call104 rfl Tryz.ntmps104 rfl (fun w0 => ?_)
 refine go 12 ?_
 refine c_loop (α := Nat) 0 (fun i => I)
  (fun i => [(0, .slice A l.length c0), (1, .int .i64 n), (5, .int .i64 ((i : Nat) : Int))])
  (fun i => [])
  (fun i => i ≤ l.length ∧ allP (fun _ r => fewE r.options 6) l i = true)
  (fun i => l.length - i) ⟨Nat.zero_le _, rfl⟩ rfl sb rfl ?_
 intro i ⟨hi, hn⟩
 refine go 8 ?_
 refine sxb 10 rfl (fun h10 p10 => ?_) (fun h10 p10 => ?_)
 ·have hlt : i < l.length := by omega
  refine go 7 ?_
  refine cb rfl (fun h15 p15 => ?_) (fun h15 p15 => ?_)
  ·have hlt : i < l.length := by omega
   refine go 8 ?_
   obtain ⟨b20, o20, w20, e20, c20, r20⟩ := RdA.at_ hA (i := i) hlt
   obtain ⟨q20, rfl, S20, d20, rfl, hS20, hd20, hm20⟩ := r20
   refine o_v rfl (v_idx he rfl rfl e20 (i) (by omega) hlt) ?_
   refine go 1 ?_
   refine o_v rfl (v_ldI he rfl (c20 0 _ rfl)) ?_
   refine go 1 ?_
   refine o_callV (refFewE _ _ l[i].options ⟨_, _, rfl, hS20, hd20, hm20⟩ 6) rfl rfl ?_
   refine go 3 ?_
   refine cb rfl (fun h24 p24 => ?_) (fun h24 p24 => ?_)
   ·refine go 11 ?_
    refine fin1 rfl rfl ?_
    exact q_v (congrArg Value.bool (by simp only [fewR, allP_not (f := fun _ r => fewE r.options 6) hlt (by simpa using h24), bS]))
   ·refine go 9 ?_
    exact q_next (i + 1) ⟨by omega, allP_succ hn hlt (by simpa using h24)⟩ (by omega) rfl sb rfl
  ·refine go 15 ?_
   refine fin1 rfl rfl ?_
   exact q_v (congrArg Value.bool (by rw [fewR, show decide (((l.length : Nat) : Int) ≤ n) = false from decide_eq_false (by omega)]; simp))
 ·refine go 7 ?_
  refine c_false rfl ?_
  refine go 15 ?_
  refine fin1 rfl rfl ?_
  have e : i = l.length := (by omega)
  subst e
  exact q_v (congrArg Value.bool (by simp only [fewR, hn, bS]))

end Go.Proofs.YtdapmfkbpnjkmaaGreat

/- The events that choices pick. -/
set_option linter.all false
namespace Go.Sx
open Go
def okK (r : Rep) (k : Int) : Bool := !(decide (k < 0) || decide (chs r ≤ k))
def evAt (l : List Rep) (ch : List Int) (i : Nat) : Option Evt := (at2 (fun r k => r.options[k.toNat]?) l ch i).join
def evsTo (l : List Rep) (ch : List Int) (n : Nat) : List Evt := (List.range n).filterMap (evAt l ch)
def pickedF (l : List Rep) (ch : List Int) : List Evt × Int := if (decide (((l.length : Nat) : Int) = (ch.length : Nat)) && allTo okK l ch l.length) = true then (evsTo l ch l.length, 0) else ([], 1)
theorem evs_succ (l : List Rep) (ch : List Int) (i : Nat) : evsTo l ch (i + 1) = evsTo l ch i ++ (evAt l ch i).toList := by
  rw [evsTo, List.range_succ, List.filterMap_append, evsTo]
  congr 1
theorem evAt_eq {l : List Rep} {ch : List Int} {i : Nat} (h1 : i < l.length) (h2 : i < ch.length) : evAt l ch i = l[i].options[ch[i].toNat]? := by
  rw [evAt, at2_eq h1 h2]; rfl
theorem evs_no {l : List Rep} {ch : List Int} {i : Nat} {out : List Evt} (h1 : i < l.length) (h2 : i < ch.length) (hw : evsTo l ch i = out) (h : ch[i] = (l[i].options.length : Nat)) : evsTo l ch (i + 1) = out := by
  rw [evs_succ, hw, evAt_eq h1 h2, List.getElem?_eq_none (by omega)]; simp
theorem evs_yes {l : List Rep} {ch : List Int} {i : Nat} {out : List Evt} (h1 : i < l.length) (h2 : i < ch.length) (hw : evsTo l ch i = out) (hk : ch[i].toNat < l[i].options.length) : evsTo l ch (i + 1) = out ++ [l[i].options[ch[i].toNat]] := by
  rw [evs_succ, hw, evAt_eq h1 h2, List.getElem?_eq_getElem hk]; rfl
theorem evs_len (l : List Rep) (ch : List Int) (i : Nat) : (evsTo l ch i).length ≤ i := by
  unfold evsTo
  exact Nat.le_trans (List.length_filterMap_le _ _) (by simp)
theorem chs_le (r : Rep) : chs r ≤ (r.options.length : Nat) + 1 := by
  unfold chs
  split
  · omega
  · split <;> omega
theorem picked_no {l : List Rep} {ch : List Int} (h : ¬ ((l.length : Nat) : Int) = (ch.length : Nat)) : pickedF l ch = ([], 1) := by
  simp [pickedF, h]
theorem picked_bad {l : List Rep} {ch : List Int} {i : Nat} (h1 : i < l.length) (h2 : i < ch.length) (h : okK l[i] ch[i] = false) : pickedF l ch = ([], 1) := by
  simp [pickedF, allTo_not h1 h1 h2 h]
theorem picked_ok {l : List Rep} {ch : List Int} (hl : ((l.length : Nat) : Int) = (ch.length : Nat)) (h : allTo okK l ch l.length = true) : pickedF l ch = (evsTo l ch l.length, 0) := by
  simp [pickedF, hl, h]
end Go.Sx

/- A row of a list: one element is written. -/
set_option linter.all false
namespace Go.Sx
open Go
section
variable {P : Program} {n : Sz} {E : Ent} {I : IMap} {L : LL} {H : List Res} {K : Act → World → Prop}
variable {α : Type} [Enc α]
theorem sx_rowF {v : Value} {e k m : Nat} {xs : List Value} {l : List α} (hF : Flat I xs l) (hk : k = Enc.k α) (hm : m = l.length) (h0 : 0 < l.length)
    (h : ∀ g cap rest xss, v = .slice (some ⟨g, 0, none⟩) m cap → FlatC I xss l → Uk k rest → m + rest.length = cap → cap ≤ maxLen → SX n E I L (.blk g e (xss ++ rest).flatten :: H) K) : SX n E I L (.row v e k m xs :: H) K := by
  obtain ⟨xss, rfl, hC⟩ := FlatC.of hF
  refine sx_row (xss := xss) (m := m) (by rw [hk]; exact hC.uk) (by rw [hC.len, hm]) (fun h1 _ => absurd h1 (by omega)) (fun g cap rest hv hR hc hl => h g cap rest xss hv hC hR hc hl)
theorem sx_unrowF {g e k m cap i : Nat} {xss rest : List (List Value)} {c : List Value} {l : List α} (x : α) (hC : FlatC I xss l) (hR : Uk k rest) (hk : k = Enc.k α) (hm : m = l.length) (hi : i < l.length) (hc : m + rest.length = cap) (hl : cap ≤ maxLen) (hx : Enc.rd I c x)
    (h : ∀ ws, Flat I ws (l.set i x) → SX n E I L (.row (.slice (some ⟨g, 0, none⟩) m cap) e k m ws :: H) K) : SX n E I L (.blk g e ((xss ++ rest).set i c).flatten :: H) K := by
  have hlen : i < xss.length := by rw [hC.len]; exact hi
  rw [List.set_append_left _ _ hlen]
  have hC' := hC.set hx i
  refine sx_unrow (by rw [hk]; exact hC'.uk) hR (by rw [hC'.len, List.length_set, hm]) hc hl (h _ hC'.flat)
theorem sx_rowslice {v : Value} {e k m : Nat} {xs : List Value} (h : ∀ A c, v = .slice A m c → SX n E I L (.row v e k m xs :: H) K) : SX n E I L (.row v e k m xs :: H) K := by
  refine sx_know (p := ∃ h, IsRow h v e k m xs) (fun w mm => ⟨_, mm.holds _ (List.mem_cons_self ..)⟩) fun ⟨_, _, hr⟩ => ?_
  rcases hr with ⟨rfl, rfl⟩ | ⟨g, cap, cur, rfl, _⟩
  · exact h _ _ rfl
  · exact h _ _ rfl
end
section
variable {α : Type} [Enc α] {I : IMap} {A : Option Addr} {m c : Nat} {l : List α}
theorem RdS.toA (h : RdS I (.slice A m c) l) : RdA I A l := by
  obtain ⟨_, _, e, h, _⟩ := h
  injection e with e1 e2 e3
  subst e1; exact h
theorem RdS.eqL (h : RdS I (.slice A m c) l) : m = l.length ∧ m ≤ c ∧ c ≤ 9223372036854775807 := by
  obtain ⟨_, _, e, _, h1, h2⟩ := h
  injection e with e1 e2 e3
  subst e3; exact ⟨e2, by omega, h2⟩
theorem RdS.takeM (h : RdS I (.slice A m c) l) (q : Nat) (hq : q ≤ l.length) : RdS I (.slice A q c) (l.take q) := by
  obtain rfl := h.eqL.1; exact h.take q hq
theorem RdS.dropM (h : RdS I (.slice A m c) l) (q : Nat) (hq : q ≤ l.length) : RdS I (.slice (cutA A c q (Enc.k α)) (m - q) (c - q)) (l.drop q) := by
  obtain rfl := h.eqL.1; exact h.drop q hq
theorem RdS.midM (h : RdS I (.slice A m c) l) (q r : Nat) (hq : q ≤ r) (hr : r ≤ l.length) : RdS I (.slice (cutA A c q (Enc.k α)) (r - q) (c - q)) ((l.take r).drop q) := by
  obtain rfl := h.eqL.1; exact h.mid q r hq hr
end
/-! a scope through which the run goes without a jump -/
section
variable {P : Program} {b : Frame} {a : Act} {k : List Item} {cs : List Frame} {w : World} {Q : Exit → Act → World → Prop} {F : Fence}
theorem stepR_scope {c : Code} : step P (lone (b.atR a (.code (.scope c) :: k)) cs w) = .next (lone (b.atR a (.code c :: .inScope c :: k)) cs w) :=
  step_lone_go (by simp [stepG, stepG.exec, Frame.atR])
theorem stepR_inScope {c : Code} : step P (lone (b.atR a (.inScope c :: k)) cs w) = .next (lone (b.atR a k) cs w) :=
  step_lone_go (by simp [stepG, stepG.exec, Frame.atR])
theorem wpIn_scope {n : Nat} {c : Code} (h : c.wpIn F n P (Exit.noGoto Q) a w) : (Code.scope c).wpIn F n P Q a w := by
  intro b k cs hro hb hr
  have h0 : (lone (b.atR a (.code (.scope c) :: k)) cs w).fenced P F := fenced_calm hb hr rfl
  obtain ⟨e, a₁, w₁, hq, harr⟩ := h b (.inScope c :: k) cs hro hb hr
  cases e with
  | normal => exact ⟨.normal, a₁, w₁, hq, .head h0 stepR_scope (StepsIn.trans harr (.one (fenced_calm hb hr rfl) stepR_inScope))⟩
  | exit id =>
    have hx : exitTo id (.inScope c :: k) = exitTo id k := by simp [exitTo]
    exact ⟨.exit id, a₁, w₁, hq, fun k' hk => .head h0 stepR_scope (harr.1 k' (by rw [hx]; exact hk)),
      fun hr' hk => let ⟨k₁, h1, h2⟩ := harr.2 hr' (by rw [hx]; exact hk); ⟨k₁, h1, .head h0 stepR_scope h2⟩⟩
  | goto l => exact hq.elim
  | ret => exact ⟨_, a₁, w₁, hq, .of_steps (.one h0 stepR_scope) harr⟩
  | panic ch => exact ⟨_, a₁, w₁, hq, .of_steps (.one h0 stepR_scope) harr⟩
  | outgrown => exact ⟨_, a₁, w₁, hq, .of_steps (.one h0 stepR_scope) harr⟩
end
section
variable {P : Program} {ρ : Option Nat} {n : Sz} {E : Ent} {I : IMap} {L : LL} {H : List Res} {Q : Exit → Act → World → Prop}
theorem c_scope {c : Code} (h : SX n E I L H (c.wq ρ P (Exit.noGoto Q))) : SX n E I L H ((Code.scope c).wq ρ P Q) := fun a w s m => wpIn_scope (h a w s m)
theorem c_label {l : Nat} (h : SX n E I L H (Q .normal)) : SX n E I L H ((Code.label l).wq ρ P Q) := fun a w s m => wpIn_label (h a w s m)
theorem q_ng_ret (h : SX n E I L H (Q .ret)) : SX n E I L H (Exit.noGoto Q .ret) := h
end
end Go.Sx

/- Walks, printed by a program out of the code of the functions: each theorem is a contract of one function. -/
namespace Go.Proofs.YtdapmfkbpnjkmaaGreat
open Go Go.Sx
set_option linter.all false
set_option maxRecDepth 20000
set_option maxHeartbeats 4000000
theorem repPicked (I : IMap) (v : Value) (l : List Rep) (hv : RdS I v l) (hl : l.length ≤ 1000000) (hsl : ∀ r ∈ l, ∀ e ∈ r.options, SmE e) (w : Value) (ch : List Int) (hw : RdS I w ch) :
    FnI Tryz.prog 43 #[v, w] I (fun u J => ∃ z, u = .tuple #[z, .int .i64 (pickedF l ch).2] ∧ RdS J z (pickedF l ch).1) := by
 obtain ⟨A, c0, rfl, hA, hc, hm⟩ := hv
 obtain ⟨B, c1, rfl, hB, hc1, hm1⟩ := hw
 refine enter Tryz.func43 Tryz.call43 rfl Tryz.ntmps43 rfl (fun w0 => ?_)
 refine go 6 ?_
 refine c_scope ?_
 refine go 10 ?_
 refine cb rfl (fun h14 p14 => ?_) (fun h14 p14 => ?_)
 ·refine go 8 ?_
  refine q_ng_ret ?_
  refine fin2 rfl rfl rfl ?_
  exact q_i ⟨_, by rw [picked_no (by simpa using h14)], by rw [picked_no (by simpa using h14)]; exact RdS.nil'⟩
 ·have hle : ((l.length : Nat) : Int) = (ch.length : Nat) := by simpa using h14
  refine go 4 ?_
  refine sx_nilrow 96 14 ?_
  refine go 4 ?_
  refine c_label ?_
  refine go 10 ?_
  refine c_loop4 ((0 : Nat)) (_) ([]) ([]) (fun i v6 xs out => I)
   (fun i v6 xs out => [(1, .slice B ch.length c1), (6, v6), (15, .slice A l.length c0), (16, .int .i64 ((l.length : Nat) : Int)), (17, .int .i64 ((i : Nat) : Int))])
   (fun i v6 xs out => [.row v6 96 14 out.length xs])
   (fun i v6 xs out => i ≤ l.length ∧ allTo okK l ch i = true ∧ evsTo l ch i = out ∧ Flat I xs out)
   (fun i v6 xs out => l.length - i) ⟨Nat.zero_le _, rfl, rfl, .nil⟩ rfl sb rfl ?_
  intro i v6 xs out ⟨hi, hok, hev, hF⟩
  have hol : out.length ≤ i := by rw [← hev]; exact evs_len _ _ _
  refine go 6 ?_
  refine cb rfl (fun h18 p18 => ?_) (fun h18 p18 => ?_)
  ·have hlt : i < l.length := by omega
   have hlt2 : i < ch.length := by omega
   refine go 7 ?_
   obtain ⟨b20, o20, w20, e20, c20, r20⟩ := RdA.at_ hA (i := i) (by omega)
   obtain ⟨q20, rfl, S20, d20, rfl, hS20, hd20, hm20⟩ := r20
   refine o_v rfl (v_idx he rfl rfl e20 (i) (by omega) (by omega)) ?_
   refine o_v rfl (v_ldIa he rfl c20 rfl) ?_
   refine go 1 ?_
   refine o_alloc he rfl (fun g8 => ?_)
   refine go 2 ?_
   refine o_stw _ he rfl rfl rfl rfl rfl rfl ?_
   refine go 6 ?_
   obtain ⟨b24, o24, w24, e24, c24, r24⟩ := RdA.at_ hB (i := i) (by omega)
   obtain rfl := r24
   refine o_v rfl (v_idx he rfl rfl e24 (i) (by omega) (by omega)) ?_
   refine o_v rfl (v_ldI he rfl (c24 0 _ rfl)) ?_
   refine go 9 ?_
   refine sxb 28 rfl (fun h28 p28 => ?_) (fun h28 p28 => ?_)
   ·have hbad : okK l[i] ch[i] = false := by simp [okK, h28]
    refine go 7 ?_
    refine c_true rfl ?_
    refine go 13 ?_
    refine q_ng_ret ?_
    refine fin2 rfl rfl rfl ?_
    exact q_i ⟨_, by rw [picked_bad hlt hlt2 hbad], by rw [picked_bad hlt hlt2 hbad]; exact RdS.nil'⟩
   ·refine go 3 ?_
    refine o_yes rfl rfl h28 (o_callV (repChoices _ l[i] S20 d20 ⟨_, _, rfl, hS20, hd20, hm20⟩ (hsl _ (List.getElem_mem hlt))) rfl rfl ?_)
    refine go 4 ?_
    refine cb rfl (fun h33 p33 => ?_) (fun h33 p33 => ?_)
    ·have hbad : okK l[i] ch[i] = false := by simp_all [okK]
     refine go 13 ?_
     refine q_ng_ret ?_
     refine fin2 rfl rfl rfl ?_
     exact q_i ⟨_, by rw [picked_bad hlt hlt2 hbad], by rw [picked_bad hlt hlt2 hbad]; exact RdS.nil'⟩
    ·have hgood : okK l[i] ch[i] = true := by simp_all [okK]
     have hcl := chs_le l[i]
     refine go 12 ?_
     refine cb rfl (fun h38 p38 => ?_) (fun h38 p38 => ?_)
     ·refine go 9 ?_
      refine sx_drop ?_
      exact q_next4 (i + 1) (_) (_) (out) ⟨by omega, allTo_succ hok hlt hlt2 hgood, evs_no hlt hlt2 hev (by simpa using h38), hF⟩ (by omega) rfl sb (by first | rfl | (simp only [List.length_append, List.length_singleton]; rfl) | simp only [List.length_append, List.length_singleton])
     ·have hk : ch[i].toNat < l[i].options.length := by simp_all [okK]; omega
      refine go 7 ?_
      obtain ⟨b43, o43, w43, e43, c43, r43⟩ := RdA.at_ hS20 (i := ch[i].toNat) hk
      obtain rfl := r43
      refine o_v rfl (v_idx he rfl rfl e43 (ch[i].toNat) (by omega) hk) ?_
      refine o_v rfl (v_ldIa he rfl c43 rfl) ?_
      refine go 1 ?_
      refine o_buildSlice he he rfl rfl rfl rfl rfl rfl rfl (fun v45 => ?_)
      refine go 1 ?_
      refine bring2 ?_
      refine o_appendO he he rfl rfl rfl rfl rfl (by omega) (by omega) rfl (fun v46 => ?_)
      refine go 9 ?_
      refine bring1 ?_
      refine sx_drop ?_
      refine bring1 ?_
      refine sx_drop ?_
      exact q_next4 (i + 1) (_) (_) (out ++ [l[i].options[ch[i].toNat]]) ⟨by omega, allTo_succ hok hlt hlt2 hgood, evs_yes hlt hlt2 hev hk, hF.append (.one rfl)⟩ (by omega) rfl sb (by first | rfl | (simp only [List.length_append, List.length_singleton]; rfl) | simp only [List.length_append, List.length_singleton])
  ·refine go 7 ?_
   obtain rfl : i = l.length := by omega
   refine sx_pubrow (l := out) rfl rfl (hF) (fun Ip jp Rp => ?_)
   refine go 6 ?_
   refine q_ng_ret ?_
   refine fin2 rfl rfl rfl ?_
   exact q_i ⟨_, by rw [picked_ok hle hok], by rw [picked_ok hle hok, hev]; exact Rp⟩

end Go.Proofs.YtdapmfkbpnjkmaaGreat

/- Lists of texts in a block: their order does not matter, their elements do. -/
set_option linter.all false
namespace Go.Sx
open Go
def strCh (l : List ByteArray) : List (List Value) := l.map fun s => [.string s]
theorem str_uk (l : List ByteArray) : Uk 1 (strCh l) := fun c hc => by obtain ⟨e, _, rfl⟩ := List.mem_map.1 hc; rfl
theorem str_len (l : List ByteArray) : (strCh l).length = l.length := by simp [strCh]
theorem str_flat (I : IMap) : ∀ l : List ByteArray, FlatC I (strCh l) l
  | [] => .nil
  | s :: r => .cons rfl (str_flat I r)
theorem str_of {I : IMap} {xss : List (List Value)} {l : List ByteArray} (h : FlatC I xss l) : xss = strCh l := by
  induction h with
  | nil => rfl
  | cons h1 _ ih => rw [ih]; simp only [strCh, List.map_cons]; rw [show _ = _ from h1]
theorem str_at {l : List ByteArray} {rest : List (List Value)} {i : Nat} (h : i < l.length) : (strCh l ++ rest)[i]? = some [.string l[i]] := by
  rw [List.getElem?_append_left (by rw [str_len]; exact h)]; simp [strCh, h]
theorem str_set {l : List ByteArray} {rest : List (List Value)} {i : Nat} (h : i < l.length) (s : ByteArray) : (strCh l ++ rest).set i [.string s] = strCh (l.set i s) ++ rest := by
  rw [List.set_append_left _ _ (by rw [str_len]; exact h)]
  congr 1
  simp [strCh, List.map_set]
/-- of the same elements -/
def Pm (l m : List ByteArray) : Prop := m.length = l.length ∧ ∀ x, x ∈ m ↔ x ∈ l
theorem Pm.refl (l : List ByteArray) : Pm l l := ⟨rfl, fun _ => Iff.rfl⟩
theorem Pm.swap {l m : List ByteArray} {i j : Nat} (h : Pm l m) (hi : i < m.length) (hj : j < m.length) : Pm l ((m.set i m[j]).set j m[i]) := by
  have hp : ((m.set i m[j]).set j m[i]).Perm m := List.set_set_perm hi hj
  exact ⟨by rw [List.length_set, List.length_set]; exact h.1, fun x => by rw [hp.mem_iff]; exact h.2 x⟩
theorem str_swp {l : List ByteArray} {rest : List (List Value)} {i j : Nat} (hi : i < l.length) (hj : j < l.length) : ((strCh l ++ rest).set i [.string l[j]]).set j [.string l[i]] = strCh ((l.set i l[j]).set j l[i]) ++ rest := by
  rw [str_set hi, str_set (by rw [List.length_set]; exact hj)]
theorem str_swp' {l : List ByteArray} {rest : List (List Value)} {i j : Nat} (hi : i < l.length) (hj : j < l.length) (hij : i ≠ j) : ((strCh l ++ rest).set j [.string l[i]]).set i [.string l[j]] = strCh ((l.set i l[j]).set j l[i]) ++ rest := by
  rw [str_set hj, str_set (by rw [List.length_set]; exact hi), List.set_comm _ _ hij.symm]
theorem flat_take1 {α : Type} {ls : List (List α)} {i : Nat} (h : i < ls.length) : (ls.take (i + 1)).flatten = (ls.take i).flatten ++ ls[i] := by
  rw [← take_succ_of h, List.flatten_append]; simp
theorem flat_lenLe {α : Type} (ls : List (List α)) (i : Nat) : ((ls.take i).flatten).length ≤ ls.flatten.length := by
  conv => rhs; rw [← List.take_append_drop i ls, List.flatten_append, List.length_append]
  omega
theorem conv_u8 (b : UInt8) : IntKind.i64.wrap ((b.toNat : Nat) : Int) = ((b.toNat : Nat) : Int) := by
  have := b.toNat_lt; rw [IntKind.wrap_i64]; omega
theorem conv_add (b : UInt8) : I64 (0 + ((b.toNat : Nat) : Int)) := by
  have := b.toNat_lt; exact ⟨by omega, by omega⟩
/-- the names that a report mentions, in whatever order -/
def NamesOf (r : Rep) (ns : List ByteArray) : Prop := (∀ x, x ∈ ns ↔ validRep r = true ∧ ∃ e ∈ r.options, x ∈ namesE e) ∧ ns.length ≤ 8
theorem namesE_len {e : Evt} (h : validE e = true) : 1 ≤ (namesE e).length ∧ (namesE e).length ≤ 2 := by
  unfold namesE
  rw [if_neg (by rw [h]; decide)]
  split <;> simp
theorem names_flat : ∀ (l : List Evt), (∀ e ∈ l, validE e = true) → l.length ≤ (l.map namesE).flatten.length ∧ (l.map namesE).flatten.length ≤ 2 * l.length
  | [], _ => by simp
  | e :: r, h => by
    have h1 := namesE_len (h e (by simp))
    have h2 := names_flat r fun x hx => h x (by simp [hx])
    simp only [List.map_cons, List.flatten_cons, List.length_append, List.length_cons]
    omega
theorem names_of_rep {r : Rep} (hv : validRep r = true) {m : List ByteArray} (hm : ∀ x, x ∈ m ↔ x ∈ (r.options.map namesE).flatten) (hl : m.length ≤ (r.options.map namesE).flatten.length) : NamesOf r m := by
  have h1 := names_flat r.options (validRep_e hv)
  have h2 := validRep_len hv
  refine ⟨fun x => ?_, by omega⟩
  rw [hm x, List.mem_flatten]
  constructor
  · rintro ⟨ns, hns, hx⟩
    obtain ⟨e, he, rfl⟩ := List.mem_map.1 hns
    exact ⟨hv, e, he, hx⟩
  · rintro ⟨_, e, he, hx⟩
    exact ⟨_, List.mem_map.2 ⟨e, he, rfl⟩, hx⟩
theorem names_none {r : Rep} (hv : validRep r = false) : NamesOf r [] := ⟨fun x => by simp [hv], by simp⟩
/-! what is left of a list of texts without repetitions -/
structure Cpt (l B : List ByteArray) (k p : Nat) : Prop where
  len : B.length = l.length
  kp : k + 1 ≤ p
  pl : p ≤ l.length
  tail : ∀ j, p - 1 ≤ j → B[j]? = l[j]?
  mem : ∀ x, x ∈ B.take k ↔ x ∈ l.take p
theorem Cpt.start {l : List ByteArray} {k : Nat} (hk : 1 ≤ k) (hl : k < l.length) (h : l[k] = l[k - 1]) : Cpt l l k (k + 1) := by
  refine ⟨rfl, Nat.le_refl _, hl, fun _ _ => rfl, fun x => ?_⟩
  rw [← take_succ_of hl]
  constructor
  · intro hx; exact List.mem_append_left _ hx
  · intro hx
    rcases List.mem_append.1 hx with hx | hx
    · exact hx
    · obtain rfl := List.mem_singleton.1 hx
      rw [h]
      exact List.mem_take_iff_getElem.2 ⟨k - 1, by omega, rfl⟩
theorem Cpt.skip {l B : List ByteArray} {k p : Nat} (h : Cpt l B k p) (hp : p < l.length) (he : l[p] = l[p - 1]) (h1 : 1 ≤ p) : Cpt l B k (p + 1) := by
  refine ⟨h.len, by have := h.kp; omega, hp, fun j hj => h.tail j (by omega), fun x => ?_⟩
  rw [h.mem x, ← take_succ_of hp]
  constructor
  · intro hx; exact List.mem_append_left _ hx
  · intro hx
    rcases List.mem_append.1 hx with hx | hx
    · exact hx
    · obtain rfl := List.mem_singleton.1 hx
      rw [he]
      exact List.mem_take_iff_getElem.2 ⟨p - 1, by omega, rfl⟩
theorem Cpt.keep {l B : List ByteArray} {k p : Nat} (h : Cpt l B k p) (hp : p < l.length) : Cpt l (B.set k l[p]) (k + 1) (p + 1) := by
  have hkp := h.kp
  have hkB : k < B.length := by rw [h.len]; omega
  refine ⟨by rw [List.length_set]; exact h.len, by omega, hp, fun j hj => ?_, fun x => ?_⟩
  · rw [List.getElem?_set_ne (by omega)]; exact h.tail j (by omega)
  · rw [← take_succ_of (l := B.set k l[p]) (i := k) (by rw [List.length_set]; exact hkB), ← take_succ_of hp, List.mem_append, List.mem_append, List.getElem_set_self, List.take_set_of_le (Nat.le_refl _), h.mem x]
theorem Cpt.get {l B : List ByteArray} {k p j : Nat} (h : Cpt l B k p) (hj : p - 1 ≤ j) (hl : j < l.length) (hb : j < B.length) : B[j] = l[j] := by
  have := h.tail j hj
  rw [List.getElem?_eq_getElem hl, List.getElem?_eq_getElem hb] at this
  exact Option.some.inj this
theorem Cpt.done {l B : List ByteArray} {k : Nat} (h : Cpt l B k l.length) (x : ByteArray) : x ∈ B.take k ↔ x ∈ l := by
  rw [h.mem x, List.take_length]
theorem str_clear {B : List ByteArray} {rest : List (List Value)} {zs : List Value} {k m : Nat} (hk : k + m = B.length) : (strCh B ++ rest).take k ++ (List.replicate m zs ++ (strCh B ++ rest).drop (k + m)) = strCh (B.take k) ++ (List.replicate m zs ++ rest) := by
  rw [List.take_append_of_le_length (by rw [str_len]; omega), hk, ← str_len B, List.drop_left, strCh, strCh, List.map_take]
section
variable {P : Program} {ρ : Option Nat} {n : Sz} {E : Ent} {I : IMap} {L : LL} {H : List Res} {Q : Exit → Act → World → Prop} {ops : Array Oper} {K : Act → World → Prop}
variable {d ty : Nat} {pos : String} {af : Array Edge} {x y z : Operand}
/-- a cell of a block of chunks of one -/
theorem v_lds {g off tt t' : Nat} {xss : List (List Value)} {v : Value} (hm : Res.blk g t' xss.flatten ∈ H) (hU : Uk 1 xss) (ht : tyK P tt = some (false, 1)) (hx : ev L x = some (.pointer (some ⟨g, off, none⟩))) (i : Nat) (ho : off = i) (hi : xss[i]? = some [v]) :
    OV P n E I L H ⟨some d, .load tt x, ty, pos, af, none⟩ v := v_ld hm ht hx (by
  subst ho
  have h := flat_at hU hi
  rw [Nat.mul_one] at h
  have := congrArg (fun l : List Value => l[0]?) h
  simpa using this)
theorem v_sidxK {ts : Nat} {s : ByteArray} {i : Int} {kd : IntKind} (ht : P.underlying ts = some .string) (hx : ev L x = some (.string s)) (hy : ev L y = some (.int kd i)) (q : Nat) (hq : i = (q : Int)) (hlt : q < s.size) : OV P n E I L H ⟨some d, .index ts x y, ty, pos, af, none⟩ (.int .u8 ((s[q]!.toNat : Nat) : Int)) :=
  (fun a w st _ => by
    subst hq
    have hs : s[q]? = some (s[q]!) := by rw [getElem?_pos s q hlt, getElem!_pos s q hlt]
    simp [execOp, st.ev hx, st.ev hy, Instr.index, asIntOf, run_underlying ht, hs])
/-- append(nil, make([]T, q)...) -/
theorem o_appendMake0 {tt tn e k bytes q : Nat} {kn kq : IntKind} {zs : List Value} (he : P.underlying tt = some (.slice e)) (hn : P.underlying tn = some (.int kn)) (hb : bytesK P e = some (zs, k, bytes)) (hzs : zs.length = k) (hk0 : Nat.blt 0 k = true)
    (hx : ev L x = some (.slice none 0 0)) (hy : ev L y = some (.int kq (q : Nat))) (hq : 0 < q) (hroom : q * bytes ≤ 140737488355328) (hlen : q ≤ maxLen) (hd : Nat.blt d n.sz = true)
    (kk : ∀ g' r, q + r ≤ maxLen → SX n E I ((d, .slice (some ⟨g', 0, none⟩) q (q + r)) :: L) (.blk g' e (List.replicate (q + r) zs).flatten :: H) K) :
    SX n E I L H (one P ops Q ⟨some d, .call { callee := .builtin .append, args := #[x, y], argTypes := #[tt, tn] }, ty, pos, af, none⟩ K) :=
  o_gen (fun q' : Nat × Nat => .slice (some ⟨q'.1, 0, none⟩) q (q + q'.2)) (fun _ => I) (fun q' => .blk q'.1 e (List.replicate (q + q'.2) zs).flatten :: H) (fun q' => q + q'.2 ≤ maxLen) hd
    (fun a w st mm => by
      unfold bytesK at hb
      split at hb
      · rename_i inf hi
        cases hz : inf.zero with
        | none => simp [hz] at hb
        | some z0 =>
          simp only [hz, Option.map_some, Option.some.injEq, Prod.mk.injEq] at hb
          obtain ⟨hz1, hz2, hz3⟩ := hb
          have hk' : 0 < k := by simpa [Nat.blt_eq] using hk0
          have hz0 : z0.cells = zs.toArray := by rw [← hz1]
          have hold : (Builtin.firstCells inf.size 0 (.slice none 0 0)).run P w.drew = .ok ([] : List Value).toArray w.drew := by
            have hl0 : ∀ (b : Addr), (loadCells b 0).run P w.drew = .ok #[] w.drew := fun b => run_loadCells_list (P := P) w.drew b [] (fun j v hv => by simp at hv)
            simp [Builtin.firstCells, hl0]
          have hg : 0 < 0 + q := by omega
          have hcapq : grownCap w (0 + q) 0 e = q + (grownCap w (0 + q) 0 e - q) := by have := grownCap_ge w (0 + q) 0 e; omega
          have h48 : Builtin.nextslicecap (0 + q) 0 * inf.bytes ≤ 281474976710656 := by
            have h1 : Builtin.nextslicecap (0 + q) 0 * inf.bytes ≤ 2 * (0 + q) * inf.bytes := Nat.mul_le_mul_right _ (Room.nextslicecap_le' hg)
            rw [Nat.mul_assoc, hz3] at h1
            rw [hz3]
            simp only [Nat.zero_add] at h1 ⊢
            omega
          have h48q : q * inf.bytes ≤ 281474976710656 := by rw [hz3]; omega
          have hr := Lib.run_append_grow_zeros (P := P) w tt tn ty e inf z0 kq kn he hn hi hz none 0 0 [] hold q hq (by omega) hg (by unfold maxLen at hlen; omega) h48q h48
          have hzc : ∀ q, Builtin.zeroCells z0.cells q = (List.replicate q zs).flatten.toArray := fun q => by
            have h2 : Builtin.zeroCells zs.toArray q = madeCells zs.toArray (q * zs.length) := by simp [Builtin.zeroCells, madeCells]
            rw [hz0, h2, zrep_made zs (by omega), zrep_flat]
          rw [hzc, hzc] at hr
          simp only [Nat.zero_add] at hr hcapq
          refine ⟨(w.heap.size, grownCap w q 0 e - q), w.drew.alloc (.cells (List.replicate (q + (grownCap w q 0 e - q)) zs).flatten.toArray e), ?_, ?_, mm.drew.alloc e _⟩
          · show q + (grownCap w q 0 e - q) ≤ maxLen
            rw [← hcapq]
            exact grownCap_le_maxLen w q 0 e hlen
          · have e1 : ([] : List Value).toArray ++ (List.replicate q zs).flatten.toArray ++ (List.replicate (grownCap w q 0 e - q) zs).flatten.toArray = (List.replicate (q + (grownCap w q 0 e - q)) zs).flatten.toArray := by
              rw [List.append_toArray []  , List.nil_append, List.append_toArray, ← List.flatten_append, List.replicate_append_replicate]
            rw [e1] at hr
            simp only [execOp, resolve, invoke, builtin, Sem.run_bind, Sem.run_pure, Result.andThen_ok, List.map_toArray, List.map_cons, List.map_nil, st.ev hx, st.ev hy, hr]
            rw [← hcapq]
      · cases hb) fun q' hq' => kk q'.1 q'.2 hq'
theorem FnX.backE {f : FuncId} {args : Array Value} {g e k : Nat} {xs : List Value} {p : Value → Res → Prop}
    (h : FnX P f args I [.blk g e xs] (fun u r => ∃ yss rest m cap, Uk k yss ∧ Uk k rest ∧ yss.length = m ∧ m + rest.length = cap ∧ cap ≤ maxLen ∧ r = .blk g e (yss ++ rest).flatten ∧ p u (.row (.slice (some ⟨g, 0, none⟩) m cap) e k m yss.flatten))) : FnX P f args I [.blk g e xs] p :=
  ⟨fun w m' => (h.go w m').mono fun _ w' ⟨u, I', H', he, hm', hq⟩ => by
    obtain ⟨rfl, r', rfl, yss, rest, m, cap, hU, hR, hm, hc, hl, rfl, hp⟩ := hq
    refine ⟨_, _, _, he, ?_, rfl, _, rfl, hp⟩
    have hb : w'.heap[g]? = some (.cells (yss ++ rest).flatten.toArray e (0, 0)) := hm'.blk
    exact hm'.step rfl ⟨rfl, Nat.le_refl _⟩ rfl (Nat.le_refl _) (fun _ _ _ => rfl) (IsRow.shut hb hU hR hm hc hl) (fun g' hg' => .inl hg')⟩
theorem FnX.weak {f : FuncId} {args : Array Value} {H : List Res} {p q : Value → Res → Prop} (h : FnX P f args I H p) (hpq : ∀ u r, p u r → q u r) : FnX P f args I H q :=
  ⟨fun w m' => (h.go w m').mono fun _ w' ⟨u, I', H', he, hm', hq⟩ => by
    obtain ⟨rfl, r', rfl, hp⟩ := hq
    exact ⟨_, _, _, he, hm', rfl, _, rfl, hpq _ _ hp⟩⟩
theorem FnX.of_rowF {α : Type} [Enc α] {f : FuncId} {args : Value → List Value} {p : Value → Res → Prop} {v : Value} {e k m : Nat} {xs : List Value} {l : List α} (hF : Flat I xs l) (hk : k = Enc.k α) (hm : m = l.length) (h0 : 0 < l.length)
    (h1 : ∀ g cap rest xss, v = .slice (some ⟨g, 0, none⟩) m cap → FlatC I xss l → Uk k rest → m + rest.length = cap → cap ≤ maxLen → FnX P f (args (.slice (some ⟨g, 0, none⟩) m cap)).toArray I [.blk g e (xss ++ rest).flatten] p) : FnX P f (args v).toArray I [.row v e k m xs] p := by
  obtain ⟨xss, rfl, hC⟩ := FlatC.of hF
  exact FnX.of_rowV (by rw [hk]; exact hC.uk) (by rw [hC.len, hm]) (fun h _ => absurd h (by omega)) fun g cap rest hv hR hc hl => h1 g cap rest xss hv hC hR hc hl
end
end Go.Sx

/- Walks, printed by a program out of the code of the functions: each theorem is a contract of one function. -/
namespace Go.Proofs.YtdapmfkbpnjkmaaGreat
open Go Go.Sx
set_option linter.all false
set_option maxRecDepth 20000
set_option maxHeartbeats 4000000
instance T.und_345 : Has (Tryz.prog.underlying 345) (.int .u64) := ⟨by kernel_rfl⟩
theorem isNaNS (I : IMap) (s : ByteArray) :
    FnV Tryz.prog 109 #[.string s] I (.bool false) := by
 refine enter Tryz.func109 Tryz.call109 rfl Tryz.ntmps109 rfl (fun w0 => ?_)
 refine go 14 ?_
 refine fin1 rfl rfl ?_
 exact q_v (congrArg Value.bool (by simp))

theorem lessS (I : IMap) (s t : ByteArray) :
    FnV Tryz.prog 277 #[.string s, .string t] I (.bool (sLt s t)) := by
 refine enter Tryz.func277 Tryz.call277 rfl Tryz.ntmps277 rfl (fun w0 => ?_)
 refine go 9 ?_
 refine o_callV (isNaNS _ s) rfl rfl ?_
 refine go 14 ?_
 refine fin1 rfl rfl ?_
 exact q_v rfl

theorem insStr (I : IMap) {rest : Rst 1} {cap : Nat} (g : Nat) (l : List ByteArray) (hl2 : l.length ≤ 12) (hc : l.length + rest.l.length = cap) (hcm : cap ≤ maxLen) :
    FnX Tryz.prog 271 #[.slice (some ⟨g, 0, none⟩) l.length cap, .int .i64 0, .int .i64 ((l.length : Nat) : Int)] I [.blk g 9 (strCh l ++ rest.l).flatten] (fun u r => u = .tuple #[] ∧ ∃ m, Pm l m ∧ r = .blk g 9 (strCh m ++ rest.l).flatten) := by
 refine enter Tryz.func271 Tryz.call271 rfl Tryz.ntmps271 rfl (fun w0 => ?_)
 refine go 3 ?_
 refine o_v rfl (OV.cast (u := .int .i64 ((1 : Nat) : Int)) (v_add rfl rfl ⟨by omega, by omega⟩) (congrArg (Value.int .i64) (by omega))) ?_
 refine go 4 ?_
 refine c_loop2 (1) (l) (fun i m => I)
  (fun i m => [(0, .slice (some ⟨g, 0, none⟩) l.length cap), (1, .int .i64 0), (2, .int .i64 ((l.length : Nat) : Int)), (6, .int .i64 ((i : Nat) : Int))])
  (fun i m => [.blk g 9 (strCh m ++ rest.l).flatten])
  (fun i m => (i ≤ l.length ∨ i = 1) ∧ Pm l m)
  (fun i m => l.length - i) ⟨.inr rfl, Pm.refl l⟩ rfl sb rfl ?_
 intro i m ⟨hi, hpm⟩
 refine go 8 ?_
 refine cb rfl (fun h12 p12 => ?_) (fun h12 p12 => ?_)
 ·have hlt : i < l.length := by omega
  refine go 11 ?_
  refine c_loop2 (i) (m) (fun j k => I)
   (fun j k => [(0, .slice (some ⟨g, 0, none⟩) l.length cap), (1, .int .i64 0), (2, .int .i64 ((l.length : Nat) : Int)), (6, .int .i64 ((i : Nat) : Int)), (7, .int .i64 ((j : Nat) : Int))])
   (fun j k => [.blk g 9 (strCh k ++ rest.l).flatten])
   (fun j k => j ≤ i ∧ Pm l k)
   (fun j k => j) ⟨Nat.le_refl _, hpm⟩ rfl sb rfl ?_
  intro j k ⟨hj, hpk⟩
  have hkl := hpk.1
  refine go 2 ?_
  refine d_startH T.mixed ?_
  refine d_tv 0 rfl rfl (by kernel_rfl) rfl (.refl _) rfl (v_move rfl) ?_
  refine d_tv 1 rfl rfl (by kernel_rfl) rfl (.refl _) rfl (v_move rfl) ?_
  refine d_tv 2 rfl rfl (by kernel_rfl) rfl (.refl _) rfl (v_gtr rfl rfl) ?_
  refine d_tv 3 rfl rfl (by kernel_rfl) rfl (.refl _) rfl (v_move rfl) ?_
  refine sxb 19 rfl (fun h19 p19 => ?_) (fun h19 p19 => ?_)
  ·have hjk : j < k.length := by omega
   have hjk1 : j - 1 < k.length := by omega
   refine d_t 4 rfl rfl (by kernel_rfl) rfl (fun _ m => m.keeps (.refl _)) (y_yes rfl rfl h19 (v_move rfl)) ?_
   refine d_t 5 rfl rfl (by kernel_rfl) rfl (fun _ m => m.keeps (.refl _)) (y_yes rfl rfl h19 (v_move rfl)) ?_
   refine d_t 6 rfl rfl (by kernel_rfl) rfl (fun _ m => m.keeps (.refl _)) (y_yes rfl rfl h19 (v_idx he rfl rfl rfl (j) (by omega) (by omega))) ?_
   refine d_t 7 rfl rfl (by kernel_rfl) rfl (fun _ m => m.keeps (.refl _)) (y_yes rfl rfl h19 (v_lds m0 (Uk.append (str_uk _) rest.uk) he rfl (j) (by omega) (str_at hjk))) ?_
   refine d_t 8 rfl rfl (by kernel_rfl) rfl (fun _ m => m.keeps (.refl _)) (y_yes rfl rfl h19 (v_move rfl)) ?_
   refine d_t 9 rfl rfl (by kernel_rfl) rfl (fun _ m => m.keeps (.refl _)) (y_yes rfl rfl h19 (v_move rfl)) ?_
   refine d_t 10 rfl rfl (by kernel_rfl) rfl (fun _ m => m.keeps (.refl _)) (y_yes rfl rfl h19 (OV.cast (u := .int .i64 ((j - 1 : Nat) : Int)) (v_sub rfl rfl ⟨by omega, by omega⟩) (congrArg (Value.int .i64) (by omega)))) ?_
   refine d_t 11 rfl rfl (by kernel_rfl) rfl (fun _ m => m.keeps (.refl _)) (y_yes rfl rfl h19 (v_idx he rfl rfl rfl (j - 1) (by omega) (by omega))) ?_
   refine d_t 12 rfl rfl (by kernel_rfl) rfl (fun _ m => m.keeps (.refl _)) (y_yes rfl rfl h19 (v_lds m0 (Uk.append (str_uk _) rest.uk) he rfl (j - 1) (by omega) (str_at hjk1))) ?_
   refine d_one 13 (by kernel_rfl) rfl ?_
   refine o_yes rfl rfl h19 (o_callV (lessS _ _ _) rfl rfl ?_)
   refine d_on (fun _ m => m.keeps (.refl _)) ?_
   refine d_tv 14 rfl rfl (by kernel_rfl) rfl (.refl _) rfl (v_and_t h19 rfl rfl) ?_
   refine d_done (by kernel_rfl) ?_
   refine go 1 ?_
   refine cb rfl (fun h30 p30 => ?_) (fun h30 p30 => ?_)
   ·refine go 4 ?_
    refine d_start1 T.mixed ?_
    refine d_tv 0 rfl rfl (by kernel_rfl) rfl (.cons _ .slnil) rfl (v_move rfl) ?_
    refine d_tv 1 rfl rfl (by kernel_rfl) rfl (.cons _ .slnil) rfl (v_move rfl) ?_
    refine d_tv 2 rfl rfl (by kernel_rfl) rfl (.cons _ .slnil) rfl (v_move rfl) ?_
    refine d_tv 3 rfl rfl (by kernel_rfl) rfl (.cons _ .slnil) rfl (v_move rfl) ?_
    refine d_tv 4 rfl rfl (by kernel_rfl) rfl (.cons _ .slnil) rfl (OV.cast (u := .int .i64 ((j - 1 : Nat) : Int)) (v_sub rfl rfl ⟨by omega, by omega⟩) (congrArg (Value.int .i64) (by omega))) ?_
    refine d_tv 5 rfl rfl (by kernel_rfl) rfl (.cons _ .slnil) rfl (v_move rfl) ?_
    refine d_tv 6 rfl rfl (by kernel_rfl) rfl (.cons _ .slnil) rfl (v_move rfl) ?_
    refine d_tv 7 rfl rfl (by kernel_rfl) rfl (.cons _ .slnil) rfl (OV.cast (u := .int .i64 ((j - 1 : Nat) : Int)) (v_sub rfl rfl ⟨by omega, by omega⟩) (congrArg (Value.int .i64) (by omega))) ?_
    refine d_tv 8 rfl rfl (by kernel_rfl) rfl (.cons _ .slnil) rfl (v_idx he rfl rfl rfl (j - 1) (by omega) (by omega)) ?_
    refine d_tv 10 rfl rfl (by kernel_rfl) rfl (.cons _ .slnil) rfl (v_move rfl) ?_
    refine d_tv 11 rfl rfl (by kernel_rfl) rfl (.cons _ .slnil) rfl (v_move rfl) ?_
    refine d_tv 12 rfl rfl (by kernel_rfl) rfl (.cons _ .slnil) rfl (v_idx he rfl rfl rfl (j) (by omega) (by omega)) ?_
    refine d_two 9 13 (by kernel_rfl) rfl rfl ?_ ?_
    ·refine o_val rfl (v_lds m0 (Uk.append (str_uk _) rest.uk) he rfl (j - 1) (by omega) (str_at hjk1)) ?_
     refine d_on (fun _ m => m.keeps (.cons _ .slnil)) ?_
     refine d_one 13 (by kernel_rfl) rfl ?_
     refine o_val rfl (v_lds m0 (Uk.append (str_uk _) rest.uk) he rfl (j) (by omega) (str_at hjk)) ?_
     refine d_on (fun _ m => m.keeps (.cons _ .slnil)) ?_
     refine d_tv 14 rfl rfl (by kernel_rfl) rfl (.cons _ .slnil) rfl (v_idx he rfl rfl rfl (j) (by omega) (by omega)) ?_
     refine d_one 15 (by kernel_rfl) rfl ?_
     refine o_stc _ (j) (by first | exact Uk.append (str_uk _) rest.uk | exact (Uk.append (str_uk _) rest.uk).set rfl _) he rfl rfl rfl rfl rfl (by omega) (by simp [str_len]; omega) ?_
     refine d_on (fun _ m => m.keeps (.cons _ .slnil)) ?_
     refine d_tv 16 rfl rfl (by kernel_rfl) rfl (.cons _ .slnil) rfl (v_idx he rfl rfl rfl (j - 1) (by omega) (by omega)) ?_
     refine d_one 17 (by kernel_rfl) rfl ?_
     refine o_stc _ (j - 1) (by first | exact Uk.append (str_uk _) rest.uk | exact (Uk.append (str_uk _) rest.uk).set rfl _) he rfl rfl rfl rfl rfl (by omega) (by simp [str_len]; omega) ?_
     refine d_on (fun _ m => m.keeps (.cons _ .slnil)) ?_
     refine d_done (by kernel_rfl) ?_
     refine go 4 ?_
     refine o_v rfl (OV.cast (u := .int .i64 ((j - 1 : Nat) : Int)) (v_sub rfl rfl ⟨by omega, by omega⟩) (congrArg (Value.int .i64) (by omega))) ?_
     refine go 3 ?_
     exact q_next2 (j - 1) ((k.set j k[j - 1]).set (j - 1) k[j]) ⟨by omega, hpk.swap hjk hjk1⟩ (by omega) rfl sb (by first | rw [← str_swp hjk hjk1] | rw [← str_swp' hjk hjk1 (by omega)])
    ·refine o_val rfl (v_lds m0 (Uk.append (str_uk _) rest.uk) he rfl (j) (by omega) (str_at hjk)) ?_
     refine d_on (fun _ m => m.keeps (.cons _ .slnil)) ?_
     refine d_one 9 (by kernel_rfl) rfl ?_
     refine o_val rfl (v_lds m0 (Uk.append (str_uk _) rest.uk) he rfl (j - 1) (by omega) (str_at hjk1)) ?_
     refine d_on (fun _ m => m.keeps (.cons _ .slnil)) ?_
     refine d_tv 14 rfl rfl (by kernel_rfl) rfl (.cons _ .slnil) rfl (v_idx he rfl rfl rfl (j) (by omega) (by omega)) ?_
     refine d_one 15 (by kernel_rfl) rfl ?_
     refine o_stc _ (j) (by first | exact Uk.append (str_uk _) rest.uk | exact (Uk.append (str_uk _) rest.uk).set rfl _) he rfl rfl rfl rfl rfl (by omega) (by simp [str_len]; omega) ?_
     refine d_on (fun _ m => m.keeps (.cons _ .slnil)) ?_
     refine d_tv 16 rfl rfl (by kernel_rfl) rfl (.cons _ .slnil) rfl (v_idx he rfl rfl rfl (j - 1) (by omega) (by omega)) ?_
     refine d_one 17 (by kernel_rfl) rfl ?_
     refine o_stc _ (j - 1) (by first | exact Uk.append (str_uk _) rest.uk | exact (Uk.append (str_uk _) rest.uk).set rfl _) he rfl rfl rfl rfl rfl (by omega) (by simp [str_len]; omega) ?_
     refine d_on (fun _ m => m.keeps (.cons _ .slnil)) ?_
     refine d_done (by kernel_rfl) ?_
     refine go 4 ?_
     refine o_v rfl (OV.cast (u := .int .i64 ((j - 1 : Nat) : Int)) (v_sub rfl rfl ⟨by omega, by omega⟩) (congrArg (Value.int .i64) (by omega))) ?_
     refine go 3 ?_
     exact q_next2 (j - 1) ((k.set j k[j - 1]).set (j - 1) k[j]) ⟨by omega, hpk.swap hjk hjk1⟩ (by omega) rfl sb (by first | rw [← str_swp hjk hjk1] | rw [← str_swp' hjk hjk1 (by omega)])
   ·refine go 12 ?_
    exact q_next2 (i + 1) (k) ⟨.inl (by omega), hpk⟩ (by omega) rfl sb rfl
  ·refine d_t 4 rfl rfl (by kernel_rfl) rfl (fun _ m => m.keeps (.refl _)) (y_no rfl rfl h19) ?_
   refine d_t 5 rfl rfl (by kernel_rfl) rfl (fun _ m => m.keeps (.refl _)) (y_no rfl rfl h19) ?_
   refine d_t 6 rfl rfl (by kernel_rfl) rfl (fun _ m => m.keeps (.refl _)) (y_no rfl rfl h19) ?_
   refine d_t 7 rfl rfl (by kernel_rfl) rfl (fun _ m => m.keeps (.refl _)) (y_no rfl rfl h19) ?_
   refine d_t 8 rfl rfl (by kernel_rfl) rfl (fun _ m => m.keeps (.refl _)) (y_no rfl rfl h19) ?_
   refine d_t 9 rfl rfl (by kernel_rfl) rfl (fun _ m => m.keeps (.refl _)) (y_no rfl rfl h19) ?_
   refine d_t 10 rfl rfl (by kernel_rfl) rfl (fun _ m => m.keeps (.refl _)) (y_no rfl rfl h19) ?_
   refine d_t 11 rfl rfl (by kernel_rfl) rfl (fun _ m => m.keeps (.refl _)) (y_no rfl rfl h19) ?_
   refine d_t 12 rfl rfl (by kernel_rfl) rfl (fun _ m => m.keeps (.refl _)) (y_no rfl rfl h19) ?_
   refine d_t 13 rfl rfl (by kernel_rfl) rfl (fun _ m => m.keeps (.refl _)) (y_no rfl rfl h19) ?_
   refine d_tv 14 rfl rfl (by kernel_rfl) rfl (.refl _) rfl (v_and_f h19 rfl) ?_
   refine d_done (by kernel_rfl) ?_
   refine go 1 ?_
   refine c_false rfl ?_
   refine go 12 ?_
   exact q_next2 (i + 1) (k) ⟨.inl (by omega), hpk⟩ (by omega) rfl sb rfl
 ·refine go 4 ?_
  refine end0 rfl ?_
  exact q_x ⟨rfl, m, hpm, rfl⟩

theorem pdqStr (I : IMap) {rest : Rst 1} {cap : Nat} (g : Nat) (l : List ByteArray) (hl2 : l.length ≤ 12) (hc : l.length + rest.l.length = cap) (hcm : cap ≤ maxLen) (z : Int) :
    FnX Tryz.prog 225 #[.slice (some ⟨g, 0, none⟩) l.length cap, .int .i64 0, .int .i64 ((l.length : Nat) : Int), .int .i64 z] I [.blk g 9 (strCh l ++ rest.l).flatten] (fun u r => u = .tuple #[] ∧ ∃ m, Pm l m ∧ r = .blk g 9 (strCh m ++ rest.l).flatten) := by
 refine enter Tryz.func225 Tryz.call225 rfl Tryz.ntmps225 rfl (fun w0 => ?_)
 refine go 11 ?_
 refine c_loop (α := Nat) 0 (fun i => I)
  (fun i => [(0, .slice (some ⟨g, 0, none⟩) l.length cap), (1, .int .i64 0), (2, .int .i64 ((l.length : Nat) : Int))])
  (fun i => [.blk g 9 (strCh l ++ rest.l).flatten])
  (fun i => True)
  (fun i => 0) trivial rfl sb rfl ?_
 intro i _
 refine go 5 ?_
 refine o_v rfl (OV.cast (u := .int .i64 ((l.length : Nat) : Int)) (v_sub rfl rfl ⟨by omega, by omega⟩) (congrArg (Value.int .i64) (by omega))) ?_
 refine go 7 ?_
 refine o_v rfl (OV.cast (u := .bool true) (v_leq rfl rfl) (congrArg Value.bool (decide_eq_true (by omega)))) ?_
 refine go 2 ?_
 refine c_true rfl ?_
 refine go 6 ?_
 refine o_callX1 (insStr _ g l hl2 hc hcm) rfl rfl (fun v27 s27 q27 => ?_)
 obtain ⟨rfl, m, hpm, rfl⟩ := q27
 refine go 7 ?_
 refine fin0 rfl ?_
 exact q_x ⟨rfl, m, hpm, rfl⟩

theorem len64 (I : IMap) (n : Nat) (hn : n < 200) :
    FnE Tryz.prog 281 #[.int .u64 ((n : Nat) : Int)] I (fun u => ∃ k : Nat, u = .int .i64 (k : Int)) := by
 refine enter Tryz.func281 Tryz.call281 rfl Tryz.ntmps281 rfl (fun w0 => ?_)
 refine go 9 ?_
 refine o_v rfl (OV.cast (u := .bool false) (v_geq rfl rfl) (congrArg Value.bool (decide_eq_false (by omega)))) ?_
 refine go 2 ?_
 refine c_false rfl ?_
 refine go 6 ?_
 refine o_v rfl (OV.cast (u := .bool false) (v_geq rfl rfl) (congrArg Value.bool (decide_eq_false (by omega)))) ?_
 refine go 2 ?_
 refine c_false rfl ?_
 refine go 6 ?_
 refine o_v rfl (OV.cast (u := .bool false) (v_geq rfl rfl) (congrArg Value.bool (decide_eq_false (by omega)))) ?_
 refine go 2 ?_
 refine c_false rfl ?_
 refine go 6 ?_
 refine o_v rfl (v_conv he he rfl (m := ((n : Nat) : Int)) (wrap_u8 n (by omega))) ?_
 refine o_v rfl (v_sidxK he rfl rfl n rfl (Nat.lt_of_lt_of_le hn (by decide +kernel))) ?_
 refine o_v rfl (v_conv he he rfl (conv_u8 _)) ?_
 refine o_v rfl (v_add rfl rfl (conv_add _)) ?_
 refine go 4 ?_
 refine fin1 rfl rfl ?_
 exact q_e ⟨_, by rw [Int.zero_add]⟩

theorem bitsLen (I : IMap) (n : Nat) (hn : n < 200) :
    FnE Tryz.prog 226 #[.int .u64 ((n : Nat) : Int)] I (fun u => ∃ k : Nat, u = .int .i64 (k : Int)) := by
 refine enter Tryz.func226 Tryz.call226 rfl Tryz.ntmps226 rfl (fun w0 => ?_)
 refine go 6 ?_
 refine c_false rfl ?_
 refine go 6 ?_
 refine o_callE (len64 _ n hn) rfl rfl (fun v7 q7 => ?_)
 obtain ⟨k, rfl⟩ := q7
 refine go 4 ?_
 refine fin1 rfl rfl ?_
 exact q_e ⟨_, rfl⟩

theorem sortStr (I : IMap) {rest : Rst 1} {cap : Nat} (g : Nat) (l : List ByteArray) (hl2 : l.length ≤ 12) (hc : l.length + rest.l.length = cap) (hcm : cap ≤ maxLen) :
    FnX Tryz.prog 157 #[.slice (some ⟨g, 0, none⟩) l.length cap] I [.blk g 9 (strCh l ++ rest.l).flatten] (fun u r => u = .tuple #[] ∧ ∃ m, Pm l m ∧ r = .blk g 9 (strCh m ++ rest.l).flatten) := by
 refine enter Tryz.func157 Tryz.call157 rfl Tryz.ntmps157 rfl (fun w0 => ?_)
 refine go 11 ?_
 refine o_v rfl (v_conv he he rfl (m := ((l.length : Nat) : Int)) (wrap_u64 _ (by omega) (by omega))) ?_
 refine go 1 ?_
 refine o_callE (bitsLen _ l.length (by omega)) rfl rfl (fun v9 q9 => ?_)
 obtain ⟨z, rfl⟩ := q9
 refine go 1 ?_
 refine o_callX1 (pdqStr _ g l hl2 hc hcm z) rfl rfl (fun v10 s10 q10 => ?_)
 obtain ⟨rfl, m, hpm, rfl⟩ := q10
 refine go 1 ?_
 refine end0 rfl ?_
 exact q_x ⟨rfl, m, hpm, rfl⟩

theorem insNil (I : IMap) :
    FnV Tryz.prog 271 #[.slice none 0 0, .int .i64 0, .int .i64 0] I (.tuple #[]) := by
 refine enter Tryz.func271 Tryz.call271 rfl Tryz.ntmps271 rfl (fun w0 => ?_)
 refine go 3 ?_
 refine o_v rfl (OV.cast (u := .int .i64 ((1 : Nat) : Int)) (v_add rfl rfl ⟨by omega, by omega⟩) (congrArg (Value.int .i64) (by omega))) ?_
 refine go 4 ?_
 refine c_loop (α := Nat) 0 (fun i => I)
  (fun i => [(2, .int .i64 0), (6, .int .i64 1)])
  (fun i => [])
  (fun i => True)
  (fun i => 0) trivial rfl sb rfl ?_
 intro i _
 refine go 5 ?_
 refine o_v rfl (OV.cast (u := .bool false) (v_lss rfl rfl) (congrArg Value.bool (decide_eq_false (by omega)))) ?_
 refine go 2 ?_
 refine c_false rfl ?_
 refine go 4 ?_
 refine end0 rfl ?_
 exact q_v rfl

theorem pdqNil (I : IMap) (z : Int) :
    FnV Tryz.prog 225 #[.slice none 0 0, .int .i64 0, .int .i64 0, .int .i64 z] I (.tuple #[]) := by
 refine enter Tryz.func225 Tryz.call225 rfl Tryz.ntmps225 rfl (fun w0 => ?_)
 refine go 11 ?_
 refine c_loop (α := Nat) 0 (fun i => I)
  (fun i => [(0, .slice none 0 0), (1, .int .i64 0), (2, .int .i64 0)])
  (fun i => [])
  (fun i => True)
  (fun i => 0) trivial rfl sb rfl ?_
 intro i _
 refine go 5 ?_
 refine o_v rfl (OV.cast (u := .int .i64 0) (v_sub rfl rfl ⟨by omega, by omega⟩) rfl) ?_
 refine go 7 ?_
 refine o_v rfl (OV.cast (u := .bool true) (v_leq rfl rfl) (congrArg Value.bool (decide_eq_true (by omega)))) ?_
 refine go 2 ?_
 refine c_true rfl ?_
 refine go 6 ?_
 refine o_callV (insNil _) rfl rfl ?_
 refine go 7 ?_
 refine fin0 rfl ?_
 exact q_v rfl

theorem sortNilS (I : IMap) :
    FnV Tryz.prog 157 #[.slice none 0 0] I (.tuple #[]) := by
 refine enter Tryz.func157 Tryz.call157 rfl Tryz.ntmps157 rfl (fun w0 => ?_)
 refine go 11 ?_
 refine o_v rfl (v_conv he he rfl (m := ((0 : Nat) : Int)) (wrap_u64 _ (by omega) (by omega))) ?_
 refine go 1 ?_
 refine o_callE (bitsLen _ 0 (by omega)) rfl rfl (fun v9 q9 => ?_)
 obtain ⟨z, rfl⟩ := q9
 refine go 1 ?_
 refine o_callV (pdqNil _ z) rfl rfl ?_
 refine go 1 ?_
 refine end0 rfl ?_
 exact q_v rfl

theorem sortRow0 (I : IMap) (v : Value) (l : List ByteArray) (xs : List Value) (hF : Flat I xs l) (hl2 : l.length ≤ 12) :
    FnX Tryz.prog 157 #[v] I [.row v 9 1 l.length xs] (fun u r => u = .tuple #[] ∧ ∃ m ys, Pm l m ∧ Flat I ys m ∧ r = .row v 9 1 l.length ys) := by
  obtain ⟨xss, rfl, hC⟩ := FlatC.of hF
  refine FnX.of_rowV (args := fun v => [v]) hC.uk hC.len (fun h0 h1 => ?_) (fun g cap rest hv hR hc hcm => ?_)
  · obtain rfl : l = [] := List.eq_nil_of_length_eq_zero h0
    subst h1
    refine (FnX.of_V (t := 9) (k := 1) (sortNilS I)).weak ?_
    rintro u r ⟨rfl, rfl⟩
    exact ⟨rfl, [], [], Pm.refl _, .nil, rfl⟩
  · subst hv
    obtain rfl := str_of hC
    refine FnX.backE (k := 1) ((sortStr I (rest := ⟨rest, hR⟩) g l hl2 hc hcm).weak ?_)
    rintro u r ⟨rfl, m, hpm, rfl⟩
    exact ⟨strCh m, rest, l.length, cap, str_uk m, hR, by rw [str_len, hpm.1], hc, hcm, rfl, rfl, m, _, hpm, (str_flat I m).flat, rfl⟩
theorem sortRow (I : IMap) (v : Value) (l : List ByteArray) (xs : List Value) (hF : Flat I xs l) (hl : 0 < l.length) (hl2 : l.length ≤ 12) :
    FnX Tryz.prog 157 #[v] I [.row v 9 1 l.length xs] (fun u r => u = .tuple #[] ∧ ∃ m ys, Pm l m ∧ Flat I ys m ∧ r = .row v 9 1 l.length ys) := sortRow0 I v l xs hF hl2

end Go.Proofs.YtdapmfkbpnjkmaaGreat

/- Walks, printed by a program out of the code of the functions: each theorem is a contract of one function. -/
namespace Go.Proofs.YtdapmfkbpnjkmaaGreat
open Go Go.Sx
set_option linter.all false
set_option maxRecDepth 20000
set_option maxHeartbeats 4000000
instance T.by_33 : Has (bytesK Tryz.prog 33) ([.slice none 0 0], 1, 24) := ⟨by kernel_rfl⟩
instance T.elt_242 : Has (eltK Tryz.prog 242) (33, 1) := ⟨by kernel_rfl⟩
instance T.und_242 : Has (Tryz.prog.underlying 242) (.slice 33) := ⟨by kernel_rfl⟩
instance T.zero_33 : Has (zeroK Tryz.prog 33) [.slice none 0 0] := ⟨by kernel_rfl⟩
theorem growS (I : IMap) (n : Nat) (hn : n ≤ 1000000) :
    FnX Tryz.prog 304 #[.slice none 0 0, .int .i64 ((n : Nat) : Int)] I [] (fun u r => r = .row u 9 1 0 []) := by
 refine enter Tryz.func304 Tryz.call304 rfl Tryz.ntmps304 rfl (fun w0 => ?_)
 refine go 9 ?_
 refine o_v rfl (OV.cast (u := .bool false) (v_lss rfl rfl) (congrArg Value.bool (decide_eq_false (by omega)))) ?_
 refine go 2 ?_
 refine c_false rfl ?_
 refine go 7 ?_
 refine o_v rfl (v_cap he rfl) ?_
 refine go 3 ?_
 refine o_v rfl (OV.cast (u := .int .i64 ((n : Nat) : Int)) (v_sub rfl rfl ⟨by omega, by omega⟩) (congrArg (Value.int .i64) (by omega))) ?_
 refine go 9 ?_
 refine cb rfl (fun h16 p16 => ?_) (fun h16 p16 => ?_)
 ·refine go 3 ?_
  refine o_v rfl (v_cap he rfl) ?_
  refine o_v rfl (v_slice_hi he rfl rfl 0 rfl (by omega)) ?_
  refine go 2 ?_
  refine o_appendMake0 he he he rfl rfl rfl rfl (by omega) (by omega) (by unfold maxLen; omega) rfl (fun g22 r22 hr22 => ?_)
  refine go 2 ?_
  refine o_v rfl (v_slice_hi he rfl rfl 0 rfl (by omega)) ?_
  refine go 10 ?_
  refine fin1 rfl rfl ?_
  refine sx_unrow (xss := []) (m := 0) (cap := n + r22) (k := 1) (by intro c hc; cases hc) (Uk.rep rfl _) rfl (by simp) hr22 ?_
  exact q_x rfl
 ·refine go 9 ?_
  refine fin1 rfl rfl ?_
  refine sx_nilrow 9 1 ?_
  exact q_x rfl

theorem concatS (I : IMap) (v : Value) (ls : List (List ByteArray)) (hv : RdS I v ls) (hb : ls.flatten.length ≤ 1000000) (hl : ls.length ≤ 1000000) :
    FnX Tryz.prog 246 #[v] I [] (fun u r => ∃ xs, r = .row u 9 1 ls.flatten.length xs ∧ Flat I xs ls.flatten) := by
 obtain ⟨A, c0, rfl, hA, hc, hm⟩ := hv
 refine enter Tryz.func246 Tryz.call246 rfl Tryz.ntmps246 rfl (fun w0 => ?_)
 refine go 19 ?_
 refine c_loop (α := Nat) 0 (fun i => I)
  (fun i => [(0, .slice A ls.length c0), (3, .int .i64 (((ls.take (i)).flatten.length : Nat) : Int)), (9, .slice A ls.length c0), (10, .int .i64 ((ls.length : Nat) : Int)), (11, .int .i64 ((i : Nat) : Int))])
  (fun i => [])
  (fun i => i ≤ ls.length)
  (fun i => ls.length - i) (Nat.zero_le _) rfl sb rfl ?_
 intro i hi
 have hfi := flat_lenLe ls i
 refine go 6 ?_
 refine cb rfl (fun h12 p12 => ?_) (fun h12 p12 => ?_)
 ·have hlt : i < ls.length := by omega
  have hf1 := congrArg List.length (flat_take1 hlt)
  rw [List.length_append] at hf1
  have hf2 := flat_lenLe ls (i + 1)
  refine go 6 ?_
  obtain ⟨b13, o13, w13, e13, c13, r13⟩ := RdA.at_ hA (i := i) (by omega)
  obtain ⟨q13, rfl, S13, d13, rfl, hS13, hd13, hm13⟩ := r13
  refine o_v rfl (v_idx he rfl rfl e13 (i) (by omega) (by omega)) ?_
  refine o_v rfl (v_ldI he rfl (c13 0 _ rfl)) ?_
  refine go 8 ?_
  refine o_v rfl (OV.cast (u := .int .i64 (((ls.take (i + 1)).flatten.length : Nat) : Int)) (v_add rfl rfl ⟨by omega, by omega⟩) (congrArg (Value.int .i64) (by omega))) ?_
  refine go 6 ?_
  refine o_v rfl (OV.cast (u := .bool false) (v_lss rfl rfl) (congrArg Value.bool (decide_eq_false (by omega)))) ?_
  refine go 2 ?_
  refine c_false rfl ?_
  refine go 8 ?_
  exact q_next (i + 1) (by omega) (by omega) rfl sb rfl
 ·have e : i = ls.length := by omega
  subst e
  rw [List.take_length]
  refine go 9 ?_
  refine o_callX0 (growS _ ls.flatten.length hb) rfl rfl (fun v24 s24 q24 => ?_)
  obtain rfl := q24
  refine go 12 ?_
  refine c_loop3 ((0 : Nat)) (_) ([]) (fun i v6 xs => I)
   (fun i v6 xs => [(0, .slice A ls.length c0), (6, v6), (25, .slice A ls.length c0), (26, .int .i64 ((ls.length : Nat) : Int)), (27, .int .i64 ((i : Nat) : Int))])
   (fun i v6 xs => [.row v6 9 1 (ls.take (i)).flatten.length xs])
   (fun i v6 xs => i ≤ ls.length ∧ Flat I xs (ls.take i).flatten)
   (fun i v6 xs => ls.length - i) ⟨Nat.zero_le _, .nil⟩ rfl sb rfl ?_
  intro i v6 xs ⟨hi, hF⟩
  have hfi := flat_lenLe ls i
  refine go 6 ?_
  refine cb rfl (fun h28 p28 => ?_) (fun h28 p28 => ?_)
  ·have hlt : i < ls.length := by omega
   have hf1 := congrArg List.length (flat_take1 hlt)
   rw [List.length_append] at hf1
   have hf2 := flat_lenLe ls (i + 1)
   refine go 6 ?_
   obtain ⟨b29, o29, w29, e29, c29, r29⟩ := RdA.at_ hA (i := i) (by omega)
   obtain ⟨q29, rfl, S29, d29, rfl, hS29, hd29, hm29⟩ := r29
   refine o_v rfl (v_idx he rfl rfl e29 (i) (by omega) (by omega)) ?_
   refine o_v rfl (v_ldI he rfl (c29 0 _ rfl)) ?_
   refine go 7 ?_
   refine o_appendR (⟨_, _, rfl, hS29, hd29, hm29⟩) rfl he he rfl rfl rfl rfl (by omega) (by omega) rfl (fun v33 x33 f33 => ?_)
   refine go 9 ?_
   exact q_next3 (i + 1) (_) (_) ⟨by omega, by rw [flat_take1 hlt]; exact hF.append f33⟩ (by omega) rfl sb (by rw [flat_take1 hlt, List.length_append])
  ·refine go 12 ?_
   refine fin1 rfl rfl ?_
   have e : i = ls.length := by omega
   subst e
   rw [List.take_length] at hF ⊢
   exact q_x ⟨xs, rfl, hF⟩

theorem compactStr (I : IMap) {rest : Rst 1} {cap : Nat} (g : Nat) (l : List ByteArray) (hl : 0 < l.length) (hl2 : l.length ≤ 12) (hc : l.length + rest.l.length = cap) (hcm : cap ≤ maxLen) :
    FnX Tryz.prog 247 #[.slice (some ⟨g, 0, none⟩) l.length cap] I [.blk g 9 (strCh l ++ rest.l).flatten] (fun u r => ∃ m rest2, (∀ x, x ∈ m ↔ x ∈ l) ∧ m.length ≤ l.length ∧ u = .slice (some ⟨g, 0, none⟩) m.length cap ∧ r = .blk g 9 (strCh m ++ rest2).flatten ∧ Uk 1 rest2 ∧ m.length + rest2.length = cap) := by
 refine enter Tryz.func247 Tryz.call247 rfl Tryz.ntmps247 rfl (fun w0 => ?_)
 refine go 13 ?_
 refine cb rfl (fun h8 p8 => ?_) (fun h8 p8 => ?_)
 ·refine go 8 ?_
  refine fin1 rfl rfl ?_
  exact q_x ⟨l, rest.l, fun _ => Iff.rfl, Nat.le_refl _, rfl, rfl, rest.uk, hc⟩
 ·refine go 9 ?_
  refine c_loop (α := Nat) 1 (fun k0 => I)
   (fun k0 => [(0, .slice (some ⟨g, 0, none⟩) l.length cap), (3, .int .i64 ((k0 : Nat) : Int))])
   (fun k0 => [.blk g 9 (strCh l ++ rest.l).flatten])
   (fun k0 => 1 ≤ k0 ∧ k0 ≤ l.length)
   (fun k0 => l.length - k0) ⟨Nat.le_refl _, hl⟩ rfl sb rfl ?_
  intro k0 ⟨hk1, hk2⟩
  refine go 9 ?_
  refine cb rfl (fun h13 p13 => ?_) (fun h13 p13 => ?_)
  ·have hkl : k0 < l.length := by omega
   have hkm : k0 - 1 < l.length := by omega
   refine go 5 ?_
   refine d_startH T.mixed ?_
   refine d_tv 0 rfl rfl (by kernel_rfl) rfl (.refl _) rfl (v_move rfl) ?_
   refine d_tv 1 rfl rfl (by kernel_rfl) rfl (.refl _) rfl (v_move rfl) ?_
   refine d_tv 2 rfl rfl (by kernel_rfl) rfl (.refl _) rfl (v_idx he rfl rfl rfl (k0) (by omega) (by omega)) ?_
   refine d_tv 3 rfl rfl (by kernel_rfl) rfl (.refl _) rfl (v_lds m0 (Uk.append (str_uk _) rest.uk) he rfl (k0) (by omega) (str_at hkl)) ?_
   refine d_tv 4 rfl rfl (by kernel_rfl) rfl (.refl _) rfl (v_move rfl) ?_
   refine d_tv 5 rfl rfl (by kernel_rfl) rfl (.refl _) rfl (v_move rfl) ?_
   refine d_tv 6 rfl rfl (by kernel_rfl) rfl (.refl _) rfl (OV.cast (u := .int .i64 ((k0 - 1 : Nat) : Int)) (v_sub rfl rfl ⟨by omega, by omega⟩) (congrArg (Value.int .i64) (by omega))) ?_
   refine d_tv 7 rfl rfl (by kernel_rfl) rfl (.refl _) rfl (v_idx he rfl rfl rfl (k0 - 1) (by omega) (by omega)) ?_
   refine d_tv 8 rfl rfl (by kernel_rfl) rfl (.refl _) rfl (v_lds m0 (Uk.append (str_uk _) rest.uk) he rfl (k0 - 1) (by omega) (str_at hkm)) ?_
   refine d_tv 9 rfl rfl (by kernel_rfl) rfl (.refl _) rfl (v_seql rfl rfl) ?_
   refine d_done (by kernel_rfl) ?_
   refine go 1 ?_
   refine cb rfl (fun h25 p25 => ?_) (fun h25 p25 => ?_)
   ·have hst : Cpt l l k0 (k0 + 1) := Cpt.start hk1 hkl p25
    refine go 4 ?_
    refine o_v rfl (OV.cast (u := .slice (some ⟨g, k0, none⟩) (l.length - k0) (cap - k0)) (v_slice_lo he rfl rfl k0 (by omega) (by omega)) (by rw [cutA, if_neg (by omega)]; simp [add_lit])) ?_
    refine go 10 ?_
    refine c_loop3 (1) (k0) (l) (fun q k B => I)
     (fun q k B => [(0, .slice (some ⟨g, 0, none⟩) l.length cap), (3, .int .i64 ((k : Nat) : Int)), (4, .slice (some ⟨g, k0, none⟩) (l.length - k0) (cap - k0)), (5, .int .i64 ((q : Nat) : Int))])
     (fun q k B => [.blk g 9 (strCh B ++ rest.l).flatten])
     (fun q k B => 1 ≤ q ∧ 1 ≤ k ∧ Cpt l B k (k0 + q))
     (fun q k B => l.length - (k0 + q)) ⟨Nat.le_refl _, hk1, hst⟩ rfl sb rfl ?_
    intro q k B ⟨hq, hk, hB⟩
    have hBl := hB.len
    have hkp := hB.kp
    have hpl := hB.pl
    refine go 5 ?_
    refine o_v rfl (OV.cast (u := .int .i64 ((l.length - k0 : Nat) : Int)) (v_len_slice he rfl) rfl) ?_
    refine go 3 ?_
    refine cb rfl (fun h32 p32 => ?_) (fun h32 p32 => ?_)
    ·have hpq : k0 + q < l.length := by omega
     have hpB : k0 + q < B.length := by omega
     have hpm : k0 + q - 1 < B.length := by omega
     have hg1 := hB.get (j := k0 + q) (by omega) hpq hpB
     have hg2 := hB.get (j := k0 + q - 1) (by omega) (by omega) hpm
     refine go 5 ?_
     refine d_startH T.mixed ?_
     refine d_tv 0 rfl rfl (by kernel_rfl) rfl (.refl _) rfl (v_move rfl) ?_
     refine d_tv 1 rfl rfl (by kernel_rfl) rfl (.refl _) rfl (v_move rfl) ?_
     refine d_tv 2 rfl rfl (by kernel_rfl) rfl (.refl _) rfl (v_idx he rfl rfl rfl (q) (by omega) (by omega)) ?_
     refine d_tv 3 rfl rfl (by kernel_rfl) rfl (.refl _) rfl (v_lds m0 (Uk.append (str_uk _) rest.uk) he rfl (k0 + q) (by omega) (str_at hpB)) ?_
     refine d_tv 4 rfl rfl (by kernel_rfl) rfl (.refl _) rfl (v_move rfl) ?_
     refine d_tv 5 rfl rfl (by kernel_rfl) rfl (.refl _) rfl (v_move rfl) ?_
     refine d_tv 6 rfl rfl (by kernel_rfl) rfl (.refl _) rfl (OV.cast (u := .int .i64 ((q - 1 : Nat) : Int)) (v_sub rfl rfl ⟨by omega, by omega⟩) (congrArg (Value.int .i64) (by omega))) ?_
     refine d_tv 7 rfl rfl (by kernel_rfl) rfl (.refl _) rfl (v_idx he rfl rfl rfl (q - 1) (by omega) (by omega)) ?_
     refine d_tv 8 rfl rfl (by kernel_rfl) rfl (.refl _) rfl (v_lds m0 (Uk.append (str_uk _) rest.uk) he rfl (k0 + q - 1) (by omega) (str_at hpm)) ?_
     refine d_tv 9 rfl rfl (by kernel_rfl) rfl (.refl _) rfl (v_sneq rfl rfl) ?_
     refine d_done (by kernel_rfl) ?_
     refine go 1 ?_
     refine cb rfl (fun h44 p44 => ?_) (fun h44 p44 => ?_)
     ·refine go 6 ?_
      refine o_v rfl (v_idx he rfl rfl rfl (q) (by omega) (by omega)) ?_
      refine o_v rfl (v_lds m0 (Uk.append (str_uk _) rest.uk) he rfl (k0 + q) (by omega) (str_at hpB)) ?_
      refine o_v rfl (v_idx he rfl rfl rfl (k) (by omega) (by omega)) ?_
      refine go 1 ?_
      refine o_stc _ (k) (Uk.append (str_uk _) rest.uk) he rfl rfl rfl rfl rfl (by omega) (by simp [str_len]; omega) ?_
      refine go 15 ?_
      exact q_next3 (q + 1) (k + 1) (B.set k l[k0 + q]) ⟨by omega, by omega, hB.keep hpq⟩ (by omega) rfl sb (by rw [← hg1, ← str_set (by omega)])
     ·refine go 9 ?_
      exact q_next3 (q + 1) (k) (B) ⟨by omega, hk, hB.skip hpq (by rw [← hg1, ← hg2]; simpa using h44) (by omega)⟩ (by omega) rfl sb rfl
    ·have hend : k0 + q = l.length := by omega
     have hdone := fun x => (hend ▸ hB).done x
     refine go 9 ?_
     refine o_v rfl (OV.cast (u := .slice (some ⟨g, k, none⟩) (l.length - k) (cap - k)) (v_slice_lo he rfl rfl k (by omega) (by omega)) (by rw [cutA, if_neg (by omega)]; simp [add_lit])) ?_
     refine go 1 ?_
     refine o_clear k he he rfl rfl rfl rfl (Uk.append (str_uk _) rest.uk) (fun _ => by rw [Nat.mul_one]) (by simp [str_len]; omega) ?_
     rw [str_clear (by omega)]
     refine go 6 ?_
     refine o_v rfl (v_slice_hi he rfl rfl k (by omega) (by omega)) ?_
     refine go 9 ?_
     refine fin1 rfl rfl ?_
     refine q_x ⟨B.take k, List.replicate (l.length - k) [.string ⟨#[]⟩] ++ rest.l, hdone, by rw [List.length_take]; omega, ?_, rfl, (Uk.rep rfl _).append rest.uk, by rw [List.length_take, List.length_append, List.length_replicate]; omega⟩
     rw [List.length_take, Nat.min_eq_left (by omega)]
   ·refine go 9 ?_
    exact q_next (k0 + 1) ⟨by omega, by omega⟩ (by omega) rfl sb rfl
  ·refine go 12 ?_
   refine fin1 rfl rfl ?_
   exact q_x ⟨l, rest.l, fun _ => Iff.rfl, Nat.le_refl _, rfl, rfl, rest.uk, hc⟩

theorem compactRow (I : IMap) (v : Value) (l : List ByteArray) (xs : List Value) (hF : Flat I xs l) (hl : 0 < l.length) (hl2 : l.length ≤ 12) :
    FnX Tryz.prog 247 #[v] I [.row v 9 1 l.length xs] (fun u r => ∃ m ys, (∀ x, x ∈ m ↔ x ∈ l) ∧ m.length ≤ l.length ∧ Flat I ys m ∧ r = .row u 9 1 m.length ys) :=
  FnX.of_rowF (args := fun v => [v]) hF rfl rfl hl fun g cap rest xss hv hC hR hc hcm => by
    subst hv
    obtain rfl := str_of hC
    refine FnX.backE (k := 1) ((compactStr I (rest := ⟨rest, hR⟩) g l hl hl2 hc hcm).weak ?_)
    rintro u r ⟨m, rest2, hm, hml, rfl, rfl, hR2, hc2⟩
    exact ⟨strCh m, rest2, m.length, cap, str_uk m, hR2, str_len m, hc2, hcm, rfl, m, _, hm, hml, (str_flat I m).flat, rfl⟩

theorem joinedS (I : IMap) (v : Value) (ls : List (List ByteArray)) (hv : RdS I v ls) (hl : ls.length ≤ 1000000) (h1 : 0 < ls.flatten.length) (h2 : ls.flatten.length ≤ 12) :
    FnX Tryz.prog 198 #[v] I [] (fun u r => ∃ m ys, (∀ x, x ∈ m ↔ x ∈ ls.flatten) ∧ m.length ≤ ls.flatten.length ∧ Flat I ys m ∧ r = .row u 9 1 m.length ys) := by
 refine enter Tryz.func198 Tryz.call198 rfl Tryz.ntmps198 rfl (fun w0 => ?_)
 refine go 9 ?_
 refine o_callX0 (concatS _ v ls hv (by omega) hl) rfl rfl (fun v5 s5 q5 => ?_)
 obtain ⟨xs5, rfl, hF5⟩ := q5
 refine go 7 ?_
 refine o_callX1 (sortRow _ _ ls.flatten xs5 hF5 h1 h2) rfl rfl (fun v7 s7 q7 => ?_)
 obtain ⟨rfl, m, ys, hpm, hFm, rfl⟩ := q7
 rw [← hpm.1]
 refine go 6 ?_
 refine o_callX1 (compactRow _ _ m ys hFm (by rw [hpm.1]; exact h1) (by rw [hpm.1]; exact h2)) rfl rfl (fun v9 s9 q9 => ?_)
 obtain ⟨m2, zs, hm2, hl2, hFz, rfl⟩ := q9
 refine go 4 ?_
 refine fin1 rfl rfl ?_
 exact q_x ⟨m2, zs, fun x => (hm2 x).trans (hpm.2 x), by have := hpm.1; omega, hFz, rfl⟩

theorem repNames (I : IMap) (r : Rep) (S : Option Addr) (d : Nat) (hr : RdS I (.slice S r.options.length d) r.options) (hs : ∀ e ∈ r.options, SmE e) :
    FnI Tryz.prog 123 #[.agg (r.cells (.slice S r.options.length d)).toArray] I (fun u J => ∃ ns, RdS J u ns ∧ NamesOf r ns) := by
 have hSA : RdA I S r.options := hr.toA
 have hl5 := hr.lenLe
 refine enter Tryz.func123 Tryz.call123 rfl Tryz.ntmps123 rfl (fun w0 => ?_)
 refine go 3 ?_
 refine o_box _ rfl rfl rfl (fun g1 => ?_)
 refine go 8 ?_
 refine o_callV (repValid _ r S d hr hs) rfl rfl ?_
 refine go 3 ?_
 refine cb rfl (fun h8 p8 => ?_) (fun h8 p8 => ?_)
 ·refine go 7 ?_
  refine fin1 rfl rfl ?_
  exact q_i ⟨[], RdS.nil', names_none (by simpa using h8)⟩
 ·have hvr : validRep r = true := by simpa using h8
  have hvl := validRep_len hvr
  refine go 4 ?_
  refine sx_nilrow 33 1 ?_
  refine go 13 ?_
  refine bring1 ?_
  refine sx_drop ?_
  refine c_loop4 ((0 : Nat)) (_) ([]) (I) (fun i v3 xs J => J)
   (fun i v3 xs J => [(3, v3), (10, .slice S r.options.length d), (11, .int .i64 ((r.options.length : Nat) : Int)), (12, .int .i64 ((i : Nat) : Int))])
   (fun i v3 xs J => [.row v3 33 1 i xs])
   (fun i v3 xs J => i ≤ r.options.length ∧ ILe I J ∧ Flat J xs ((r.options.take i).map namesE))
   (fun i v3 xs J => r.options.length - i) ⟨Nat.zero_le _, ILe.refl _, .nil⟩ rfl sb rfl ?_
  intro i v3 xs J ⟨hi, hJ, hF⟩
  have hSA := hSA.le hJ
  refine go 6 ?_
  refine cb rfl (fun h13 p13 => ?_) (fun h13 p13 => ?_)
  ·have hlt : i < r.options.length := by omega
   refine go 6 ?_
   obtain ⟨b14, o14, w14, e14, c14, r14⟩ := RdA.at_ hSA (i := i) (by omega)
   obtain rfl := r14
   refine o_v rfl (v_idx he rfl rfl e14 (i) (by omega) (by omega)) ?_
   refine o_v rfl (v_ldIa he rfl c14 rfl) ?_
   refine go 1 ?_
   refine o_alloc he rfl (fun g5 => ?_)
   refine go 1 ?_
   refine o_stw _ he rfl rfl rfl rfl rfl rfl ?_
   refine go 6 ?_
   refine o_call (evNames _ r.options[i] (hs _ (List.getElem_mem hlt))) rfl rfl (fun v18 I18 j18 q18 => ?_)
   have q18s := q18
   obtain ⟨A18, c18, rfl, _, _, _⟩ := q18
   refine go 1 ?_
   refine o_buildSlice he he rfl rfl rfl rfl rfl rfl rfl (fun v19 => ?_)
   refine go 1 ?_
   refine bring2 ?_
   refine o_appendO he he rfl rfl rfl rfl rfl (by omega) (by omega) rfl (fun v20 => ?_)
   refine go 9 ?_
   refine bring1 ?_
   refine sx_drop ?_
   refine bring1 ?_
   refine sx_drop ?_
   exact q_next4 (i + 1) (_) (_) (_) ⟨by omega, hJ.trans j18, by rw [← take_succ_of hlt, List.map_append]; exact (hF.le j18).append (.one ⟨_, rfl, q18s⟩)⟩ (by omega) rfl sb rfl
  ·have e : i = r.options.length := by omega
   subst e
   rw [List.take_length] at hF
   have hnf := names_flat r.options (validRep_e hvr)
   refine go 7 ?_
   refine sx_pubrow (l := (r.options.map namesE)) rfl (by rw [List.length_map]) (hF) (fun Ip jp Rp => ?_)
   refine go 2 ?_
   refine o_callX0 (joinedS _ _ (r.options.map namesE) Rp (by rw [List.length_map]; omega) (by omega) (by omega)) rfl rfl (fun v23 s23 q23 => ?_)
   obtain ⟨m, ys, hm, hml, hFm, rfl⟩ := q23
   refine sx_pubrow (l := m) rfl rfl (hFm) (fun Iq jq Rq => ?_)
   refine go 4 ?_
   refine fin1 rfl rfl ?_
   exact q_i ⟨m, Rq, names_of_rep hvr hm hml⟩

end Go.Proofs.YtdapmfkbpnjkmaaGreat

/- The plain law of HistoryFalse: fewer open choices are false, too. -/
set_option linter.all false
namespace Go.Sx
open Go
theorem chs_pos {r : Rep} (h : validRep r = true) : 1 ≤ chs r := by
  have := validRep_len h
  simp only [chs, h, Bool.true_eq_false, if_false]
  split <;> omega
theorem allTo_of {f : Rep → Int → Bool} {l : List Rep} {ch : List Int} (h : ∀ i (h1 : i < l.length) (h2 : i < ch.length), f l[i] ch[i] = true) (hl : ch.length = l.length) : allTo f l ch l.length = true := by
  rw [allTo, List.all_eq_true]
  intro i hi
  have hi := List.mem_range.1 hi
  rw [at2_eq hi (by omega)]
  exact h i hi (by omega)
theorem given_mk {c : List Kind} {l : List Rep} {ch : List Int} {n : Int} (hc : validC c = true) (hl : ch.length = l.length) (h : ∀ i (h1 : i < l.length) (h2 : i < ch.length), chs l[i] ≠ 0 ∧ n ≤ ch[i] ∧ ch[i] < chs l[i]) : givenF c l ch n = true := by
  simp only [givenF, hc, Bool.and_eq_true]
  refine ⟨by simp [hl], allTo_of (fun i h1 h2 => ?_) hl⟩
  obtain ⟨a, b, d⟩ := h i h1 h2
  simp only [chFine, Bool.not_eq_true', Bool.or_eq_false_iff, decide_eq_false_iff_not]
  omega
theorem given_at {c : List Kind} {l : List Rep} {ch : List Int} {n : Int} (h : givenF c l ch n = true) {i : Nat} (h1 : i < l.length) (h2 : i < ch.length) : chs l[i] ≠ 0 ∧ n ≤ ch[i] ∧ ch[i] < chs l[i] := by
  simp only [givenF, Bool.and_eq_true] at h
  have := allTo_at h.2 h1 h1 h2
  simp only [chFine, Bool.not_eq_true', Bool.or_eq_false_iff, decide_eq_false_iff_not] at this
  omega
theorem given_cat {c : List Kind} {l : List Rep} {ch : List Int} {n : Int} (h : givenF c l ch n = true) : validC c = true := by
  simp only [givenF, Bool.and_eq_true, Bool.not_eq_true', Bool.or_eq_false_iff, Bool.not_eq_false'] at h
  exact h.1.1
theorem open_at {ch : List Int} {a i : Nat} (h : i < (openF ch a).length) : (openF ch a)[i] = if a.testBit i = true then -1 else ch[i]'(by simpa [openF] using h) := by simp [openF]
theorem given_open {c : List Kind} {l : List Rep} {ch : List Int} (h : givenF c l ch 0 = true) (a : Nat) : givenF c l (openF ch a) (-1) = true := by
  have hl := (given_all h).1
  refine given_mk (given_cat h) (by rw [openF_len, hl]) fun i h1 h2 => ?_
  have := given_at h h1 (by rw [openF_len] at h2; exact h2)
  rw [open_at]
  split <;> omega
theorem given_less {c : List Kind} {l : List Rep} {ch : List Int} (h : givenF c l ch 0 = true) : givenF c l ch (-1) = true := by
  refine given_mk (given_cat h) (given_all h).1 fun i h1 h2 => ?_
  have := given_at h h1 h2
  omega
/-! the least day -/
theorem least_le : ∀ (l : List Int) (a : Int), l.foldl (fun a d => if d < a then d else a) a ≤ a ∧ ∀ d ∈ l, l.foldl (fun a d => if d < a then d else a) a ≤ d
  | [], a => ⟨Int.le_refl _, fun d h => by cases h⟩
  | x :: r, a => by
    obtain ⟨h1, h2⟩ := least_le r (if x < a then x else a)
    rw [List.foldl_cons]
    refine ⟨Int.le_trans h1 (by split <;> omega), fun d hd => ?_⟩
    rcases List.mem_cons.1 hd with rfl | hd
    · exact Int.le_trans h1 (by split <;> omega)
    · exact h2 d hd
theorem least_ge : ∀ (l : List Int) (a m : Int), m ≤ a → (∀ d ∈ l, m ≤ d) → m ≤ l.foldl (fun a d => if d < a then d else a) a
  | [], a, m, h, _ => h
  | x :: r, a, m, h, hl => by
    rw [List.foldl_cons]
    exact least_ge r _ m (by have := hl x (by simp); split <;> omega) fun d hd => hl d (by simp [hd])
theorem mem_open {l : List Rep} {ch : List Int} (hl : ch.length = l.length) {d : Int} : d ∈ openDays l ch l.length ↔ ∃ i, ∃ (h1 : i < l.length), ∃ (h2 : i < ch.length), ch[i] < 0 ∧ ∃ e ∈ l[i].options, e.day = d := by
  rw [openDays, List.mem_flatMap]
  constructor
  · rintro ⟨i, hi, hd⟩
    have hi := List.mem_range.1 hi
    rw [at2_eq hi (by omega)] at hd
    simp only [Option.getD_some] at hd
    split at hd
    · rename_i hc
      obtain ⟨e, he, rfl⟩ := List.mem_map.1 hd
      exact ⟨i, hi, by omega, hc, e, he, rfl⟩
    · cases hd
  · rintro ⟨i, h1, h2, hc, e, he, rfl⟩
    refine ⟨i, List.mem_range.2 h1, ?_⟩
    rw [at2_eq h1 h2]
    simp only [Option.getD_some, if_pos hc]
    exact List.mem_map.2 ⟨e, he, rfl⟩
    
/-! picks before a day -/
theorem pkd_filt {L1 L2 : Int} {l : List Rep} {ch1 ch2 : List Int} {i : Nat} (h1 : i < l.length) (h2 : i < ch1.length) (h3 : i < ch2.length) (h : optAt L1 l[i] ch1[i] = (optAt L2 l[i] ch2[i]).filter fun e => decide (e.day < L1)) :
    pkd L1 l ch1 i = (pkd L2 l ch2 i).filter fun p => decide (p.e.day < L1) := by
  unfold pkd
  rw [at2_eq h1 h2, at2_eq h1 h3, h]
  cases hq : optAt L2 l[i] ch2[i] with
  | none => rfl
  | some e =>
    simp only [Option.join_some, Option.filter_some]
    by_cases hd : e.day < L1
    · simp only [hd, decide_true, if_true]
      split
      · simp [Option.filter, hd]
      · rfl
    · simp only [hd, decide_false, Bool.false_eq_true, if_false]
      split
      · simp [Option.filter, hd]
      · rfl
theorem pick_filt {L1 L2 : Int} {l : List Rep} {ch1 ch2 : List Int} (hl1 : ch1.length = l.length) (hl2 : ch2.length = l.length) (h : ∀ i (h1 : i < l.length) (h2 : i < ch1.length) (h3 : i < ch2.length), optAt L1 l[i] ch1[i] = (optAt L2 l[i] ch2[i]).filter fun e => decide (e.day < L1)) :
    ∀ n, n ≤ l.length → pickF L1 l ch1 n = (pickF L2 l ch2 n).filter fun p => decide (p.e.day < L1) := by
  intro n
  induction n with
  | zero => intro _; rfl
  | succ n ih =>
    intro hn
    rw [pick_succ, pick_succ, List.filter_append, ← ih (by omega), pkd_filt (by omega) (by omega) (by omega) (h n (by omega) (by omega) (by omega))]
    congr 1
    cases pkd L2 l ch2 n with
    | none => rfl
    | some p => by_cases hp : p.e.day < L1 <;> simp [Option.filter, hp]
theorem srt_split {α : Type} [Day α] (L : Int) : ∀ {l : List α}, Srtd l → l = l.filter (fun x => decide (Day.day x < L)) ++ l.filter (fun x => !decide (Day.day x < L))
  | [], _ => rfl
  | x :: r, h => by
    have h' := List.pairwise_cons.1 h
    by_cases hx : Day.day x < L
    · simp only [List.filter_cons, hx, decide_true, if_true, Bool.not_true, Bool.false_eq_true, if_false, List.cons_append]
      rw [← srt_split L h'.2]
    · have h0 : r.filter (fun x => decide (Day.day x < L)) = [] := by
        rw [List.filter_eq_nil_iff]
        intro y hy
        have := h'.1 y hy
        simp; omega
      have h1 : r.filter (fun x => !decide (Day.day x < L)) = r := by
        rw [List.filter_eq_self]
        intro y hy
        have := h'.1 y hy
        simp; omega
      simp [List.filter_cons, hx, h0, h1]
theorem follow_less {c : List Kind} {l : List Rep} {ch1 ch2 : List Int} {L1 L2 : Int} (h : pickF L1 l ch1 l.length = (pickF L2 l ch2 l.length).filter fun p => decide (p.e.day < L1)) (hf : (followF c l ch1 L1).2 ≠ 0) : (followF c l ch2 L2).2 ≠ 0 := by
  unfold followF at hf ⊢
  have e1 : sortF (pickF L1 l ch1 l.length) = (sortF (pickF L2 l ch2 l.length)).filter (fun p => decide (Day.day p < L1)) := by
    rw [h, sortF_filt]; rfl
  have e2 := srt_split L1 (sortF_srt (pickF L2 l ch2 l.length))
  rw [e2, ← e1, follow_app]
  have e3 : runsTo c [] ((sortF (pickF L1 l ch1 l.length)).map Pkd.e) = none := by
    have := follow_ok c (sortF (pickF L1 l ch1 l.length)) []
    rw [decide_eq_false hf] at this
    cases hr : runsTo c [] ((sortF (pickF L1 l ch1 l.length)).map Pkd.e) with
    | none => rfl
    | some s => rw [hr] at this; cases this
  rw [e3]
  exact hf
theorem opt_some {L : Int} {r : Rep} {k : Int} {e : Evt} (h : optAt L r k = some e) : e ∈ r.options := by
  unfold optAt at h
  split at h
  · split at h
    · rename_i x hx
      split at h
      · cases h; exact List.mem_of_getElem? hx
      · cases h
    · cases h
  · cases h
theorem opt_less {L1 L2 : Int} (hL : L1 ≤ L2) (r : Rep) (k : Int) : optAt L1 r k = (optAt L2 r k).filter fun e => decide (e.day < L1) := by
  unfold optAt
  split
  · cases r.options[k.toNat]? with
    | none => rfl
    | some e =>
      simp only
      by_cases h : e.day < L1
      · rw [if_pos h, if_pos (by omega)]; simp [Option.filter, h]
      · rw [if_neg h]
        split
        · simp [Option.filter, h]
        · rfl
  · rfl
theorem false_is {c : List Kind} {l : List Rep} {ch : List Int} (hg : givenF c l ch 0 = true) : falseF c l ch = !isF c l ch := by
  have hl := (given_all hg).1
  have h0 : openDays l ch l.length = [] := by
    rw [List.eq_nil_iff_forall_not_mem]
    intro d hd
    obtain ⟨i, h1, h2, hc, _⟩ := (mem_open hl).1 hd
    have := given_at hg h1 h2
    omega
  rw [falseF, if_neg (by rw [given_less hg]; decide), isF, failsF, if_neg (by rw [hg]; decide), h0]
  rfl
end Go.Sx

/- The events that are picked, without the reports' places. -/
set_option linter.all false
namespace Go.Sx
open Go
/-- the events that are picked before a day -/
def pickE (day : Int) (l : List Rep) (ch : List Int) : List Evt := (l.zip ch).filterMap fun p => optAt day p.1 p.2
theorem pickE_take (day : Int) (l : List Rep) (ch : List Int) (hl : ch.length = l.length) (hv : ∀ r ∈ l, validRep r = true) : ∀ n, n ≤ l.length → (pickF day l ch n).map Pkd.e = ((l.zip ch).take n).filterMap fun p => optAt day p.1 p.2 := by
  intro n
  induction n with
  | zero => intro _; rfl
  | succ n ih =>
    intro hn
    have h1 : n < l.length := by omega
    have h2 : n < ch.length := by omega
    have h3 : n < (l.zip ch).length := by simp; omega
    rw [pick_succ, List.map_append, ih (by omega), ← take_succ_of h3, List.filterMap_append]
    congr 1
    have e : (l.zip ch)[n] = (l[n], ch[n]) := by simp
    rw [e, pkd, at2_eq h1 h2]
    cases hq : optAt day l[n] ch[n] with
    | none => simp [hq]
    | some x =>
      have hd := validE_day (validRep_e (hv _ (List.getElem_mem h1)) x (opt_some hq))
      simp [hq, hd]
theorem pickE_eq {day : Int} {l : List Rep} {ch : List Int} (hl : ch.length = l.length) (hv : ∀ r ∈ l, validRep r = true) : (pickF day l ch l.length).map Pkd.e = pickE day l ch := by
  rw [pickE_take day l ch hl hv l.length (Nat.le_refl _), pickE, List.take_of_length_le (by simp; omega)]
/-- whether it is possible depends on the events alone -/
theorem follow_ev {c : List Kind} {l : List Rep} {ch : List Int} {day : Int} (hl : ch.length = l.length) (hv : ∀ r ∈ l, validRep r = true) : decide ((followF c l ch day).2 = 0) = (runsTo c [] (sortF (pickE day l ch))).isSome := by
  rw [followF, follow_ok, sortF_map Pkd.e (fun _ => rfl), pickE_eq hl hv]
theorem cut_whole {α : Type} {l : List α} {k : Nat} (h : k < l.length) : l = l.take k ++ l[k] :: l.drop (k + 1) := by
  rw [← List.drop_eq_getElem_cons h, List.take_append_drop]
theorem is_ev {c : List Kind} {l : List Rep} {ch : List Int} (hg : givenF c l ch 0 = true) : isF c l ch = (runsTo c [] (sortF (pickE 40001 l ch))).isSome := by
  obtain ⟨hl, hv⟩ := given_all hg
  rw [isF, failsF, if_neg (by rw [hg]; decide), follow_ev hl hv]
theorem is_no {c : List Kind} {l : List Rep} {ch : List Int} (hg : givenF c l ch 0 = false) : isF c l ch = false := by
  rw [isF, failsF, if_pos hg]; rfl
/-! the law -/
end Go.Sx

/- Searching: all choices, in order; what is false has no history. -/
set_option linter.all false
namespace Go.Sx
open Go
/-- the choices of a list of reports, in order -/
def allCh : List Rep → List (List Int)
  | [] => [[]]
  | r :: l => (List.range (chs r).toNat).flatMap fun (k : Nat) => (allCh l).map fun t => (k : Int) :: t
/-- the histories -/
def histF (c : List Kind) (l : List Rep) : List (List Int) := (allCh l).filter (isF c l)
theorem all_mem : ∀ {l : List Rep} {t : List Int}, t ∈ allCh l ↔ t.length = l.length ∧ ∀ i (h1 : i < l.length) (h2 : i < t.length), 0 ≤ t[i] ∧ t[i] < chs l[i]
  | [], t => by
    simp only [allCh, List.mem_singleton, List.length_nil]
    constructor
    · rintro rfl; exact ⟨rfl, fun i h => absurd h (Nat.not_lt_zero i)⟩
    · rintro ⟨h, _⟩; exact List.eq_nil_of_length_eq_zero h
  | r :: l, t => by
    simp only [allCh, List.mem_flatMap, List.mem_range, List.mem_map]
    constructor
    · rintro ⟨k, hk, s, hs, rfl⟩
      obtain ⟨h1, h2⟩ := all_mem.1 hs
      refine ⟨by simp [h1], fun i h3 h4 => ?_⟩
      cases i with
      | zero => simp only [List.getElem_cons_zero]; omega
      | succ i => simpa using h2 i (by simpa using h3) (by simpa using h4)
    · rintro ⟨h1, h2⟩
      cases t with
      | nil => simp at h1
      | cons x s =>
        have h0 := h2 0 (by simp) (by simp)
        simp only [List.getElem_cons_zero] at h0
        refine ⟨x.toNat, by omega, s, all_mem.2 ⟨by simpa using h1, fun i h3 h4 => ?_⟩, by rw [Int.toNat_of_nonneg h0.1]⟩
        exact h2 (i + 1) (by simpa using h3) (by simpa using h4)
/-- choices that open ones stand for are no more open -/
theorem false_more {c : List Kind} {l : List Rep} {ch1 ch2 : List Int} (g1 : givenF c l ch1 (-1) = true) (g2 : givenF c l ch2 (-1) = true) (hs : ∀ i (h1 : i < ch1.length) (h2 : i < ch2.length), ch1[i] = ch2[i] ∨ ch1[i] < 0) (h : falseF c l ch1 = true) : falseF c l ch2 = true := by
  have la := (given_all g1).1
  have lb := (given_all g2).1
  unfold falseF at h ⊢
  rw [if_neg (by rw [g1]; decide)] at h
  rw [if_neg (by rw [g2]; decide)]
  simp only [Bool.not_eq_true', decide_eq_false_iff_not] at h ⊢
  have hL : leastF (openDays l ch1 l.length) ≤ leastF (openDays l ch2 l.length) := by
    refine least_ge _ _ _ (least_le _ _).1 fun d hd => ?_
    refine (least_le _ _).2 d ?_
    rw [mem_open lb] at hd
    obtain ⟨i, h1, h2, hc, e, he, rfl⟩ := hd
    refine (mem_open la).2 ⟨i, h1, by omega, ?_, e, he, rfl⟩
    rcases hs i (by omega) h2 with h3 | h3
    · rw [h3]; exact hc
    · exact h3
  refine follow_less (pick_filt la lb (fun i h1 h2 h3 => ?_) _ (Nat.le_refl _)) h
  rcases hs i h2 h3 with h4 | h4
  · rw [h4]; exact opt_less hL _ _
  · have e1 : optAt (leastF (openDays l ch1 l.length)) l[i] ch1[i] = none := by unfold optAt; rw [if_neg (by omega)]
    rw [e1]
    cases hq : optAt (leastF (openDays l ch2 l.length)) l[i] ch2[i] with
    | none => rfl
    | some e =>
      have h5 : leastF (openDays l ch1 l.length) ≤ e.day := (least_le _ _).2 _ ((mem_open la).2 ⟨i, h1, h2, h4, e, opt_some hq, rfl⟩)
      have h6 : ¬ e.day < leastF (openDays l ch1 l.length) := by omega
      simp [Option.filter, h6]
/-- what is not decided yet -/
def openT (rs : List Rep) : List Int := rs.map fun r => if 1 < chs r then -1 else 0
/-- the histories that begin with some choices -/
def resF (c : List Kind) (l : List Rep) (pre : List Int) (rs : List Rep) : List (List Int) := ((allCh rs).map (pre ++ ·)).filter (isF c l)
theorem res_nil (c : List Kind) (l : List Rep) (pre : List Int) : resF c l pre [] = if isF c l pre = true then [pre] else [] := by
  simp only [resF, allCh, List.map_cons, List.map_nil, List.append_nil, List.filter_cons, List.filter_nil]
theorem res_cons (c : List Kind) (l : List Rep) (pre : List Int) (r : Rep) (rs : List Rep) : resF c l pre (r :: rs) = (List.range (chs r).toNat).flatMap fun (k : Nat) => resF c l (pre ++ [(k : Int)]) rs := by
  simp only [resF, allCh, List.map_flatMap, List.filter_flatMap, List.map_map]
  congr 1
  funext k
  congr 2
  funext t
  simp
theorem res_one {c : List Kind} {l : List Rep} {pre : List Int} {r : Rep} {rs : List Rep} (h : chs r = 1) : resF c l pre (r :: rs) = resF c l (pre ++ [0]) rs := by
  rw [res_cons, h]; simp
theorem hist_res (c : List Kind) (l : List Rep) : histF c l = resF c l [] l := by
  simp [histF, resF]
/-- choices that are decided, and open ones behind them -/
structure Mid (c : List Kind) (l : List Rep) (pre : List Int) (rs : List Rep) : Prop where
  cat : validC c = true
  pos : ∀ r ∈ l, chs r ≠ 0
  is : ∃ a, l = a ++ rs ∧ pre.length = a.length ∧ ∀ i (h1 : i < a.length) (h2 : i < pre.length), 0 ≤ pre[i] ∧ pre[i] < chs a[i]
theorem chs_nn (r : Rep) : 0 ≤ chs r := by
  unfold chs; split
  · omega
  · split <;> omega
theorem mid_start {c : List Kind} {l : List Rep} (hc : validC c = true) (hp : ∀ r ∈ l, chs r ≠ 0) : Mid c l [] l := ⟨hc, hp, [], rfl, rfl, fun i h => absurd h (Nat.not_lt_zero i)⟩
theorem Mid.next {c : List Kind} {l : List Rep} {pre : List Int} {r : Rep} {rs : List Rep} (h : Mid c l pre (r :: rs)) {k : Int} (h0 : 0 ≤ k) (hk : k < chs r) : Mid c l (pre ++ [k]) rs := by
  obtain ⟨a, e1, e2, e3⟩ := h.is
  refine ⟨h.cat, h.pos, a ++ [r], by rw [e1]; simp, by simp [e2], fun i h1 h2 => ?_⟩
  by_cases hi : i < a.length
  · rw [List.getElem_append_left hi, List.getElem_append_left (by omega)]
    exact e3 i hi (by omega)
  · have : i = a.length := by simp at h1; omega
    subst this
    simp [← e2, h0, hk]
theorem Mid.len {c : List Kind} {l : List Rep} {pre : List Int} {rs : List Rep} (h : Mid c l pre rs) : pre.length + rs.length = l.length := by
  obtain ⟨a, e1, e2, _⟩ := h.is
  rw [e1, List.length_append, e2]
theorem Mid.given {c : List Kind} {l : List Rep} {pre : List Int} {rs : List Rep} (h : Mid c l pre rs) {t : List Int} (ht : t.length = rs.length) {n : Int} (hn : n ≤ 0) (hb : ∀ i (h1 : i < rs.length) (h2 : i < t.length), n ≤ t[i] ∧ t[i] < chs rs[i]) : givenF c l (pre ++ t) n = true := by
  obtain ⟨a, e1, e2, e3⟩ := h.is
  refine given_mk h.cat (by rw [List.length_append, ht]; exact h.len) fun i h1 h2 => ?_
  refine ⟨h.pos _ (List.getElem_mem h1), ?_⟩
  subst e1
  by_cases hi : i < a.length
  · rw [List.getElem_append_left hi, List.getElem_append_left (by omega)]
    have := e3 i hi (by omega)
    omega
  · rw [List.length_append] at h1
    rw [List.getElem_append_right (by omega), List.getElem_append_right (by omega)]
    have := hb (i - a.length) (by omega) (by omega)
    simpa [e2] using this
theorem Mid.given_open {c : List Kind} {l : List Rep} {pre : List Int} {rs : List Rep} (h : Mid c l pre rs) : givenF c l (pre ++ openT rs) (-1) = true := by
  refine h.given (by simp [openT]) (by omega) fun i h1 h2 => ?_
  have hp := h.pos rs[i] (by obtain ⟨a, e1, _⟩ := h.is; rw [e1]; exact List.mem_append_right _ (List.getElem_mem h1))
  have := chs_nn rs[i]
  simp only [openT, List.getElem_map]
  split <;> omega
theorem res_prune {c : List Kind} {l : List Rep} {pre : List Int} {rs : List Rep} (h : Mid c l pre rs) (hf : falseF c l (pre ++ openT rs) = true) : resF c l pre rs = [] := by
  rw [resF, List.filter_eq_nil_iff]
  intro x hx
  obtain ⟨t, ht, rfl⟩ := List.mem_map.1 hx
  obtain ⟨h1, h2⟩ := all_mem.1 ht
  have g0 : givenF c l (pre ++ t) 0 = true := h.given h1 (Int.le_refl _) h2
  have g1 := given_less g0
  have hl := (given_all h.given_open).1
  have := false_more h.given_open g1 (fun i h3 h4 => by
    by_cases hi : i < pre.length
    · left; rw [List.getElem_append_left hi, List.getElem_append_left hi]
    · rw [List.getElem_append_right (by omega), List.getElem_append_right (by omega)]
      have h5 : i - pre.length < rs.length := by simp [openT] at h3; omega
      have := h2 (i - pre.length) h5 (by omega)
      simp only [openT, List.getElem_map]
      split
      · right; omega
      · left; omega) hf
  rw [false_is g0] at this
  simpa using this
end Go.Sx

/- Searching: what the functions answer, and the plain laws of them. -/
set_option linter.all false
namespace Go.Sx
open Go
def dbtF (l : List Rep) : Nat := (l.filter fun r => decide (1 < chs r)).length
/-- the error of a catalog and reports -/
def errF (c : List Kind) (l : List Rep) : Int := if validC c = false then 1 else if l.any (fun r => decide (chs r = 0)) = true then 1 else if (30 : Int) < (dbtF l : Nat) then 7 else 0
def allF (c : List Kind) (l : List Rep) (most : Int) : List (List Int) × Int :=
  if (decide (most < 1) || decide (4096 < most)) = true then ([], 1) else if errF c l ≠ 0 then ([], errF c l) else if (histF c l).take most.toNat = [] then ([], 21) else ((histF c l).take most.toNat, 0)
def firstF (c : List Kind) (l : List Rep) : List Int × Int := if (allF c l 1).2 ≠ 0 then ([], (allF c l 1).2) else ((allF c l 1).1.headD [], 0)
theorem err_zero {c : List Kind} {l : List Rep} (h : errF c l = 0) : validC c = true ∧ ∀ r ∈ l, chs r ≠ 0 := by
  unfold errF at h
  split at h
  · cases h
  · rename_i hc
    split at h
    · cases h
    · rename_i ha
      exact ⟨by simpa using hc, fun r hr h0 => ha (List.any_eq_true.2 ⟨r, hr, by simp [h0]⟩)⟩
theorem all_given {c : List Kind} {l : List Rep} (hc : validC c = true) (hp : ∀ r ∈ l, chs r ≠ 0) (t : List Int) : givenF c l t 0 = true ↔ t ∈ allCh l := by
  rw [all_mem]
  constructor
  · intro h
    exact ⟨(given_all h).1, fun i h1 h2 => by have := given_at h h1 h2; omega⟩
  · rintro ⟨h1, h2⟩
    exact given_mk hc h1 fun i h3 h4 => ⟨hp _ (List.getElem_mem h3), h2 i h3 h4⟩
theorem is_given {c : List Kind} {l : List Rep} {t : List Int} (h : isF c l t = true) : givenF c l t 0 = true := by
  cases hg : givenF c l t 0 with
  | true => rfl
  | false => rw [is_no hg] at h; cases h
theorem hist_mem {c : List Kind} {l : List Rep} (t : List Int) : t ∈ histF c l ↔ isF c l t = true := by
  rw [histF, List.mem_filter]
  constructor
  · exact fun h => h.2
  · intro h
    have hg := is_given h
    refine ⟨?_, h⟩
    exact (all_given (given_cat hg) (fun r hr h0 => by
      obtain ⟨i, hi, rfl⟩ := List.getElem_of_mem hr
      exact (given_at hg hi (by have := (given_all hg).1; omega)).1 h0) t).1 hg
/-! the order -/
/-! how many -/
def waysN : List Rep → Nat
  | [] => 1
  | r :: l => (chs r).toNat * waysN l
theorem all_len : ∀ l : List Rep, (allCh l).length = waysN l
  | [] => rfl
  | r :: l => by
    rw [allCh, List.length_flatMap, waysN]
    simp only [List.length_map, all_len l]
    rw [List.map_const', List.sum_replicate_nat, List.length_range]
/-- the answer of All where it is none of the limits -/
theorem all_is {c : List Kind} {l : List Rep} {most : Int} (h1 : 1 ≤ most) (h2 : most ≤ 4096) (he : errF c l = 0) : allF c l most = if (histF c l).take most.toNat = [] then ([], 21) else ((histF c l).take most.toNat, 0) := by
  unfold allF
  rw [if_neg (by simp; omega), if_neg (by simp [he])]
theorem all_err {c : List Kind} {l : List Rep} {most : Int} (h1 : 1 ≤ most) (h2 : most ≤ 4096) (he : errF c l ≠ 0) : allF c l most = ([], errF c l) := by
  unfold allF
  rw [if_neg (by simp; omega), if_pos he]
theorem all_code {c : List Kind} {l : List Rep} {most : Int} (h1 : 1 ≤ most) (h2 : most ≤ 4096) : (allF c l most).2 = if errF c l ≠ 0 then errF c l else if histF c l = [] then 21 else 0 := by
  by_cases he : errF c l = 0
  · rw [all_is h1 h2 he, if_neg (show ¬ (errF c l ≠ 0) by simp [he])]
    have : (histF c l).take most.toNat = [] ↔ histF c l = [] := by
      rw [List.take_eq_nil_iff]
      constructor
      · rintro (h | h)
        · omega
        · exact h
      · exact .inr
    by_cases hh : histF c l = []
    · rw [if_pos (this.2 hh), if_pos hh]
    · rw [if_neg (fun h => hh (this.1 h)), if_neg hh]
  · rw [all_err h1 h2 he, if_pos he]
theorem all_list {c : List Kind} {l : List Rep} {most : Int} (h1 : 1 ≤ most) (h2 : most ≤ 4096) (he : errF c l = 0) : (allF c l most).1 = (histF c l).take most.toNat := by
  rw [all_is h1 h2 he]
  split
  · rename_i h; exact h.symm
  · rfl
theorem err_cases (c : List Kind) (l : List Rep) : errF c l = 0 ∨ errF c l = 1 ∨ errF c l = 7 := by
  unfold errF
  split
  · simp
  · split
    · simp
    · split <;> simp
end Go.Sx

/- Deferred calls of closures. -/
set_option linter.all false
namespace Go.Sx
open Go
/-- behind a region whose last operation defers a call -/
def DefN (P : Program) (o : Oper) (Q : Exit → Act → World → Prop) : Exit → Act → World → Prop
  | .normal, a, w => ∃ d, (execOp a.eval o).run P w = .ok (.defer d) w ∧ Q .normal { a with defers := d :: a.defers } w
  | e, a, w => Q e a w
theorem wpL_inD {P : Program} {ops : Array Oper} {Q : Exit → Act → World → Prop} {o : Oper} (hn : o.dst = none) (hg : o.guard = none) : ∀ (l : List Oper) (a : Act) (w : World), wpL P ops (DefN P o Q) l a w → wpListIn (fen none) 0 P ops Q (l ++ [o]) a w
  | [], a, w, h => by
    obtain ⟨d, h1, h2⟩ : ∃ d, (execOp a.eval o).run P w = .ok (.defer d) w ∧ Q .normal { a with defers := d :: a.defers } w := h
    show wpListIn (fen none) 0 P ops Q [o] a w
    unfold wpListIn
    rw [if_pos (by simp [Region.wanted, hg])]
    refine ⟨fun _ _ => trivial, ?_⟩
    have e : Oper.semAt (fen none).round a.eval o = execOp a.eval o := rfl
    rw [e, h1]
    show wpListIn (fen none) 0 P ops Q [] (Act.put { a with defers := d :: a.defers } o.dst undef) w
    rw [hn]
    exact h2
  | o' :: rest, a, w, h => by
    have h : one P ops (DefN P o Q) o' (wpL P ops (DefN P o Q) rest) a w := h
    have h : one P ops Q o' (wpListIn (fen none) 0 P ops Q (rest ++ [o])) a w := one_mono (fun a w h => wpL_inD hn hg rest a w h) h
    unfold one at h
    show wpListIn (fen none) 0 P ops Q (o' :: (rest ++ [o])) a w
    unfold wpListIn
    split
    · rename_i hw; rw [if_pos hw] at h; exact wq_wpIn h
    · rename_i hw; rw [if_neg hw] at h; exact ⟨fun _ _ => trivial, h⟩
/-- the contract of a closure that is called on the way out -/
structure FnDf (P : Program) (f : FuncId) (args : Array Value) (I : IMap) (H : List Res) (post : IMap → List Res → Prop) : Prop where
  go : ∀ w, Mem ⟨foots H, I, w⟩ I H w → CallsDIn Fence.wide 0 P f args .returning w fun e u w' => u = .returning ∧ ∃ v I' H', e = .returned v ∧ Mem ⟨foots H, I, w⟩ I' H' w' ∧ post I' H'
section
variable {P : Program} {ρ : Option Nat} {n : Sz} {E : Ent} {I : IMap} {L : LL} {H : List Res} {Q : Exit → Act → World → Prop} {ops : Array Oper}
variable {ty : Nat} {pos : String} {af : Array Edge} {fo : Operand} {as_ : List Operand} {ats : Array TypeId} {f : FuncId}
theorem c_region2D {id : Nat} {o1 o2 : Oper} (hn : o2.dst = none) (hg : o2.guard = none) (h : SX n E I L H (wpL P [o1, o2].toArray (DefN P o2 Q) [o1])) : SX n E I L H ((Code.region id [o1, o2].toArray false).wq none P Q) :=
  fun a w s m => wpIn_region_lit (wpL_inD (l := [o1]) hn hg _ _ (h a w s m))
theorem q_defn {fs cs : Array Value} {vs : List Value} (hf : ev L fo = some (.func (.func f) fs cs)) (ha : evs L as_ = some vs)
    (h : SX ⟨n.sz, .f { target := .fn (.func f) cs, args := fs ++ vs.toArray } :: n.D⟩ E I L H (Q .normal)) : SX n E I L H (DefN P ⟨none, .defer { callee := .value fo, args := as_.toArray, argTypes := ats }, ty, pos, af, none⟩ Q .normal) := fun a w s m => by
  refine ⟨_, ?_, h { a with defers := _ } w ⟨s.size, by show _ :: a.defers = _; rw [s.defers]; rfl, s.get⟩ m⟩
  have e := evs_spec s as_ vs ha
  simp only [execOp, resolve, s.ev hf]
  simp [Deferred.ofValue, e, go_sem]
  rfl
theorem q_fdefer {k : Nat} {D : List Mk} {fn : Func} {R : Ending → World → Prop} {Hc H0 : List Res} {args cap : Array Value} {post : IMap → List Res → Prop} (hcall : ∀ (args : Array Value) (w : World), (callFunc f args).run P w = .ok (.enter f args) w)
    (hc : FnDf P f (args ++ cap) I Hc post) (kk : ∀ I' H', ILe I I' → post I' H' → SX ⟨k, D⟩ E I' L (H' ++ H0) (FinQ P fn R .ret)) :
    SX ⟨k, .f { target := .fn (.func f) cap, args := args } :: D⟩ E I L (Hc ++ H0) (FinQ P fn R .ret) := fun a w s m => by
  show LeavesInM Fence.wide 0 P fn a.tmps R a.defers .returning w
  rw [s.defers]
  refine ⟨by simp, .inr ⟨fun h => by simp [Fence.wide] at h, .func f, cap, f, args ++ cap, rfl, ?_, fun _ _ => trivial, CallsDIn.mono (hc.go w m.call) ?_⟩⟩
  · simp [invoke, go_sem, hcall, Mk.of]
  · rintro e u w' ⟨rfl, v, I', H', rfl, hm, hp⟩
    have := kk I' H' hm.mono hp { a with defers := (Sz.mk k D).marks } w' ⟨s.size, rfl, s.get⟩ (m.back hm)
    exact this
/-- its body -/
def FinD (P : Program) (fn : Func) (R : Ending → World → Prop) : Exit → Act → World → Prop := bodyPost P fn R
theorem enterD {fn : Func} {c : Code} {args : List Value} {k : Nat} {post : IMap → List Res → Prop} (hf : P.funcs[f]? = some fn) (hb : fn.body = some c) (hn : fn.ntmps = k)
    (hl : Nat.ble args.length k = true) (h : ∀ w, SX ⟨k, []⟩ ⟨foots H, I, w⟩ I (argsL args 0) H (c.wq none P (FinD P fn (Post ⟨foots H, I, w⟩ fun _ I' H' => post I' H')))) : FnDf P f args.toArray I H post := by
  refine ⟨fun w m => ?_⟩
  refine CallsDIn.mono (callsDIn_of_wp (F := Fence.wide) hf hb trivial (h w _ _ ⟨?_, rfl, ?_⟩ m)) ?_
  · simp only [List.size_toArray, Array.size_append, Array.size_replicate, hn]
    have : args.length ≤ k := by simpa using hl
    omega
  · intro i v hv
    obtain ⟨_, h2⟩ := look_argsL args 0 i v hv
    have hlt : i < args.length := by
      rcases Nat.lt_or_ge i args.length with h | h
      · exact h
      · simp [List.getElem?_eq_none h] at h2
    rw [Array.getElem?_append_left (by simpa using hlt)]
    simpa using h2
  · rintro e u w' ⟨rfl, v, I', H', rfl, hm, hp⟩
    exact ⟨rfl, v, I', H', rfl, hm, hp⟩
theorem endD0 {k : Nat} {fn : Func} {R : Ending → World → Prop} (hf : fn.results = #[]) (h : SX ⟨k, []⟩ E I L H fun _ w => R (.returned (.tuple #[])) w) : SX ⟨k, []⟩ E I L H (FinD P fn R .normal) := fun a w s m =>
  ⟨by rw [s.defers]; rfl, _, run0 hf a w, h a w s m⟩
end
end Go.Sx

/- A block that is lent to a callee that makes memory of its own; calls with a tail of resources. -/
set_option linter.all false
namespace Go.Sx
open Go
section
variable {P : Program} {ρ : Option Nat} {n : Sz} {E : Ent} {I : IMap} {L : LL} {H : List Res} {Q : Exit → Act → World → Prop} {ops : Array Oper} {K : Act → World → Prop}
variable {d ty : Nat} {pos : String} {af : Array Edge} {fo : Operand} {as_ : List Operand} {ats : Array TypeId} {f : FuncId} {args : List Value} {g t : Nat} {cs : List Value} {w : World}
theorem lend_ile (mm : Mem E I H w) (hm : Res.blk g t cs ∈ H) : ILe I (I.pub g (.cells cs.toArray t (0, 0))) := IMap.pub_le _ (mm.priv _ hm g rfl).1
theorem lend_cells : ICells (I.pub g (.cells cs.toArray t (0, 0))) g 0 cs := fun j u hu => ⟨_, t, (0, 0), IMap.pub_same _ _ _, by rw [Nat.zero_add]; simpa using hu⟩
theorem lend_mem (mm : Mem E I H w) (hm : Res.blk g t cs ∈ H) : Mem ⟨[], I.pub g (.cells cs.toArray t (0, 0)), w⟩ (I.pub g (.cells cs.toArray t (0, 0))) [] w :=
  ⟨Upd.refl _ _, fun b o hb => by
    have hg : w.heap[g]? = some (.cells cs.toArray t (0, 0)) := mm.holds _ hm
    unfold IMap.pub at hb
    split at hb
    · rename_i e; subst e; cases hb; exact hg
    · exact mm.con b o hb, ILe.refl _, fun b hb => .inl hb, fun _ h => (by cases h), fun _ h => (by cases h), List.nodup_nil⟩
/-- the callee reads the block, and makes memory that nobody keeps -/
theorem o_lendI {v : Value} (hm : Res.blk g t cs ∈ H) (hc : ∀ I2, ILe I I2 → ICells I2 g 0 cs → FnI P f args.toArray I2 fun u _ => u = v) (h : callArgs L fo as_ = some (f, args)) (hd : Nat.blt d n.sz = true)
    (kk : SX n E I ((d, v) :: L) H K) : SX n E I L H (one P ops Q ⟨some d, .call { callee := .value fo, args := as_.toArray, argTypes := ats }, ty, pos, af, none⟩ K) := by
  intro a w s mm
  have h1 := (hc _ (lend_ile mm hm) lend_cells).go w (lend_mem mm hm)
  unfold one
  rw [if_pos (by rfl)]
  refine wq_after ?_
  unfold After at h1 ⊢
  rw [run_call s h ⟨some d, .call { callee := .value fo, args := as_.toArray, argTypes := ats }, ty, pos, af, none⟩ rfl (ats := ats)]
  have key : ∀ e w'', Post ⟨[], (I.pub g (.cells cs.toArray t (0, 0))), w⟩ (fun u I' H' => u = v ∧ H' = []) e w'' → (match e with | .returned v => K (a.put (some d) v) w'' | _ => False) := by
    rintro e w'' ⟨u, I', H', rfl, hm', rfl, rfl⟩
    exact kk _ _ (s.put hd) (mm.other hm'.upd.os hm'.upd.tape hm'.upd.output hm'.upd.size (fun k hk => hm'.upd.block k hk (by simp)))
  split at h1
  · rename_i v w' hr; exact key _ _ h1
  · rename_i f' args' w' hr; exact Calls.mono h1 key
  · rename_i l f' tmps assign body w' hr; exact RoundIn.mono h1 key
  · exact h1.elim
/-- the callee reads the block, and gives something new -/
theorem o_lendX {p : Value → Res → Prop} (hm : Res.blk g t cs ∈ H) (hc : ∀ I2, ILe I I2 → ICells I2 g 0 cs → FnX P f args.toArray I2 [] p) (h : callArgs L fo as_ = some (f, args)) (hd : Nat.blt d n.sz = true)
    (kk : ∀ u r, p u r → SX n E I ((d, u) :: L) (r :: H) K) : SX n E I L H (one P ops Q ⟨some d, .call { callee := .value fo, args := as_.toArray, argTypes := ats }, ty, pos, af, none⟩ K) := by
  intro a w s mm
  have h1 := (hc _ (lend_ile mm hm) lend_cells).go w (lend_mem mm hm)
  unfold one
  rw [if_pos (by rfl)]
  refine wq_after ?_
  unfold After at h1 ⊢
  rw [run_call s h ⟨some d, .call { callee := .value fo, args := as_.toArray, argTypes := ats }, ty, pos, af, none⟩ rfl (ats := ats)]
  have key : ∀ e w'', Post ⟨[], (I.pub g (.cells cs.toArray t (0, 0))), w⟩ (fun u I' H' => I' = (I.pub g (.cells cs.toArray t (0, 0))) ∧ ∃ r, H' = [r] ∧ p u r) e w'' → (match e with | .returned v => K (a.put (some d) v) w'' | _ => False) := by
    rintro e w'' ⟨u, I', H', rfl, hm', rfl, r, rfl, hp⟩
    refine kk u r hp _ _ (s.put hd) (mm.new hm'.upd.os hm'.upd.tape hm'.upd.output hm'.upd.size (fun k hk => hm'.upd.block k hk (by simp)) (hm'.holds r (List.mem_cons_self ..)) fun b hb => ?_)
    rcases (hm'.priv r (List.mem_cons_self ..) b hb).2 with h | h
    · exact h
    · cases h
  split at h1
  · rename_i v w' hr; exact key _ _ h1
  · rename_i f' args' w' hr; exact Calls.mono h1 key
  · rename_i l f' tmps assign body w' hr; exact RoundIn.mono h1 key
  · exact h1.elim
/-- the callee takes all resources but the first one -/
theorem o_callT {r0 : Res} {Hc : List Res} {post : Value → IMap → List Res → Prop} (hc : FnH P f args.toArray I Hc post) (h : callArgs L fo as_ = some (f, args)) (hd : Nat.blt d n.sz = true)
    (k : ∀ u I' H', ILe I I' → post u I' H' → SX n E I' ((d, u) :: L) (r0 :: H') K) :
    SX n E I L (r0 :: Hc) (one P ops Q ⟨some d, .call { callee := .value fo, args := as_.toArray, argTypes := ats }, ty, pos, af, none⟩ K) := by
  refine sx_perm (H' := Hc ++ [r0]) (by simpa using List.perm_append_comm (l₁ := [r0]) (l₂ := Hc)) ?_
  refine o_callH (Hc := Hc) (H0 := [r0]) hc h hd fun u I' H' hI hp => ?_
  exact sx_perm (H' := r0 :: H') (by simpa using List.perm_append_comm (l₁ := H') (l₂ := [r0])) (k u I' H' hI hp)
/-- all resources -/
theorem o_callA {Hc : List Res} {post : Value → IMap → List Res → Prop} (hc : FnH P f args.toArray I Hc post) (h : callArgs L fo as_ = some (f, args)) (hd : Nat.blt d n.sz = true)
    (k : ∀ u I' H', ILe I I' → post u I' H' → SX n E I' ((d, u) :: L) H' K) :
    SX n E I L Hc (one P ops Q ⟨some d, .call { callee := .value fo, args := as_.toArray, argTypes := ats }, ty, pos, af, none⟩ K) := by
  refine sx_perm (H' := Hc ++ []) (by simp) ?_
  refine o_callH (Hc := Hc) (H0 := []) hc h hd fun u I' H' hI hp => ?_
  exact sx_perm (H' := H') (by simp) (k u I' H' hI hp)
end
section
variable {P : Program} {n : Sz} {E : Ent} {I : IMap} {L : LL} {H : List Res} {K : Act → World → Prop}
theorem d_startT2 {ρ : Option Nat} {Q : Exit → Act → World → Prop} {l : List Oper} {r1 r2 : Res} {id : Nat} (hm : P.follows .mixedOrders = true)
    (h : SX n E I L (r1 :: r2 :: H) (wpAnyC P l.toArray (NQ Q) (Keeps E I [r1, r2]) l.length (Array.replicate l.length false))) : SX n E I L (r1 :: r2 :: H) ((Code.region id l.toArray true).wq ρ P Q) := d_start [r1, r2] hm h
theorem sx_blkeq {g t : Nat} {cs : List Value} (cs2 : List Value) (e : cs = cs2) (h : SX n E I L (.blk g t cs2 :: H) K) : SX n E I L (.blk g t cs :: H) K := e ▸ h
theorem sx_app1' {a : Res} (h : SX n E I L (a :: H) K) : SX n E I L ([a] ++ H) K := h
theorem sx_app2' {a b : Res} (h : SX n E I L (a :: b :: H) K) : SX n E I L ([a, b] ++ H) K := h
end
/-- numbers in a block of their own -/
def intCs (ch : List Int) : List Value := ch.map ci
theorem intCs_len (ch : List Int) : (intCs ch).length = ch.length := by simp [intCs]
theorem intCs_at {ch : List Int} {i : Nat} (h : i < ch.length) : (intCs ch)[i]? = some (ci ch[i]) := by simp [intCs, h]
theorem intCs_set (ch : List Int) (i : Nat) (x : Int) : (intCs ch).set i (ci x) = intCs (ch.set i x) := by simp [intCs, List.map_set]
theorem intCs_rd {I : IMap} {g : Nat} {ch : List Int} (h : ICells I g 0 (intCs ch)) (hl : ch.length ≤ 9223372036854775807) : RdS I (.slice (some ⟨g, 0, none⟩) ch.length ch.length) ch := by
  refine ⟨some ⟨g, 0, none⟩, ch.length, rfl, fun hp => ⟨g, 0, rfl, fun i x hi => ⟨[ci x], fun j u hu => ?_, rfl⟩⟩, Nat.le_refl _, hl⟩
  have h1 : (intCs ch)[i]? = some (ci x) := by simp [intCs, hi]
  cases j with
  | zero =>
    have e : u = ci x := by simpa using hu.symm
    subst e
    have := h i _ h1
    have e2 : 0 + i * Enc.k Int + 0 = 0 + i := by show 0 + i * 1 + 0 = 0 + i; omega
    rw [e2]; exact this
  | succ j => simp at hu
theorem intCs_rep (n : Nat) : (List.replicate n [ci 0]).flatten = intCs (List.replicate n 0) := by
  induction n with
  | zero => rfl
  | succ n ih => rw [List.replicate_succ, List.flatten_cons, ih]; rfl
theorem intCs_flat {I : IMap} (ch : List Int) : Flat I (intCs ch) ch := by
  induction ch with
  | nil => exact .nil
  | cons x r ih => exact .cons rfl ih
theorem flat_ints {I : IMap} {xs : List Value} {l : List Int} (h : Flat I xs l) : xs = intCs l := by
  induction h with
  | nil => rfl
  | cons h1 _ ih => rw [ih]; rw [show _ = _ from h1]; rfl
section
variable {P : Program} {ρ : Option Nat} {n : Sz} {E : Ent} {I I' : IMap} {L : LL} {H H0 : List Res} {Q : Exit → Act → World → Prop} {ops : Array Oper} {K : Act → World → Prop}
variable {d ty : Nat} {pos : String} {af : Array Edge} {fo : Operand} {as_ : List Operand} {ats : Array TypeId} {f : FuncId} {args : List Value}
theorem o_callH0 {post : Value → IMap → List Res → Prop} (hc : FnH P f args.toArray I [] post) (h : callArgs L fo as_ = some (f, args)) (hd : Nat.blt d n.sz = true)
    (k : ∀ v I' H', ILe I I' → post v I' H' → SX n E I' ((d, v) :: L) (H' ++ H0) K) :
    SX n E I L H0 (one P ops Q ⟨some d, .call { callee := .value fo, args := as_.toArray, argTypes := ats }, ty, pos, af, none⟩ K) := o_callH (Hc := []) hc h hd k
end
end Go.Sx

/- Steps of the search. -/
set_option linter.all false
namespace Go.Sx
open Go
theorem intCs_rdn {I : IMap} {g n : Nat} {ch : List Int} (h : ICells I g 0 (intCs ch)) (e : ch.length = n) (hl : n ≤ 1000000) : RdS I (.slice (some ⟨g, 0, none⟩) n n) ch := by
  subst e; exact intCs_rd h (by omega)
section
variable {c : List Kind} {l : List Rep} {pre : List Int} {r : Rep} {rs : List Rep}
theorem Mid.get (h : Mid c l pre (r :: rs)) : ∃ hp : pre.length < l.length, l[pre.length] = r := by
  obtain ⟨a, e1, e2, _⟩ := h.is
  refine ⟨by rw [e1, e2]; simp, ?_⟩
  subst e1
  simp [e2]
theorem Mid.more (h : Mid c l pre rs) (hp : pre.length < l.length) : ∃ r rs', rs = r :: rs' := by
  cases rs with
  | nil => have := h.len; simp at this; omega
  | cons r rs' => exact ⟨r, rs', rfl⟩
theorem Mid.full (h : Mid c l pre rs) (hp : ¬ pre.length < l.length) : rs = [] := by
  have := h.len
  exact List.eq_nil_of_length_eq_zero (by omega)
theorem Mid.pos1 (h : Mid c l pre (r :: rs)) : chs r ≠ 0 := h.pos r (by obtain ⟨a, e1, _⟩ := h.is; rw [e1]; simp)
theorem open_at1 {ch : List Int} (he : pre ++ openT (r :: rs) = ch) (hp : pre.length < ch.length) : ch[pre.length] = if 1 < chs r then -1 else 0 := by
  subst he; simp [openT]
theorem open_len : (openT rs).length = rs.length := by simp [openT]
theorem Mid.chlen (h : Mid c l pre rs) {ch : List Int} (he : pre ++ openT rs = ch) : ch.length = l.length := by
  rw [← he, List.length_append, open_len]; exact h.len
theorem open_zero (h1 : ¬ 1 < chs r) : (pre ++ [0]) ++ openT rs = pre ++ openT (r :: rs) := by
  simp [openT, h1]
theorem open_set {ch : List Int} (he : pre ++ openT (r :: rs) = ch) (k : Int) : ch.set pre.length k = (pre ++ [k]) ++ openT rs := by
  subst he
  rw [List.set_append_right _ _ (Nat.le_refl _), Nat.sub_self]
  simp [openT]
theorem set_back {ch : List Int} {p : Nat} (hp : p < ch.length) (h : ch[p] = -1) (z : Int) : (ch.set p z).set p (-1) = ch := by
  rw [List.set_set, ← h, List.set_getElem_self]
theorem set_self {ch : List Int} {p : Nat} (hp : p < ch.length) : ch = ch.set p ch[p] := by rw [List.set_getElem_self]
theorem flat_pre {α : Type} (f : Nat → List α) (done : List α) {k K : Nat} (h : k < K) {x : List α} (hx : x <+: (done ++ (List.range k).flatMap f) ++ f k) : x <+: done ++ (List.range K).flatMap f := by
  refine hx.trans ?_
  have e : (done ++ (List.range k).flatMap f) ++ f k = done ++ (List.range (k + 1)).flatMap f := by rw [List.range_succ, List.flatMap_append]; simp
  rw [e]
  refine (List.prefix_append_right_inj _).2 ?_
  have e2 : List.range K = List.range (k + 1) ++ (List.range (K - (k + 1))).map (k + 1 + ·) := by
    rw [← List.range_add]; congr 1; omega
  rw [e2, List.flatMap_append]
  exact List.prefix_append _ _
theorem flat_next {α : Type} (f : Nat → List α) (done : List α) (k : Nat) : (done ++ (List.range k).flatMap f) ++ f k = done ++ (List.range (k + 1)).flatMap f := by
  rw [List.range_succ, List.flatMap_append]; simp
end
theorem chs_five (r : Rep) : chs r ≤ 5 := by
  unfold chs
  split
  · omega
  · rename_i h
    have := validRep_len (r := r) (by simpa using h)
    split <;> omega
/-- what the search leaves behind -/
def FromPost (c : List Kind) (l : List Rep) (J : Bool → List (List Int) → IMap → List Res → Prop) (g t : Nat) (ch : List Int) (pre : List Int) (rs : List Rep) (done : List (List Int)) (u : Value) (I : IMap) (H : List Res) : Prop :=
  ∃ b dn Hc, u = .bool b ∧ H = .blk g t (intCs ch) :: Hc ∧ J b dn I Hc ∧ (b = true → dn = done ++ resF c l pre rs) ∧ (b = false → dn <+: done ++ resF c l pre rs)
/-- what begins with some choices is in order -/
theorem dbt_take {l : List Rep} {i : Nat} (h : i < l.length) : dbtF (l.take (i + 1)) = dbtF (l.take i) + if 1 < chs l[i] then 1 else 0 := by
  rw [← take_succ_of h, dbtF, List.filter_append, List.length_append, dbtF]
  by_cases hc : 1 < chs l[i] <;> simp [hc]
theorem err_any {c : List Kind} {l : List Rep} {i : Nat} (hc : validC c = true) (h : i < l.length) (h0 : chs l[i] = 0) : errF c l = 1 := by
  unfold errF
  rw [if_neg (by rw [hc]; decide), if_pos (List.any_eq_true.2 ⟨_, List.getElem_mem h, by simp [h0]⟩)]
theorem err_cat {c : List Kind} {l : List Rep} (hc : validC c = false) : errF c l = 1 := by unfold errF; rw [if_pos hc]
theorem err_end {c : List Kind} {l : List Rep} (hc : validC c = true) (hp : ∀ r ∈ l, chs r ≠ 0) : errF c l = if (30 : Int) < (dbtF l : Nat) then 7 else 0 := by
  unfold errF
  rw [if_neg (by rw [hc]; decide), if_neg (by rw [List.any_eq_true]; rintro ⟨r, hr, h0⟩; exact hp r hr (by simpa using h0))]
theorem pos_take {l : List Rep} {i : Nat} (h : i < l.length) (hp : ∀ r ∈ l.take i, chs r ≠ 0) (h0 : chs l[i] ≠ 0) : ∀ r ∈ l.take (i + 1), chs r ≠ 0 := fun r hr => by
  rw [← take_succ_of h] at hr
  rcases List.mem_append.1 hr with hr | hr
  · exact hp r hr
  · obtain rfl := List.mem_singleton.1 hr; exact h0
/-- the start of the choices -/
def openTo' (l : List Rep) (i : Nat) : List Int := openT (l.take i) ++ List.replicate (l.length - i) 0
theorem openTo_len (l : List Rep) {i : Nat} (h : i ≤ l.length) : (openTo' l i).length = l.length := by
  simp [openTo', open_len]; omega
theorem openTo_next {l : List Rep} {i : Nat} (h : i < l.length) : openTo' l (i + 1) = if 1 < chs l[i] then (openTo' l i).set i (-1) else openTo' l i := by
  have e : (openT (l.take i)).length = i := by rw [open_len, List.length_take]; omega
  have e2 : List.replicate (l.length - i) (0 : Int) = 0 :: List.replicate (l.length - (i + 1)) 0 := by
    rw [show l.length - i = (l.length - (i + 1)) + 1 by omega, List.replicate_succ]
  have e3 : openT (l.take i ++ [l[i]]) = openT (l.take i) ++ [if 1 < chs l[i] then -1 else 0] := by simp only [openT, List.map_append, List.map_cons, List.map_nil]
  unfold openTo'
  rw [← take_succ_of h, e3, List.append_assoc]
  by_cases hc : 1 < chs l[i]
  · rw [if_pos hc, if_pos hc, List.set_append_right _ _ (by omega), e, Nat.sub_self, e2]; rfl
  · rw [if_neg hc, if_neg hc, e2]; rfl
theorem openTo_done (l : List Rep) : openTo' l l.length = openT l := by simp [openTo']
end Go.Sx

/- Walks, printed by a program out of the code of the functions: each theorem is a contract of one function. -/
namespace Go.Proofs.YtdapmfkbpnjkmaaGreat
open Go Go.Sx
set_option linter.all false
set_option maxRecDepth 20000
set_option maxHeartbeats 4000000
instance T.by_3 : Has (bytesK Tryz.prog 3) ([.int .i64 0], 1, 8) := ⟨by kernel_rfl⟩
instance T.ty_256 : Has (tyK Tryz.prog 256) (false, 1) := ⟨by kernel_rfl⟩
instance T.ty_257 : Has (tyK Tryz.prog 257) (false, 1) := ⟨by kernel_rfl⟩
theorem seChecked (I : IMap) (vc : Value) (c : List Kind) (hvc : RdS I vc c) (hsc : SmC c) (v : Value) (l : List Rep) (hv : RdS I v l) (hl : l.length ≤ 1000000) (hsl : ∀ r ∈ l, ∀ e ∈ r.options, SmE e)  :
    FnV Tryz.prog 119 #[.agg #[vc], v] I (.int .i64 (errF c l)) := by
 obtain ⟨A, c0, rfl, hA, hc, hm⟩ := hv
 refine enter Tryz.func119 Tryz.call119 rfl Tryz.ntmps119 rfl (fun w0 => ?_)
 refine go 3 ?_
 refine o_box _ rfl rfl rfl (fun g2 => ?_)
 refine go 8 ?_
 refine o_callV (catValid _ vc c hvc hsc) rfl rfl ?_
 refine go 3 ?_
 refine cb rfl (fun h11 p11 => ?_) (fun h11 p11 => ?_)
 ·refine go 7 ?_
  refine fin1 rfl rfl ?_
  exact q_v (congrArg (Value.int .i64) (err_cat (by simpa using h11)).symm)
 ·have hC : validC c = true := by simpa using h11
  refine go 16 ?_
  refine sx_drop ?_
  refine c_loop (α := Nat) 0 (fun i => I)
   (fun i => [(5, .int .i64 ((dbtF (l.take i) : Nat) : Int)), (12, .slice A l.length c0), (13, .int .i64 ((l.length : Nat) : Int)), (14, .int .i64 ((i : Nat) : Int))])
   (fun i => [])
   (fun i => i ≤ l.length ∧ ∀ r ∈ l.take i, chs r ≠ 0)
   (fun i => l.length - i) ⟨Nat.zero_le _, fun r hr => by simp at hr⟩ rfl sb rfl ?_
  intro i ⟨hi, hp⟩
  have hdi : dbtF (l.take i) ≤ (l.take i).length := List.length_filter_le _ _
  rw [List.length_take] at hdi
  refine go 6 ?_
  refine cb rfl (fun h15 p15 => ?_) (fun h15 p15 => ?_)
  ·have hlt : i < l.length := by omega
   refine go 6 ?_
   obtain ⟨b16, o16, w16, e16, c16, r16⟩ := RdA.at_ hA (i := i) (by omega)
   obtain ⟨q16, rfl, S16, d16, rfl, hS16, hd16, hm16⟩ := r16
   refine o_v rfl (v_idx he rfl rfl e16 (i) (by omega) (by omega)) ?_
   refine o_v rfl (v_ldIa he rfl c16 rfl) ?_
   refine go 1 ?_
   refine o_alloc he rfl (fun g7 => ?_)
   refine go 1 ?_
   refine o_stw _ he rfl rfl rfl rfl rfl rfl ?_
   refine go 6 ?_
   refine o_callV (repChoices _ l[i] S16 d16 ⟨_, _, rfl, hS16, hd16, hm16⟩ (hsl _ (List.getElem_mem hlt))) rfl rfl ?_
   refine go 11 ?_
   refine cb rfl (fun h20 p20 => ?_) (fun h20 p20 => ?_)
   ·refine go 12 ?_
    refine fin1 rfl rfl ?_
    exact q_v (congrArg (Value.int .i64) (err_any hC hlt (by simpa using h20)).symm)
   ·refine go 7 ?_
    refine cb rfl (fun h23 p23 => ?_) (fun h23 p23 => ?_)
    ·refine go 13 ?_
     refine sx_drop ?_
     exact q_next (i + 1) ⟨by omega, pos_take hlt hp (by simpa using h20)⟩ (by omega) rfl ⟨(congrArg (fun z => some (Value.int .i64 z)) (by rw [dbt_take hlt, if_pos (by omega)]; omega)), rfl, rfl, rfl, trivial⟩ rfl
    ·refine go 9 ?_
     refine sx_drop ?_
     exact q_next (i + 1) ⟨by omega, pos_take hlt hp (by simpa using h20)⟩ (by omega) rfl ⟨(congrArg (fun z => some (Value.int .i64 z)) (by rw [dbt_take hlt, if_neg (by omega)]; omega)), rfl, rfl, rfl, trivial⟩ rfl
  ·have e : i = l.length := by omega
   subst e
   rw [List.take_length] at hp hdi
   rw [List.take_length]
   refine go 12 ?_
   refine cb rfl (fun h30 p30 => ?_) (fun h30 p30 => ?_)
   ·refine go 7 ?_
    refine fin1 rfl rfl ?_
    exact q_v (congrArg (Value.int .i64) (by rw [err_end hC hp, if_pos p30]))
   ·refine go 8 ?_
    refine fin1 rfl rfl ?_
    exact q_v (congrArg (Value.int .i64) (by rw [err_end hC hp, if_neg p30]))

theorem copiedI (I : IMap) (v : Value) (l : List Int) (hv : RdS I v l) (hl : l.length ≤ 1000000) :
    FnX Tryz.prog 194 #[v] I [] (fun u r => r = .row u 3 1 l.length (intCs l)) := by
 refine enter Tryz.func194 Tryz.call194 rfl Tryz.ntmps194 rfl (fun w0 => ?_)
 refine go 8 ?_
 refine o_buildSlice he he rfl rfl rfl rfl rfl rfl rfl (fun v3 => ?_)
 refine go 2 ?_
 refine o_appendR (hv) rfl he he rfl rfl rfl rfl (by omega) (by omega) rfl (fun v5 x5 f5 => ?_)
 refine go 4 ?_
 refine fin1 rfl rfl ?_
 refine sx_roweq (ys := x5) rfl ?_
 rw [Nat.zero_add, flat_ints f5]
 exact q_x rfl

theorem seBack (I : IMap) (g3 g6 gc n : Nat) (k3 : ICells I g3 0 [.slice (some ⟨gc, 0, none⟩) n n]) (ch : List Int) (p : Nat) (hp : p < ch.length) (hn : ch.length = n) :
    FnDf Tryz.prog 195 #[.pointer (some ⟨g3, 0, none⟩), .pointer (some ⟨g6, 0, none⟩)] I [.blk gc 3 (intCs ch), .blk g6 3 [.int .i64 ((p : Nat) : Int)]] (fun I2 H2 => I2 = I ∧ H2 = [.blk gc 3 (intCs (ch.set p (-1))), .blk g6 3 [.int .i64 ((p : Nat) : Int)]]) := by
 refine enterD Tryz.func195 rfl Tryz.ntmps195 rfl (fun w0 => ?_)
 refine go 1 ?_
 refine o_v rfl (v_ldI he rfl (k3 0 _ rfl)) ?_
 refine go 1 ?_
 refine o_v rfl (v_idx he rfl rfl rfl (p) (by omega) (by omega)) ?_
 refine go 1 ?_
 refine o_st1 he rfl rfl rfl (by rw [intCs_len, Nat.blt_eq]; omega) ?_
 refine sx_blkeq (intCs (ch.set (p) (-1))) (by rw [Nat.zero_add, Nat.mul_one, intCs_set]) ?_
 refine go 1 ?_
 refine endD0 rfl ?_
 exact q_post (fun _ m => m) ⟨rfl, rfl⟩

theorem seFrom (I : IMap) (g1 g2 g3 g4 g5 gc : Nat) (vc : Value) (c : List Kind) (hvc : RdS I vc c) (hsc : SmC c) (l : List Rep) (A : Option Addr) (c0 : Nat) (hv : RdS I (.slice A l.length c0) l) (hl : l.length ≤ 1000000) (hsl : ∀ r ∈ l, ∀ e ∈ r.options, SmE e) (ly : Nat) (J : Bool → List (List Int) → IMap → List Res → Prop) (hJm : JMono J) (hY : YieldsS Tryz.prog ly (fun I vs (x : List Int) => ∃ v, vs = [v] ∧ RdS I v x) (fun _ _ => True) J) (k1 : ICells I g1 0 [vc]) (k2 : ICells I g2 0 [.slice A l.length c0]) (k3 : ICells I g3 0 [.slice (some ⟨gc, 0, none⟩) l.length l.length]) (k4 : ICells I g4 0 [.func (.yield ly) #[] #[]]) (k5 : ICells I g5 0 [.func (.func 191) #[] #[.pointer (some ⟨g1, 0, none⟩), .pointer (some ⟨g2, 0, none⟩), .pointer (some ⟨g3, 0, none⟩), .pointer (some ⟨g4, 0, none⟩), .pointer (some ⟨g5, 0, none⟩)]]) (rs : List Rep) (ih : ∀ (I2 : IMap), ILe I I2 → ∀ (pr : List Int) (rr : List Rep), rr.length < rs.length → Mid c l pr rr → ∀ (dn : List (List Int)) (Hq : List Res), J true dn I2 Hq → FnH Tryz.prog 191 #[.int .i64 ((pr.length : Nat) : Int), .pointer (some ⟨g1, 0, none⟩), .pointer (some ⟨g2, 0, none⟩), .pointer (some ⟨g3, 0, none⟩), .pointer (some ⟨g4, 0, none⟩), .pointer (some ⟨g5, 0, none⟩)] I2 (.blk gc 3 (intCs (pr ++ openT rr)) :: Hq) (FromPost c l J gc 3 (pr ++ openT rr) pr rr dn)) (pre : List Int) (hmid : Mid c l pre rs) (ch : List Int) (hch : pre ++ openT rs = ch) (done : List (List Int)) (Hc : List Res) (hJt : J true done I Hc) :
    FnH Tryz.prog 191 #[.int .i64 ((pre.length : Nat) : Int), .pointer (some ⟨g1, 0, none⟩), .pointer (some ⟨g2, 0, none⟩), .pointer (some ⟨g3, 0, none⟩), .pointer (some ⟨g4, 0, none⟩), .pointer (some ⟨g5, 0, none⟩)] I (.blk gc 3 (intCs ch) :: Hc) (FromPost c l J gc 3 ch pre rs done) := by
 have hv0 := hv
 have hA := hv.toA
 have hcl := hmid.chlen hch
 refine enter Tryz.func191 Tryz.call191 rfl Tryz.ntmps191 rfl (fun w0 => ?_)
 refine go 3 ?_
 refine o_box _ rfl rfl rfl (fun g6 => ?_)
 refine go 6 ?_
 refine o_v rfl (v_ldIa he rfl k1 rfl) ?_
 refine o_v rfl (v_ldI he rfl (k2 0 _ rfl)) ?_
 refine o_v rfl (v_ldI he rfl (k3 0 _ rfl)) ?_
 refine go 1 ?_
 refine o_lendI m1 (fun I2 hI hC => hiFalse I2 vc c (hvc.le hI) hsc _ l (hv0.le hI) hl hsl _ ch (intCs_rdn hC hcl hl)) rfl rfl ?_
 refine go 2 ?_
 refine cb rfl (fun h12 p12 => ?_) (fun h12 p12 => ?_)
 ·refine go 7 ?_
  refine fin1 rfl rfl ?_
  refine sx_drop ?_
  exact q_post (fun _ m => m) ⟨true, done, _, rfl, rfl, hJt, fun _ => by rw [res_prune hmid (by rw [hch]; exact h12), List.append_nil], fun h => (by cases h)⟩
 ·refine go 3 ?_
  refine c_cutx2 (Ix := (fun pr rr => I)) (Lx := (fun pr rr => [(1, .pointer (some ⟨g1, 0, none⟩)), (2, .pointer (some ⟨g2, 0, none⟩)), (3, .pointer (some ⟨g3, 0, none⟩)), (4, .pointer (some ⟨g4, 0, none⟩)), (5, .pointer (some ⟨g5, 0, none⟩)), (6, .pointer (some ⟨g6, 0, none⟩))])) (Hx := (fun pr rr => .blk gc 3 (intCs ch) :: .blk g6 3 [.int .i64 ((pr.length : Nat) : Int)] :: Hc)) (p := (fun pr rr => Mid c l pr rr ∧ pr ++ openT rr = ch ∧ resF c l pre rs = resF c l pr rr ∧ rr.length ≤ rs.length ∧ ∀ q0 q1, rr = q0 :: q1 → 1 < chs q0)) ?_ ?_
  ·refine go 1 ?_
   refine bring1 ?_
   refine c_loop2 (pre) (rs) (fun pr rr => I)
    (fun pr rr => [(1, .pointer (some ⟨g1, 0, none⟩)), (2, .pointer (some ⟨g2, 0, none⟩)), (3, .pointer (some ⟨g3, 0, none⟩)), (4, .pointer (some ⟨g4, 0, none⟩)), (5, .pointer (some ⟨g5, 0, none⟩)), (6, .pointer (some ⟨g6, 0, none⟩))])
    (fun pr rr => .blk gc 3 (intCs ch) :: .blk g6 3 [.int .i64 ((pr.length : Nat) : Int)] :: Hc)
    (fun pr rr => Mid c l pr rr ∧ pr ++ openT rr = ch ∧ resF c l pre rs = resF c l pr rr ∧ rr.length ≤ rs.length)
    (fun pr rr => rr.length) ⟨hmid, hch, rfl, Nat.le_refl _⟩ rfl sb rfl ?_
   intro pr rr ⟨hm, hee, hr, hle⟩
   have hml := hm.len
   have hcl := hm.chlen hee
   refine go 4 ?_
   refine o_v rfl (v_ldI he rfl (k2 0 _ rfl)) ?_
   refine go 3 ?_
   refine sxb 17 rfl (fun h17 p17 => ?_) (fun h17 p17 => ?_)
   ·obtain ⟨q0, q1, rfl⟩ := hm.more (by omega)
    have hop := open_at1 hee (by omega)
    have hp1 := hm.pos1
    have hnn := chs_nn q0
    refine o_cons (o_yes rfl rfl h17 (o_val rfl (v_ldI he rfl (k3 0 _ rfl)) ?_))
    refine go 1 ?_
    refine o_cons (o_yes rfl rfl h17 (o_val rfl (v_idx he rfl rfl rfl (pr.length) (by omega) (by omega)) ?_))
    refine o_cons (o_yes rfl rfl h17 (o_val rfl (OV.cast (u := .int .i64 (if 1 < chs q0 then -1 else 0)) (v_ld m0 he rfl (by rw [Nat.zero_add, Nat.mul_one]; exact intCs_at (by omega))) (congrArg (Value.int .i64) hop)) ?_))
    refine go 4 ?_
    refine cb rfl (fun h23 p23 => ?_) (fun h23 p23 => ?_)
    ·have h1c : chs q0 = 1 := by
       by_cases h1 : 1 < chs q0
       · rw [if_pos h1] at p23; omega
       · omega
     refine go 7 ?_
     refine bring1 ?_
     refine o_stw _ he rfl rfl rfl rfl rfl rfl ?_
     refine go 3 ?_
     refine bring1 ?_
     exact q_next2 (pr ++ [0]) (q1) ⟨hm.next (r := q0) (Int.le_refl _) (by omega), by rw [open_zero (r := q0) (by omega)]; exact hee, by rw [hr, res_one h1c], by simp at hle; omega⟩ (by simp) rfl sb (by rw [List.length_append]; rfl)
    ·have h1c : 1 < chs q0 := by
       by_cases h1 : 1 < chs q0
       · exact h1
       · rw [if_neg h1] at p23; omega
     refine go 5 ?_
     exact q_cutx2 (_) (_) ⟨hm, hee, hr, hle, fun _ _ e => by cases e; exact h1c⟩ sb rfl rfl
   ·refine go 8 ?_
    refine c_false rfl ?_
    refine go 5 ?_
    exact q_cutx2 (_) (_) ⟨hm, hee, hr, hle, fun q0 q1 e => by subst e; simp at hml; omega⟩ sb rfl rfl
  ·intro pr rr ⟨hm, hee, hr, hle, h1c⟩
   have hml := hm.len
   have hcl := hm.chlen hee
   refine go 4 ?_
   refine o_v rfl (v_ldI he rfl (k2 0 _ rfl)) ?_
   refine go 4 ?_
   refine cb rfl (fun h29 p29 => ?_) (fun h29 p29 => ?_)
   ·obtain rfl := hm.full (by omega)
    have hpc : pr = ch := by rw [← hee]; simp [openT]
    rw [hpc] at hm hr
    refine go 1 ?_
    refine sx_knowI (fun hE6 hf6 => ?_)
    refine d_startT2 T.mixed ?_
    refine d_tv 0 rfl rfl (by kernel_rfl) rfl (.cons₂ _ (.cons₂ _ (List.nil_sublist _))) rfl (v_ldIa he rfl k1 rfl) ?_
    refine d_tv 1 rfl rfl (by kernel_rfl) rfl (.cons₂ _ (.cons₂ _ (List.nil_sublist _))) rfl (v_ldI he rfl (k2 0 _ rfl)) ?_
    refine d_tv 2 rfl rfl (by kernel_rfl) rfl (.cons₂ _ (.cons₂ _ (List.nil_sublist _))) rfl (v_ldI he rfl (k3 0 _ rfl)) ?_
    refine d_one 3 (by kernel_rfl) rfl ?_
    refine o_lendI m0 (fun I2 hI hC => hiIs I2 vc c (hvc.le hI) hsc _ l (hv0.le hI) hl hsl _ ch (intCs_rdn hC hcl hl)) rfl rfl ?_
    refine d_on (fun _ m => m.keeps (.cons₂ _ (.cons₂ _ (List.nil_sublist _)))) ?_
    refine d_tv 4 rfl rfl (by kernel_rfl) rfl (.cons₂ _ (.cons₂ _ (List.nil_sublist _))) rfl (v_not rfl) ?_
    refine d_tv 5 rfl rfl (by kernel_rfl) rfl (.cons₂ _ (.cons₂ _ (List.nil_sublist _))) rfl (v_move rfl) ?_
    refine sxb 35 rfl (fun h35 p35 => ?_) (fun h35 p35 => ?_)
    ·refine d_t 6 rfl rfl (by kernel_rfl) rfl (fun _ m => m.keeps (.cons₂ _ (.cons₂ _ (List.nil_sublist _)))) (y_no rfl rfl h35) ?_
     refine d_t 7 rfl rfl (by kernel_rfl) rfl (fun _ m => m.keeps (.cons₂ _ (.cons₂ _ (List.nil_sublist _)))) (y_no rfl rfl h35) ?_
     refine d_t 8 rfl rfl (by kernel_rfl) rfl (fun _ m => m.keeps (.cons₂ _ (.cons₂ _ (List.nil_sublist _)))) (y_no rfl rfl h35) ?_
     refine d_t 9 rfl rfl (by kernel_rfl) rfl (fun _ m => m.keeps (.cons₂ _ (.cons₂ _ (List.nil_sublist _)))) (y_no rfl rfl h35) ?_
     refine d_tv 10 rfl rfl (by kernel_rfl) rfl (.cons₂ _ (.cons₂ _ (List.nil_sublist _))) rfl (v_or_t h35 rfl) ?_
     refine d_tv 11 rfl rfl (by kernel_rfl) rfl (.cons₂ _ (.cons₂ _ (List.nil_sublist _))) rfl (v_assign rfl) ?_
     refine d_done (by kernel_rfl) ?_
     refine go 3 ?_
     refine fin1 rfl rfl ?_
     refine bring1 ?_
     refine sx_drop ?_
     exact q_post (fun _ m => m) ⟨true, done, _, rfl, rfl, hJt, fun _ => by rw [hr, res_nil, if_neg (by simpa using h35), List.append_nil], fun h => (by cases h)⟩
    ·refine d_t 6 rfl rfl (by kernel_rfl) rfl (fun _ m => m.keeps (.cons₂ _ (.cons₂ _ (List.nil_sublist _)))) (y_yes rfl rfl h35 (v_ldI he rfl (k4 0 _ rfl))) ?_
     refine d_t 7 rfl rfl (by kernel_rfl) rfl (fun _ m => m.keeps (.cons₂ _ (.cons₂ _ (List.nil_sublist _)))) (y_yes rfl rfl h35 (v_ldI he rfl (k3 0 _ rfl))) ?_
     refine d_one 8 (by kernel_rfl) rfl ?_
     refine o_yes rfl rfl h35 (o_lendX m0 (fun I2 hI hC => copiedI I2 _ ch (intCs_rdn hC hcl hl) (by omega)) rfl rfl (fun v38 s38 q38 => ?_))
     obtain rfl := q38
     refine sx_pubrow (l := ch) rfl rfl (intCs_flat _) (fun I38 j38 R38 => ?_)
     try have hvc := hvc.le j38
     try have hv0 := hv0.le j38
     try have hA := hA.le j38
     try have k1 := k1.le j38
     try have k2 := k2.le j38
     try have k3 := k3.le j38
     try have k4 := k4.le j38
     try have k5 := k5.le j38
     try have hJt := hJt.le j38
     refine d_on (fun _ m => m.keepsI (.cons₂ _ (.cons₂ _ (List.nil_sublist _))) (j38) hE6 hf6) ?_
     refine d_one 9 (by kernel_rfl) rfl ?_
     refine o_yes rfl rfl h35 (o_yield2 (ch) hY (hJm _ _ _ _ _ j38 hJt) (⟨_, rfl, R38⟩) (trivial) rfl rfl rfl (fun b39 I39 Hc39 j39 hJ39 => ?_))
     refine d_on (fun _ m => m.keepsI (.cons₂ _ (.cons₂ _ (List.nil_sublist _))) ((j38).trans j39) hE6 hf6) ?_
     refine d_t 10 rfl rfl (by kernel_rfl) rfl (fun _ m => m.keepsI (.cons₂ _ (.cons₂ _ (List.nil_sublist _))) ((j38).trans j39) hE6 hf6) (y_v rfl (v_or_f h35 rfl rfl)) ?_
     refine d_t 11 rfl rfl (by kernel_rfl) rfl (fun _ m => m.keepsI (.cons₂ _ (.cons₂ _ (List.nil_sublist _))) ((j38).trans j39) hE6 hf6) (y_v rfl (v_assign rfl)) ?_
     refine d_done (by kernel_rfl) ?_
     refine go 3 ?_
     refine fin1 rfl rfl ?_
     refine bring1 ?_
     refine sx_drop ?_
     exact q_post (fun _ m => m) ⟨b39, done ++ [ch], _, rfl, rfl, hJ39, fun _ => by rw [hr, res_nil, if_pos (by simpa using h35)], fun _ => by rw [hr, res_nil, if_pos (by simpa using h35)]; exact List.prefix_refl _⟩
   ·obtain ⟨q0, q1, rfl⟩ := hm.more (by omega)
    have h1c := h1c q0 q1 rfl
    obtain ⟨hpl, rfl⟩ := hm.get
    have hop := open_at1 hee (by omega)
    rw [if_pos h1c] at hop
    have hc5 := chs_five l[pr.length]
    refine go 3 ?_
    refine c_region2D rfl rfl ?_
    refine o_v rfl (v_makeFunc rfl rfl) ?_
    refine go 1 ?_
    refine q_defn rfl rfl ?_
    refine go 4 ?_
    refine o_v rfl (v_ldI he rfl (k2 0 _ rfl)) ?_
    refine go 1 ?_
    obtain ⟨b44, o44, w44, e44, c44, r44⟩ := RdA.at_ hA (i := pr.length) (by omega)
    obtain ⟨q44, rfl, S44, d44, rfl, hS44, hd44, hm44⟩ := r44
    refine o_v rfl (v_idx he rfl rfl e44 (pr.length) (by omega) (by omega)) ?_
    refine o_v rfl (v_ldIa he rfl c44 rfl) ?_
    refine go 1 ?_
    refine o_callV (repChoices _ l[pr.length] S44 d44 ⟨_, _, rfl, hS44, hd44, hm44⟩ (hsl _ (List.getElem_mem hpl))) rfl rfl ?_
    refine go 4 ?_
    refine c_loop5 ((0 : Nat)) (ch) (done) (Hc) (I) (fun k cc dn Hq J2 => J2)
     (fun k cc dn Hq J2 => [(1, .pointer (some ⟨g1, 0, none⟩)), (2, .pointer (some ⟨g2, 0, none⟩)), (3, .pointer (some ⟨g3, 0, none⟩)), (4, .pointer (some ⟨g4, 0, none⟩)), (5, .pointer (some ⟨g5, 0, none⟩)), (6, .pointer (some ⟨g6, 0, none⟩)), (46, .int .i64 (chs l[pr.length])), (47, .int .i64 ((k : Nat) : Int))])
     (fun k cc dn Hq J2 => .blk gc 3 (intCs cc) :: .blk g6 3 [.int .i64 ((pr.length : Nat) : Int)] :: Hq)
     (fun k cc dn Hq J2 => ((k : Nat) : Int) ≤ chs l[pr.length] ∧ (∃ z, cc = ch.set pr.length z) ∧ ILe I J2 ∧ J true dn J2 Hq ∧ dn = done ++ (List.range k).flatMap (fun (q : Nat) => resF c l (pr ++ [(q : Int)]) q1))
     (fun k cc dn Hq J2 => (chs l[pr.length]).toNat - k) ⟨by omega, ⟨_, set_self (by omega)⟩, ILe.refl _, hJt, by simp⟩ rfl sb rfl ?_
    intro k cc dn Hq J2 ⟨hk, ⟨z, hz⟩, hJ2, hJt2, hdn⟩
    subst hz
    have hcz : (ch.set pr.length z).length = ch.length := List.length_set
    have hvc := hvc.le hJ2
    have hv0 := hv0.le hJ2
    have hA := hA.le hJ2
    have k1 := k1.le hJ2
    have k2 := k2.le hJ2
    have k3 := k3.le hJ2
    have k4 := k4.le hJ2
    have k5 := k5.le hJ2
    refine go 6 ?_
    refine cb rfl (fun h48 p48 => ?_) (fun h48 p48 => ?_)
    ·have hkk : ((k : Nat) : Int) < chs l[pr.length] := by omega
     refine go 12 ?_
     refine o_v rfl (v_ldI he rfl (k3 0 _ rfl)) ?_
     refine go 2 ?_
     refine o_v rfl (v_idx he rfl rfl rfl (pr.length) (by omega) (by omega)) ?_
     refine go 1 ?_
     refine o_st1 he rfl rfl rfl (by rw [intCs_len, Nat.blt_eq]; omega) ?_
     refine sx_blkeq (intCs ((pr ++ [((k : Nat) : Int)]) ++ openT q1)) (by rw [Nat.zero_add, Nat.mul_one]; show (intCs _).set _ (ci _) = _; rw [intCs_set, List.set_set, open_set hee]) ?_
     refine go 4 ?_
     refine o_v rfl (v_ldI he rfl (k5 0 _ rfl)) ?_
     refine go 1 ?_
     refine o_v rfl (OV.cast (u := .int .i64 (((pr ++ [((k : Nat) : Int)]).length : Nat) : Int)) (v_add rfl rfl ⟨by omega, by omega⟩) (congrArg (Value.int .i64) (by simp))) ?_
     refine go 1 ?_
     refine bring1 ?_
     refine o_callT (ih J2 hJ2 (pr ++ [((k : Nat) : Int)]) q1 (by simp at hle; omega) (hm.next (by omega) hkk) dn Hq hJt2) rfl rfl (fun v57 I57 H57 j57 q57 => ?_)
     try have hvc := hvc.le j57
     try have hv0 := hv0.le j57
     try have hA := hA.le j57
     try have k1 := k1.le j57
     try have k2 := k2.le j57
     try have k3 := k3.le j57
     try have k4 := k4.le j57
     try have k5 := k5.le j57
     obtain ⟨b57, dn2, Hd, rfl, rfl, hJt3, hbt, hbf⟩ := q57
     refine go 3 ?_
     refine cb rfl (fun h58 p58 => ?_) (fun h58 p58 => ?_)
     ·have hb : b57 = false := by simpa using h58
      refine go 11 ?_
      refine bring1 ?_
      refine q_fdefer (Hc := [_, _]) Tryz.call195 (seBack _ g3 g6 gc l.length k3 ((pr ++ [((k : Nat) : Int)]) ++ openT q1) pr.length (by rw [← open_set hee, List.length_set]; omega) (by rw [← open_set hee, List.length_set]; omega)) (fun I7 H7 j7 q7 => ?_)
      obtain ⟨rfl, rfl⟩ := q7
      refine sx_app2' ?_
      refine fin1 rfl rfl ?_
      refine bring1 ?_
      refine sx_drop ?_
      refine sx_blkeq (intCs ch) (by rw [← open_set hee, set_back (by omega) hop]) ?_
      exact q_post (fun _ m => m) ⟨false, dn2, Hd, rfl, rfl, hb ▸ hJt3, fun h => (by cases h), fun _ => by rw [hr, res_cons]; exact flat_pre (fun (q : Nat) => resF c l (pr ++ [(q : Int)]) q1) done (k := k) (by omega) (by have := hbf hb; rwa [hdn] at this)⟩
     ·have hb : b57 = true := by simpa using h58
      refine go 8 ?_
      refine bring1 ?_
      exact q_next5 (k + 1) (_) (_) (_) (_) ⟨by omega, ⟨_, (open_set hee _).symm⟩, hJ2.trans j57, hb ▸ hJt3, by rw [hbt hb, hdn]; exact flat_next _ _ _⟩ (by omega) rfl sb rfl
    ·refine go 11 ?_
     refine bring1 ?_
     refine bring1 ?_
     refine q_fdefer (Hc := [_, _]) Tryz.call195 (seBack _ g3 g6 gc l.length k3 (ch.set pr.length z) pr.length (by omega) (by omega)) (fun I7 H7 j7 q7 => ?_)
     obtain ⟨rfl, rfl⟩ := q7
     refine sx_app2' ?_
     refine fin1 rfl rfl ?_
     refine bring1 ?_
     refine sx_drop ?_
     refine sx_blkeq (intCs ch) (by rw [set_back (by omega) hop]) ?_
     exact q_post (fun _ m => m) ⟨true, dn, Hq, rfl, rfl, hJt2, fun _ => by rw [hr, res_cons, hdn, show (chs l[pr.length]).toNat = k by omega], fun h => (by cases h)⟩

end Go.Proofs.YtdapmfkbpnjkmaaGreat

/- The plain laws of searching. -/
set_option linter.all false
namespace Go.Sx
open Go
section
variable {c : List Kind} {l : List Rep}
theorem all_nil_of {most : Int} (h : (allF c l most).2 ≠ 0) : (allF c l most).1 = [] := by
  unfold allF at h ⊢
  split
  · rfl
  · rename_i h1
    split
    · rfl
    · rename_i h2
      rw [if_neg h1, if_neg h2] at h
      split
      · rfl
      · rename_i h3; rw [if_neg h3] at h; exact absurd rfl h
theorem all_ok {most : Int} (h1 : 1 ≤ most) (h2 : most ≤ 4096) (h : (allF c l most).2 = 0) : errF c l = 0 ∧ histF c l ≠ [] ∧ (allF c l most).1 = (histF c l).take most.toNat := by
  rw [all_code h1 h2] at h
  by_cases he : errF c l = 0
  · rw [if_neg (show ¬ (errF c l ≠ 0) by simp [he])] at h
    refine ⟨he, fun hn => ?_, all_list h1 h2 he⟩
    rw [if_pos hn] at h; cases h
  · rw [if_pos he] at h; exact absurd h he
/-! SearchBegins -/
theorem begins_code {a b : Int} (ha : 1 ≤ a ∧ a ≤ 4096) (hb : 1 ≤ b ∧ b ≤ 4096) : (allF c l a).2 = (allF c l b).2 := by
  rw [all_code ha.1 ha.2, all_code hb.1 hb.2]
theorem begins_len {a b : Int} (ha : 1 ≤ a ∧ a ≤ 4096) (hb : 1 ≤ b ∧ b ≤ 4096) (hab : a ≤ b) : (allF c l a).1 = (allF c l b).1.take (allF c l a).1.length ∧ (allF c l a).1.length ≤ (allF c l b).1.length ∧ ((allF c l a).1.length : Int) ≤ a ∧ ((allF c l a).1.length = (allF c l b).1.length ∨ ((allF c l a).1.length : Int) = a ∨ (allF c l a).2 ≠ 0) := by
  have hc := begins_code (c := c) (l := l) ha hb
  by_cases h : (allF c l a).2 = 0
  · obtain ⟨_, _, e1⟩ := all_ok ha.1 ha.2 h
    obtain ⟨_, _, e2⟩ := all_ok hb.1 hb.2 (by rw [← hc]; exact h)
    rw [e1, e2]
    have hm : a.toNat ≤ b.toNat := by omega
    refine ⟨?_, ?_, ?_, ?_⟩
    · rw [List.take_take, List.length_take]
      rcases Nat.le_total a.toNat (histF c l).length with h1 | h1
      · rw [Nat.min_eq_left h1, Nat.min_eq_left hm]
      · rw [Nat.min_eq_right h1, List.take_of_length_le h1, List.take_of_length_le (by omega)]
    · rw [List.length_take, List.length_take]; omega
    · rw [List.length_take]; omega
    · rw [List.length_take, List.length_take]; omega
  · rw [all_nil_of h]
    exact ⟨by simp, by simp, by simp; omega, .inr (.inr h)⟩
/-! SearchHistories -/
theorem first_code (c : List Kind) (l : List Rep) : (firstF c l).2 = (allF c l 1).2 := by
  unfold firstF
  split
  · rfl
  · rename_i h; simp only; omega
/-! SearchSure -/
theorem all_ones : ∀ {l : List Rep}, (∀ r ∈ l, chs r = 1) → allCh l = [List.replicate l.length 0]
  | [], _ => rfl
  | r :: l, h => by
    rw [allCh, h r (by simp), all_ones fun x hx => h x (by simp [hx])]
    simp [List.replicate_succ]
end
end Go.Sx

/- The search: what the exported functions give. -/
set_option linter.all false
namespace Go.Sx
open Go
section
variable {c : List Kind} {l : List Rep} {most : Int}
theorem all_pos (h : (allF c l most).2 = 0) : 0 < (allF c l most).1.length := by
  unfold allF at h ⊢
  split at h
  · cases h
  · rename_i h1
    rw [if_neg h1]
    split at h
    · rename_i h2; exact absurd h h2
    · rename_i h2
      rw [if_neg h2]
      split at h
      · cases h
      · rename_i h3
        rw [if_neg h3]
        exact List.length_pos_iff.2 h3
theorem hd_eq {α : Type} {x : List (List α)} (h : 0 < x.length) : x.headD [] = x[0] := by
  cases x with
  | nil => exact absurd h (Nat.not_lt_zero _)
  | cons a r => rfl
theorem first_no (h : ¬ (allF c l 1).2 = 0) : firstF c l = ([], (allF c l 1).2) := by unfold firstF; rw [if_pos h]
theorem first_yes (h : (allF c l 1).2 = 0) : firstF c l = ((allF c l 1).1[0]'(all_pos h), 0) := by
  unfold firstF
  rw [if_neg (by simpa using h)]
  rw [← hd_eq (all_pos h)]
end
end Go.Sx

/- Walks, printed by a program out of the code of the functions: each theorem is a contract of one function. -/
namespace Go.Proofs.YtdapmfkbpnjkmaaGreat
open Go Go.Sx
set_option linter.all false
set_option maxRecDepth 20000
set_option maxHeartbeats 4000000
instance T.by_65 : Has (bytesK Tryz.prog 65) ([.slice none 0 0], 1, 24) := ⟨by kernel_rfl⟩
instance T.elt_112 : Has (eltK Tryz.prog 112) (65, 1) := ⟨by kernel_rfl⟩
instance T.ty_112 : Has (tyK Tryz.prog 112) (false, 1) := ⟨by kernel_rfl⟩
instance T.und_112 : Has (Tryz.prog.underlying 112) (.slice 65) := ⟨by kernel_rfl⟩
instance T.zero_112 : Has (zeroK Tryz.prog 112) [.slice none 0 0] := ⟨by kernel_rfl⟩
instance T.zero_257 : Has (zeroK Tryz.prog 257) [.nilFunc] := ⟨by kernel_rfl⟩
instance T.zero_65 : Has (zeroK Tryz.prog 65) [.slice none 0 0] := ⟨by kernel_rfl⟩
theorem seFromI (I : IMap) (g1 g2 g3 g4 g5 gc : Nat) (vc : Value) (c : List Kind) (hvc : RdS I vc c) (hsc : SmC c) (l : List Rep) (A : Option Addr) (c0 : Nat) (hv : RdS I (.slice A l.length c0) l) (hl : l.length ≤ 1000000) (hsl : ∀ r ∈ l, ∀ e ∈ r.options, SmE e) (ly : Nat) (J : Bool → List (List Int) → IMap → List Res → Prop) (hJm : JMono J) (hY : YieldsS Tryz.prog ly (fun I vs (x : List Int) => ∃ v, vs = [v] ∧ RdS I v x) (fun _ _ => True) J) (k1 : ICells I g1 0 [vc]) (k2 : ICells I g2 0 [.slice A l.length c0]) (k3 : ICells I g3 0 [.slice (some ⟨gc, 0, none⟩) l.length l.length]) (k4 : ICells I g4 0 [.func (.yield ly) #[] #[]]) (k5 : ICells I g5 0 [.func (.func 191) #[] #[.pointer (some ⟨g1, 0, none⟩), .pointer (some ⟨g2, 0, none⟩), .pointer (some ⟨g3, 0, none⟩), .pointer (some ⟨g4, 0, none⟩), .pointer (some ⟨g5, 0, none⟩)]]) (n : Nat) : ∀ (I2 : IMap), ILe I I2 → ∀ (rs : List Rep), rs.length < n → ∀ (pre : List Int), Mid c l pre rs → ∀ (dn : List (List Int)) (Hq : List Res), J true dn I2 Hq →
    FnH Tryz.prog 191 #[.int .i64 ((pre.length : Nat) : Int), .pointer (some ⟨g1, 0, none⟩), .pointer (some ⟨g2, 0, none⟩), .pointer (some ⟨g3, 0, none⟩), .pointer (some ⟨g4, 0, none⟩), .pointer (some ⟨g5, 0, none⟩)] I2 (.blk gc 3 (intCs (pre ++ openT rs)) :: Hq) (FromPost c l J gc 3 (pre ++ openT rs) pre rs dn) := by
 induction n with
 | zero => intro _ _ rs h; exact absurd h (Nat.not_lt_zero _)
 | succ n ih =>
  intro I2 hI rs hrs pre hm dn Hq hJ
  exact seFrom I2 g1 g2 g3 g4 g5 gc vc c (hvc.le hI) hsc l A c0 (hv.le hI) hl hsl ly J hJm hY (k1.le hI) (k2.le hI) (k3.le hI) (k4.le hI) (k5.le hI) rs (fun I3 hI3 pr rr hlt hm3 dn3 Hq3 hJ3 => ih I3 (hI.trans hI3) rr (by omega) pr hm3 dn3 Hq3 hJ3) pre hm _ rfl dn Hq hJ

theorem histIt (I : IMap) (vc : Value) (c : List Kind) (hvc : RdS I vc c) (hsc : SmC c) (A : Option Addr) (c0 : Nat) (l : List Rep) (hv : RdS I (.slice A l.length c0) l) (hl : l.length ≤ 1000000) (hsl : ∀ r ∈ l, ∀ e ∈ r.options, SmE e) (hC : validC c = true) (hP : ∀ r ∈ l, chs r ≠ 0) (gl gv : Nat) (k2 : ICells I gl 0 [.slice A l.length c0]) (k1 : ICells I gv 0 [vc]) :
    FnIt Tryz.prog 190 [.pointer (some ⟨gl, 0, none⟩), .pointer (some ⟨gv, 0, none⟩)] I (fun I vs (x : List Int) => ∃ v, vs = [v] ∧ RdS I v x) (fun _ _ => True) (fun pre => pre = histF c l) (fun pre => pre <+: histF c l) := by
 intro ly J I1 Hc hI1 hJm hY hJ0
 have hvc := hvc.le hI1
 have hv := hv.le hI1
 have hA := hv.toA
 have k1 := k1.le hI1
 have k2 := k2.le hI1
 refine enter Tryz.func190 Tryz.call190 rfl Tryz.ntmps190 rfl (fun w0 => ?_)
 refine go 3 ?_
 refine o_box _ rfl rfl rfl (fun g3 => ?_)
 refine go 4 ?_
 refine o_v rfl (v_ldI he rfl (k2 0 _ rfl)) ?_
 refine go 2 ?_
 refine o_makeSlice he he rfl rfl rfl (by omega) (by omega) rfl (fun g10 => ?_)
 refine go 1 ?_
 refine o_alloc he rfl (fun g4 => ?_)
 refine go 1 ?_
 refine o_stw _ he rfl rfl rfl rfl rfl rfl ?_
 refine go 5 ?_
 refine bring1 ?_
 refine sx_blkeq (intCs (openTo' l 0)) ((intCs_rep l.length).trans (by simp [openTo', openT])) ?_
 refine o_v rfl (v_ldI he rfl (k2 0 _ rfl)) ?_
 refine go 5 ?_
 refine c_loop (α := Nat) 0 (fun i => I1)
  (fun i => [(1, .pointer (some ⟨gl, 0, none⟩)), (2, .pointer (some ⟨gv, 0, none⟩)), (3, .pointer (some ⟨g3, 0, none⟩)), (4, .pointer (some ⟨g4, 0, none⟩)), (11, .slice A l.length c0), (12, .int .i64 ((l.length : Nat) : Int)), (13, .int .i64 ((i : Nat) : Int))])
  (fun i => .blk g10 3 (intCs (openTo' l i)) :: .blk g4 65 [.slice (some ⟨g10, 0, none⟩) l.length l.length] :: .blk g3 256 [.func (.yield ly) #[] #[]] :: Hc)
  (fun i => i ≤ l.length)
  (fun i => l.length - i) (Nat.zero_le _) rfl sb rfl ?_
 intro i hi
 have hol := openTo_len l hi
 refine go 6 ?_
 refine cb rfl (fun h14 p14 => ?_) (fun h14 p14 => ?_)
 ·have hlt : i < l.length := by omega
  refine go 7 ?_
  obtain ⟨b16, o16, w16, e16, c16, r16⟩ := RdA.at_ hA (i := i) (by omega)
  obtain ⟨q16, rfl, S16, d16, rfl, hS16, hd16, hm16⟩ := r16
  refine o_v rfl (v_idx he rfl rfl e16 (i) (by omega) (by omega)) ?_
  refine o_v rfl (v_ldIa he rfl c16 rfl) ?_
  refine go 1 ?_
  refine o_alloc he rfl (fun g6 => ?_)
  refine go 2 ?_
  refine o_stw _ he rfl rfl rfl rfl rfl rfl ?_
  refine go 6 ?_
  refine o_callV (repChoices _ l[i] S16 d16 ⟨_, _, rfl, hS16, hd16, hm16⟩ (hsl _ (List.getElem_mem hlt))) rfl rfl ?_
  refine go 3 ?_
  refine cb rfl (fun h20 p20 => ?_) (fun h20 p20 => ?_)
  ·refine go 3 ?_
   refine o_v rfl (v_idx he rfl rfl rfl (i) (by omega) (by omega)) ?_
   refine go 1 ?_
   refine bring1 ?_
   refine o_st1 he rfl rfl rfl (by rw [intCs_len, Nat.blt_eq]; omega) ?_
   refine sx_blkeq (intCs ((openTo' l i).set i (-1))) (by rw [Nat.zero_add, Nat.mul_one, intCs_set]) ?_
   refine go 8 ?_
   refine bring1 ?_
   refine sx_drop ?_
   exact q_next (i + 1) (by omega) (by omega) rfl sb (by rw [openTo_next hlt, if_pos (by omega)])
  ·refine go 8 ?_
   refine sx_drop ?_
   exact q_next (i + 1) (by omega) (by omega) rfl sb (by rw [openTo_next hlt, if_neg (by omega)])
 ·obtain rfl : i = l.length := by omega
  rw [openTo_done]
  refine go 8 ?_
  refine o_alloc he rfl (fun g7 => ?_)
  refine go 4 ?_
  refine o_v rfl (v_makeFunc rfl rfl) ?_
  refine go 1 ?_
  refine o_stw _ he rfl rfl rfl rfl rfl rfl ?_
  refine go 3 ?_
  refine bring3 ?_
  refine sx_pub (fun Ig3 jg3 cg3 => ?_)
  have hvc := hvc.le jg3
  have hv := hv.le jg3
  have k1 := k1.le jg3
  have k2 := k2.le jg3
  have hJ0 := hJm _ _ _ _ _ jg3 hJ0
  refine bring2 ?_
  refine sx_pub (fun Ig4 jg4 cg4 => ?_)
  have hvc := hvc.le jg4
  have hv := hv.le jg4
  have k1 := k1.le jg4
  have k2 := k2.le jg4
  have cg3 := cg3.le jg4
  have hJ0 := hJm _ _ _ _ _ jg4 hJ0
  refine sx_pub (fun Ig7 jg7 cg7 => ?_)
  have hvc := hvc.le jg7
  have hv := hv.le jg7
  have k1 := k1.le jg7
  have k2 := k2.le jg7
  have cg3 := cg3.le jg7
  have cg4 := cg4.le jg7
  have hJ0 := hJm _ _ _ _ _ jg7 hJ0
  refine o_v rfl (v_ldI he rfl (cg7 0 _ rfl)) ?_
  refine go 1 ?_
  refine o_callA (seFromI _ gv gl g4 g3 g7 g10 vc c hvc hsc l A c0 hv hl hsl ly J hJm hY k1 k2 cg4 cg3 cg7 (l.length + 1) _ (ILe.refl _) l (Nat.lt_succ_self _) [] (mid_start hC hP) [] Hc hJ0) rfl rfl (fun v27 I27 H27 j27 q27 => ?_)
  obtain ⟨b27, dn, Hd, rfl, rfl, hJd, hbt, hbf⟩ := q27
  refine go 1 ?_
  refine end0 rfl ?_
  refine sx_drop ?_
  rw [hist_res]
  exact q_it b27 _ hJd (by cases b27 with
    | false => exact hbf rfl
    | true => exact hbt rfl)

theorem seHistories (I : IMap) (A : Option Addr) (m k : Nat) (vc : Value) :
    FnI Tryz.prog 120 #[.agg #[vc], .slice A m k] I (fun u J => ∃ gl gv, u = .func (.func 190) #[] #[.pointer (some ⟨gl, 0, none⟩), .pointer (some ⟨gv, 0, none⟩)] ∧ ICells J gl 0 [.slice A m k] ∧ ICells J gv 0 [vc]) := by
 refine enter Tryz.func120 Tryz.call120 rfl Tryz.ntmps120 rfl (fun w0 => ?_)
 refine go 3 ?_
 refine o_box _ rfl rfl rfl (fun g2 => ?_)
 refine go 1 ?_
 refine o_box _ rfl rfl rfl (fun g3 => ?_)
 refine go 5 ?_
 refine sx_pub (fun Ig3 jg3 cg3 => ?_)
 refine sx_pub (fun Ig2 jg2 cg2 => ?_)
 have cg3 := (cg3).le jg2
 refine o_v rfl (v_makeFunc rfl rfl) ?_
 refine go 4 ?_
 refine fin1 rfl rfl ?_
 exact q_i ⟨_, _, rfl, cg3, cg2⟩

theorem seAll (I : IMap) (vc : Value) (c : List Kind) (hvc : RdS I vc c) (hsc : SmC c) (v : Value) (l : List Rep) (hv : RdS I v l) (hl : l.length ≤ 1000000) (hsl : ∀ r ∈ l, ∀ e ∈ r.options, SmE e) (most : Int) :
    FnI Tryz.prog 65 #[.agg #[vc], v, .int .i64 most] I (fun u J => ∃ w, u = .tuple #[w, .int .i64 (allF c l most).2] ∧ RdS J w (allF c l most).1) := by
 have hv0 := hv
 obtain ⟨A, c0, rfl, hA, hc, hm⟩ := hv
 refine enter Tryz.func65 Tryz.call65 rfl Tryz.ntmps65 rfl (fun w0 => ?_)
 refine go 3 ?_
 refine o_box _ rfl rfl rfl (fun g3 => ?_)
 refine go 1 ?_
 refine o_box _ rfl rfl rfl (fun g5 => ?_)
 refine go 10 ?_
 refine sxb 13 rfl (fun h13 p13 => ?_) (fun h13 p13 => ?_)
 ·refine go 5 ?_
  refine c_true rfl ?_
  refine go 8 ?_
  refine fin2 rfl rfl rfl ?_
  have hr : allF c l most = ([], 1) := by unfold allF; rw [if_pos (by simp; omega)]
  exact q_i ⟨_, by rw [hr], by rw [hr]; exact RdS.nil'⟩
 ·refine go 5 ?_
  refine cb rfl (fun h16 p16 => ?_) (fun h16 p16 => ?_)
  ·refine go 8 ?_
   refine fin2 rfl rfl rfl ?_
   have hr : allF c l most = ([], 1) := by unfold allF; rw [if_pos (by simp; omega)]
   exact q_i ⟨_, by rw [hr], by rw [hr]; exact RdS.nil'⟩
  ·have hb2 : 1 ≤ most ∧ most ≤ 4096 := by omega
   have hb : ¬ (decide (most < 1) || decide (4096 < most)) = true := by simp; omega
   refine go 8 ?_
   refine o_callV (seChecked _ vc c hvc hsc _ l hv0 hl hsl) rfl rfl ?_
   refine go 9 ?_
   refine cb rfl (fun h21 p21 => ?_) (fun h21 p21 => ?_)
   ·refine go 9 ?_
    refine fin2 rfl rfl rfl ?_
    have hr : allF c l most = ([], errF c l) := by unfold allF; rw [if_neg hb, if_pos p21]
    exact q_i ⟨_, by rw [hr], by rw [hr]; exact RdS.nil'⟩
   ·have her : errF c l = 0 := by simpa using h21
    obtain ⟨hC, hP⟩ := err_zero her
    refine go 5 ?_
    refine o_alloc he rfl (fun g9 => ?_)
    refine go 6 ?_
    refine sx_nilrow 65 1 ?_
    refine go 2 ?_
    refine o_call (seHistories _ A _ c0 vc) rfl rfl (fun v25 I25 j25 q25 => ?_)
    have hvc := hvc.le j25
    have hv0 := hv0.le j25
    obtain ⟨gl, gv, rfl, k2, k1⟩ := q25
    refine go 3 ?_
    refine bring2 ?_
    refine bring2 ?_
    refine bring2 ?_
    refine c_range (σ := Option Addr × Nat × List Value) (ps := [26]) (none, 0, []) (fun ⟨A9, c9, xs⟩ => [.row (.slice A9 xs.length c9) 65 1 xs.length xs, .blk g9 112 [.slice A9 xs.length c9], .blk g5 3 [.int .i64 most]]) (fun pre I ⟨A9, c9, xs⟩ => Flat I xs pre ∧ (pre.length : Int) < most) (fun pre I ⟨A9, c9, xs⟩ cd => cd = .exit 0 ∧ Flat I xs pre ∧ (pre.length : Int) = most) rfl Tryz.call190 (histIt _ vc c hvc hsc A c0 l hv0 hl hsl hC hP gl gv k2 k1) (fun I vs x h => by obtain ⟨w, rfl, _⟩ := h; rfl) rfl (fun pre I I' s hI h => by obtain ⟨A9, c9, xs⟩ := s; exact ⟨h.1.le hI, h.2⟩) (fun pre I I' s c hI h => by obtain ⟨A9, c9, xs⟩ := s; exact ⟨h.1, h.2.1.le hI, h.2.2⟩) (⟨.nil, by simp; omega⟩) rfl ?_ ?_ ?_
    ·rintro r E1 pre x vs I1 ⟨A9, c9, xs⟩ hI1 ⟨hF, hlt⟩ ⟨w, rfl, hw⟩ _
     have hw0 := hw
     obtain ⟨B, cB, rfl, _, _, _⟩ := hw
     have hxl : xs.length = pre.length := hF.len.trans (Nat.mul_one _)
     
     refine sx_exp3 ?_
     refine go 3 ?_
     refine r_begin ?_
     refine go 6 ?_
     refine o_buildSlice he he rfl rfl rfl rfl rfl rfl rfl (fun v29 => ?_)
     refine go 1 ?_
     refine bring3 ?_
     refine o_appendO he he rfl rfl rfl rfl rfl (by omega) (by omega) rfl (fun v30 => ?_)
     refine sx_rowslice (fun A30 c30 hv30 => ?_)
     subst hv30
     refine go 1 ?_
     refine bring4 ?_
     refine o_stw _ he rfl rfl rfl rfl rfl rfl ?_
     refine go 10 ?_
     refine cb rfl (fun h34 p34 => ?_) (fun h34 p34 => ?_)
     ·refine go 2 ?_
      refine bring2 ?_
      refine sx_drop ?_
      refine bring4 ?_
      refine bring1 ?_
      refine bring2 ?_
      refine bring4 ?_
      refine bring4 ?_
      exact r_exit ((A30, c30, xs ++ [.slice B x.length cB])) (hI1) (⟨rfl, hF.append (.one ⟨_, rfl, hw0⟩), by simp only [List.length_append, List.length_singleton]; omega⟩) (by simp only [List.length_append, List.length_singleton]; rfl)
     ·refine go 2 ?_
      refine bring2 ?_
      refine sx_drop ?_
      refine bring4 ?_
      refine bring1 ?_
      refine bring2 ?_
      refine bring4 ?_
      refine bring4 ?_
      exact r_next ((A30, c30, xs ++ [.slice B x.length cB])) (hI1) (⟨hF.append (.one ⟨_, rfl, hw0⟩), by simp only [List.length_append, List.length_singleton] at *; omega⟩) (by simp only [List.length_append, List.length_singleton]; rfl)
    ·rintro D pre I1 ⟨A9, c9, xs⟩ hI1 hfull ⟨hF, hlt⟩
     have hxl : xs.length = pre.length := hF.len.trans (Nat.mul_one _)
     have hpre : pre = (histF c l).take most.toNat := by rw [← hfull, List.take_of_length_le (by omega)]
     refine sx_app3 ?_
     refine go 10 ?_
     refine cb rfl (fun h37 p37 => ?_) (fun h37 p37 => ?_)
     ·refine go 8 ?_
      refine q_mark ?_
      refine fin2 rfl rfl rfl ?_
      have hr : allF c l most = ([], 21) := by unfold allF; rw [if_neg hb, if_neg (by simpa using her), if_pos (by rw [← hpre]; exact List.eq_nil_of_length_eq_zero (by omega))]
      exact q_i ⟨_, by rw [hr], by rw [hr]; exact RdS.nil'⟩
     ·refine go 4 ?_
      refine bring1 ?_
      refine sx_pubrow (l := pre) rfl hxl (hF) (fun Ip jp Rp => ?_)
      refine go 6 ?_
      refine q_mark ?_
      refine fin2 rfl rfl rfl ?_
      have hr : allF c l most = (pre, 0) := by unfold allF; rw [if_neg hb, if_neg (by simpa using her), ← hpre, if_neg (fun e => by rw [e, List.length_nil] at hxl; omega)]
      exact q_i ⟨_, by rw [hr], by rw [hr]; exact Rp⟩
    ·rintro D pre I1 ⟨A9, c9, xs⟩ cd hI1 hpart ⟨rfl, hF, heq⟩
     have hxl : xs.length = pre.length := hF.len.trans (Nat.mul_one _)
     have hpre : pre = (histF c l).take most.toNat := by rw [show most.toNat = pre.length by omega]; exact List.prefix_iff_eq_take.1 hpart
     refine sx_app3 ?_
     refine go 11 ?_
     refine cb rfl (fun h37 p37 => ?_) (fun h37 p37 => ?_)
     ·refine go 8 ?_
      refine q_mark ?_
      refine fin2 rfl rfl rfl ?_
      have hr : allF c l most = ([], 21) := by unfold allF; rw [if_neg hb, if_neg (by simpa using her), if_pos (by rw [← hpre]; exact List.eq_nil_of_length_eq_zero (by omega))]
      exact q_i ⟨_, by rw [hr], by rw [hr]; exact RdS.nil'⟩
     ·refine go 4 ?_
      refine bring1 ?_
      refine sx_pubrow (l := pre) rfl hxl (hF) (fun Ip jp Rp => ?_)
      refine go 6 ?_
      refine q_mark ?_
      refine fin2 rfl rfl rfl ?_
      have hr : allF c l most = (pre, 0) := by unfold allF; rw [if_neg hb, if_neg (by simpa using her), ← hpre, if_neg (fun e => by rw [e, List.length_nil] at hxl; omega)]
      exact q_i ⟨_, by rw [hr], by rw [hr]; exact Rp⟩

theorem seFirst (I : IMap) (vc : Value) (c : List Kind) (hvc : RdS I vc c) (hsc : SmC c) (v : Value) (l : List Rep) (hv : RdS I v l) (hl : l.length ≤ 1000000) (hsl : ∀ r ∈ l, ∀ e ∈ r.options, SmE e)  :
    FnI Tryz.prog 49 #[.agg #[vc], v] I (fun u J => ∃ w, u = .tuple #[w, .int .i64 (firstF c l).2] ∧ RdS J w (firstF c l).1) := by
 refine enter Tryz.func49 Tryz.call49 rfl Tryz.ntmps49 rfl (fun w0 => ?_)
 refine go 3 ?_
 refine o_box _ rfl rfl rfl (fun g2 => ?_)
 refine go 9 ?_
 refine o_call (seAll _ vc c hvc hsc _ l hv hl hsl 1) rfl rfl (fun v11 I11 j11 q11 => ?_)
 obtain ⟨w11, rfl, hw11⟩ := q11
 refine go 14 ?_
 refine cb rfl (fun h15 p15 => ?_) (fun h15 p15 => ?_)
 ·refine go 9 ?_
  refine fin2 rfl rfl rfl ?_
  exact q_i ⟨_, by rw [first_no p15]; rfl, by rw [first_no p15]; exact RdS.nil'⟩
 ·have h0 : (allF c l 1).2 = 0 := by simpa using h15
  have hpos := all_pos h0
  obtain ⟨A11, c11, rfl, hA11, hc11, hm11⟩ := hw11
  refine go 5 ?_
  obtain ⟨b18, o18, w18, e18, c18, r18⟩ := RdA.at_ hA11 (i := 0) (by omega)
  obtain ⟨q18, rfl, S18, d18, rfl, hS18, hd18, hm18⟩ := r18
  refine o_v rfl (v_idx he rfl rfl e18 (0) (by omega) (by omega)) ?_
  refine o_v rfl (v_ldI he rfl (c18 0 _ rfl)) ?_
  refine go 5 ?_
  refine fin2 rfl rfl rfl ?_
  exact q_i ⟨_, by rw [first_yes h0]; try rfl, by rw [first_yes h0]; exact ⟨_, _, rfl, hS18, hd18, hm18⟩⟩

end Go.Proofs.YtdapmfkbpnjkmaaGreat

/- The search: sizes, the greater and the lesser number, the example of its laws. -/
set_option linter.all false
namespace Go.Sx
open Go
section
variable {P : Program} {n : Sz} {E : Ent} {I : IMap} {L : LL} {H : List Res} {d ty t1 t2 : Nat} {pos : String} {af : Array Edge} {x y : Operand} {a b : Int}
theorem v_max (hx : ev L x = some (.int .i64 a)) (hy : ev L y = some (.int .i64 b)) : OV P n E I L H ⟨some d, .call { callee := .builtin .max, args := #[x, y], argTypes := #[t1, t2] }, ty, pos, af, none⟩ (.int .i64 (if b > a then b else a)) :=
  (fun a w st _ => by simp [execOp, st.ev hx, st.ev hy, resolve, invoke, builtin, Builtin.max_, Builtin.max2])
theorem v_min (hx : ev L x = some (.int .i64 a)) (hy : ev L y = some (.int .i64 b)) : OV P n E I L H ⟨some d, .call { callee := .builtin .min, args := #[x, y], argTypes := #[t1, t2] }, ty, pos, af, none⟩ (.int .i64 (if b < a then b else a)) :=
  (fun a w st _ => by simp [execOp, st.ev hx, st.ev hy, resolve, invoke, builtin, Builtin.min_, Builtin.min2])
end
/-- how many combinations there are, as_ it is counted: on as_ long as_ they are not too many -/
def waysGo (most : Int) : Nat → List Rep → Nat
  | n, [] => n
  | n, r :: rs => if ((n : Nat) : Int) ≤ most then waysGo most (n * max 1 (chs r).toNat) rs else n
theorem ways_step {most : Int} {l : List Rep} {i n : Nat} (h : i < l.length) (hn : ((n : Nat) : Int) ≤ most) : waysGo most n (l.drop i) = waysGo most (n * max 1 (chs l[i]).toNat) (l.drop (i + 1)) := by
  rw [List.drop_eq_getElem_cons h, waysGo, if_pos hn]
theorem ways_big {most : Int} {n : Nat} (hn : ¬ ((n : Nat) : Int) ≤ most) : ∀ l : List Rep, waysGo most n l = n
  | [] => rfl
  | r :: l => by rw [waysGo, if_neg hn]
theorem ways_le {most : Int} : ∀ (l : List Rep) (n : Nat), ((waysGo most n l : Nat) : Int) ≤ most → ((n * waysN l : Nat) : Int) ≤ most
  | [], n, h => by simpa [waysGo, waysN] using h
  | r :: l, n, h => by
    rw [waysGo] at h
    split at h
    · have h1 := ways_le l _ h
      have h2 : n * waysN (r :: l) ≤ n * max 1 (chs r).toNat * waysN l := by
        rw [waysN, ← Nat.mul_assoc]
        exact Nat.mul_le_mul_right _ (Nat.mul_le_mul_left _ (Nat.le_max_right _ _))
      omega
    · rename_i h1; exact absurd h h1
/-- few reports, few combinations -/
def few16 (l : List Rep) (n : Int) : Bool := fewR l 12 && decide (((waysGo n 1 l : Nat) : Int) ≤ n)
theorem few16_sm {l : List Rep} {n : Int} (h : few16 l n = true) : fewR l 12 = true ∧ ((waysN l : Nat) : Int) ≤ n := by
  simp only [few16, Bool.and_eq_true, decide_eq_true_eq] at h
  refine ⟨h.1, ?_⟩
  have := ways_le l 1 h.2
  rwa [Nat.one_mul] at this
/-! choices before others -/
/-! the example -/
abbrev sA : ByteArray := ⟨#[97]⟩
abbrev sB : ByteArray := ⟨#[98]⟩
abbrev sW : ByteArray := ⟨#[119]⟩
abbrev sAxle : ByteArray := ⟨#[97, 120, 108, 101]⟩
abbrev sWheel : ByteArray := ⟨#[119, 104, 101, 101, 108, 115, 101, 116]⟩
def sxMade (p k : ByteArray) : Evt := ⟨1, 0, p, k, nil8, nil8, nil8, nil8, zUse⟩
def sxFit (p : ByteArray) : Evt := ⟨2, 5, p, nil8, sW, sAxle, nil8, nil8, zUse⟩
def sxRem (p : ByteArray) (n : Int) : Evt := ⟨3, n, p, nil8, nil8, nil8, nil8, nil8, zUse⟩
def sxC : List Kind := [⟨sAxle, false, []⟩, ⟨sWheel, false, [⟨sAxle, [sAxle], 1⟩]⟩]
def sxL : List Rep := [⟨[sxMade sA sAxle], false⟩, ⟨[sxMade sB sAxle], false⟩, ⟨[sxMade sW sWheel], false⟩, ⟨[sxFit sA, sxFit sB], false⟩, ⟨[sxRem sA 6], true⟩]
def sxM : List Rep := sxL ++ [⟨[sxRem sB 7], false⟩]
theorem sx_smC : SmC sxC := by
  intro k hk
  simp only [sxC, List.mem_cons, List.not_mem_nil, or_false] at hk
  rcases hk with rfl | rfl
  · exact ⟨by decide, fun s hs => (by cases hs)⟩
  · refine ⟨by decide, fun s hs => ?_⟩
    obtain rfl := List.mem_singleton.1 hs
    refine ⟨by decide, fun k hk => ?_⟩
    obtain rfl := List.mem_singleton.1 hk
    decide
theorem sxM_sm : ∀ r ∈ sxM, ∀ e ∈ r.options, SmE e := by
  intro r hr e he
  simp only [sxM, sxL, List.cons_append, List.nil_append, List.mem_cons, List.not_mem_nil, or_false] at hr
  rcases hr with rfl | rfl | rfl | rfl | rfl | rfl <;> simp only [List.mem_cons, List.not_mem_nil, or_false] at he
  · subst he; exact ⟨by decide, by decide, by decide, by decide, by decide, by decide⟩
  · subst he; exact ⟨by decide, by decide, by decide, by decide, by decide, by decide⟩
  · subst he; exact ⟨by decide, by decide, by decide, by decide, by decide, by decide⟩
  · rcases he with rfl | rfl <;> exact ⟨by decide, by decide, by decide, by decide, by decide, by decide⟩
  · subst he; exact ⟨by decide, by decide, by decide, by decide, by decide, by decide⟩
  · subst he; exact ⟨by decide, by decide, by decide, by decide, by decide, by decide⟩
theorem sxL_sm : ∀ r ∈ sxL, ∀ e ∈ r.options, SmE e := fun r hr => sxM_sm r (List.mem_append_left _ hr)
end Go.Sx

/- append to a list that nobody owns and that has no room left: a new row. -/
set_option linter.all false
namespace Go.Sx
open Go
section
variable {P : Program} {ρ : Option Nat} {n : Sz} {E : Ent} {I : IMap} {L : LL} {H : List Res} {Q : Exit → Act → World → Prop} {ops : Array Oper} {K : Act → World → Prop}
variable {α : Type} [Enc α] {d ty : Nat} {pos : String} {af : Array Edge} {x y : Operand}
theorem o_buildSliceB {tt e k len : Nat} {zs cs : List Value} {ps : List (Nat × Operand)} {vs : List (Nat × Value)} (he : eltK P tt = some (e, k)) (hz : zeroK P e = some zs) (hk : zs.length = k) (hk0 : Nat.blt 0 k = true) (hl : Nat.ble (len * k) 16777216 = true)
    (hv : evp L ps = some vs) (hf : fillL (fun i => some (i * k, k)) vs (zrep zs len) = some cs) (hcs : cs.length = len * k) (hd : Nat.blt d n.sz = true)
    (kk : ∀ g, SX n E I ((d, .slice (some ⟨g, 0, none⟩) len len) :: L) (.blk g e cs :: H) K) : SX n E I L H (one P ops Q ⟨some d, .buildSlice tt len ps.toArray, ty, pos, af, none⟩ K) :=
  o_gen (fun g : Nat => .slice (some ⟨g, 0, none⟩) len len) (fun _ => I) (fun g => .blk g e cs :: H) (fun _ => True) hd
    (fun a w st m => by
      obtain ⟨h1, bb, h2⟩ := eltK_spec he
      obtain ⟨z, h3, h4⟩ := zeroK_spec hz w
      have hparts : (ps.toArray.map fun (i, x) => (i, a.eval x)).toList = vs := by simpa using evp_spec st ps vs hv
      have hk' : 0 < k := by simpa [Nat.blt_eq] using hk0
      have hl' : len * k ≤ 16777216 := Nat.le_of_ble_eq_true hl
      have hlen : len ≤ len * k := Nat.le_mul_of_pos_right len hk'
      have hinit : (Array.range (len * k)).map ((if len * k = 0 then (#[] : Array Value) else zs.toArray)[· % (if len * k = 0 then (#[] : Array Value) else zs.toArray).size]!) = (zrep zs len).toArray := by
        by_cases h0 : len * k = 0
        · have : len = 0 := by
            rcases Nat.eq_zero_or_pos len with h | h
            · exact h
            · have := Nat.mul_pos h hk'; omega
          subst this
          simp [zrep]
        · rw [if_neg h0]
          subst hk
          exact zrep_made zs hk' len
      have hfill := fill_eq _ vs (zrep zs len) cs hf
      refine ⟨w.heap.size, w.alloc (.cells cs.toArray e), trivial, ?_, m.alloc e cs⟩
      · simp only [execOp, Instr.buildSlice, Sem.run_bind, run_underlying h1, Result.andThen_ok, (tyK_spec h2 w).2]
        rw [if_neg (by omega)]
        by_cases h0 : len * k = 0
        · simp only [h0, if_true] at hinit ⊢
          simp only [Sem.run_bind, Sem.run_pure, Result.andThen_ok, hparts]
          rw [hinit, hfill]
          simp [newRow]
        · simp only [h0, if_false] at hinit ⊢
          simp only [Sem.run_bind, Sem.run_pure, Result.andThen_ok, hparts, h3, h4]
          rw [hinit, hfill]
          simp [newRow]) fun g _ => kk g
theorem Flat.rda {I : IMap} {g : Nat} {ws : List Value} {l : List α} (hF : Flat I ws l) (hc : ICells I g 0 ws) : RdA I (some ⟨g, 0, none⟩) l := fun _ =>
  ⟨g, 0, rfl, fun i x hi => by
    obtain ⟨vs, h1, h2⟩ := hF.at_ i x hi
    refine ⟨vs, fun j u hu => ?_, h1⟩
    have h3 := hc _ _ (h2 j u hu)
    rw [Nat.zero_add] at h3
    rw [Nat.zero_add]
    exact h3⟩
end
end Go.Sx

/- Walks, printed by a program out of the code of the functions: each theorem is a contract of one function. -/
namespace Go.Proofs.YtdapmfkbpnjkmaaGreat
open Go Go.Sx
set_option linter.all false
set_option maxRecDepth 20000
set_option maxHeartbeats 4000000
theorem ref13Ways (I : IMap) (v : Value) (l : List Rep) (hv : RdS I v l) (hl : l.length ≤ 1000000) (hsl : ∀ r ∈ l, ∀ e ∈ r.options, SmE e) (most : Int) (hmo : most ≤ 4096) :
    FnV Tryz.prog 105 #[v, .int .i64 most] I (.int .i64 ((waysGo most 1 l : Nat) : Int)) := by
 obtain ⟨A, c0, rfl, hA, hc, hm⟩ := hv
 refine enter Tryz.func105 Tryz.call105 rfl Tryz.ntmps105 rfl (fun w0 => ?_)
 refine go 17 ?_
 refine c_loop2 (0) (1) (fun i n => I)
  (fun i n => [(0, .slice A l.length c0), (1, .int .i64 most), (5, .int .i64 ((n : Nat) : Int)), (6, .int .i64 ((i : Nat) : Int))])
  (fun i n => [])
  (fun i n => i ≤ l.length ∧ n ≤ 1000000 ∧ waysGo most 1 l = waysGo most n (l.drop i))
  (fun i n => l.length - i) ⟨Nat.zero_le _, by omega, rfl⟩ rfl sb rfl ?_
 intro i n ⟨hi, hn, hw⟩
 refine go 8 ?_
 refine sxb 11 rfl (fun h11 p11 => ?_) (fun h11 p11 => ?_)
 ·refine go 6 ?_
  refine cb rfl (fun h15 p15 => ?_) (fun h15 p15 => ?_)
  ·have hlt : i < l.length := by omega
   have hnm : ((n : Nat) : Int) ≤ most := by omega
   have hc5 := chs_five l[i]
   have hcn := chs_nn l[i]
   have hpn : n * max 1 (chs l[i]).toNat ≤ 4096 * 5 := Nat.mul_le_mul (by omega) (by omega)
   have hpi : (n : Int) * ((max 1 (chs l[i]).toNat : Nat) : Int) = ((n * max 1 (chs l[i]).toNat : Nat) : Int) := (Int.natCast_mul _ _).symm
   generalize hmx : max 1 (chs l[i]).toNat = mx at hpn hpi
   refine go 8 ?_
   obtain ⟨b21, o21, w21, e21, c21, r21⟩ := RdA.at_ hA (i := i) (by omega)
   obtain ⟨q21, rfl, S21, d21, rfl, hS21, hd21, hm21⟩ := r21
   refine o_v rfl (v_idx he rfl rfl e21 (i) (by omega) (by omega)) ?_
   refine o_v rfl (v_ldIa he rfl c21 rfl) ?_
   refine go 1 ?_
   refine o_callV (ref13Choices _ l[i] S21 d21 ⟨_, _, rfl, hS21, hd21, hm21⟩ (hsl _ (List.getElem_mem hlt))) rfl rfl ?_
   refine o_v rfl (OV.cast (u := .int .i64 ((mx : Nat) : Int)) (v_max rfl rfl) (congrArg (Value.int .i64) (by split <;> omega))) ?_
   refine o_v rfl (OV.cast (u := .int .i64 ((n * mx : Nat) : Int)) (v_mul rfl rfl ⟨by omega, by omega⟩) (congrArg (Value.int .i64) (by rw [hpi]))) ?_
   refine go 10 ?_
   exact q_next2 (i + 1) (n * mx) ⟨by omega, by omega, by rw [hw, ways_step hlt (by omega), hmx]⟩ (by omega) rfl sb rfl
  ·refine go 12 ?_
   refine fin1 rfl rfl ?_
   exact q_v (congrArg (Value.int .i64) (by rw [hw, ways_big (by omega)]))
 ·refine go 6 ?_
  refine c_false rfl ?_
  refine go 12 ?_
  refine fin1 rfl rfl ?_
  obtain rfl : i = l.length := by omega
  exact q_v (congrArg (Value.int .i64) (by rw [hw, List.drop_length]; rfl))

theorem ref16Few (I : IMap) (v : Value) (l : List Rep) (hv : RdS I v l) (most : Int) (hmo : most ≤ 4096) :
    FnV Tryz.prog 52 #[v, .int .i64 most] I (.bool (few16 l most)) := by
 refine enter Tryz.func52 Tryz.call52 rfl Tryz.ntmps52 rfl (fun w0 => ?_)
 refine go 9 ?_
 refine o_callV (ref13Few _ v l hv 12) rfl rfl ?_
 refine go 1 ?_
 refine sxb 7 rfl (fun h7 p7 => ?_) (fun h7 p7 => ?_)
 ·refine go 3 ?_
  refine o_yes rfl rfl h7 (o_callV (ref13Ways _ v l hv (by have := (fewR_sm h7).2; omega) (fewR_sm h7).1 most hmo) rfl rfl ?_)
  refine go 7 ?_
  refine fin1 rfl rfl ?_
  exact q_v (congrArg Value.bool (by simp only [few16, h7, bS]))
 ·refine go 10 ?_
  refine fin1 rfl rfl ?_
  exact q_v (congrArg Value.bool (by simp only [few16, h7, bS]))

end Go.Proofs.YtdapmfkbpnjkmaaGreat

/- The references of histories: what they compute. -/
set_option linter.all false
namespace Go.Sx
open Go
def areF (l : List Rep) (ch : List Int) : Bool := decide (((l.length : Nat) : Int) = (ch.length : Nat)) && allTo okK l ch l.length
theorem picked_are (l : List Rep) (ch : List Int) : pickedF l ch = if areF l ch = true then (evsTo l ch l.length, 0) else ([], 1) := rfl
/-! the order -/
/-! days beyond the last one -/
/-! the answers -/
theorem evs_sm {l : List Rep} {ch : List Int} {n : Nat} {e : Evt} (hsl : ∀ r ∈ l, ∀ e ∈ r.options, SmE e) (h : e ∈ evsTo l ch n) : SmE e := by
  rw [evsTo, List.mem_filterMap] at h
  obtain ⟨i, _, h⟩ := h
  unfold evAt at2 at h
  split at h
  · rename_i r k h1 h2
    exact hsl r (List.mem_of_getElem? h1) e (List.mem_of_getElem? (by simpa using h))
  · simp at h
end Go.Sx

/- The reference of searching: all choices, one after the other. -/
set_option linter.all false
namespace Go.Sx
open Go
/-- the choices behind some choices -/
def nextF : List Rep → List Int → List Int × Bool
  | r :: l, x :: t => if (nextF l t).2 = true then (x :: (nextF l t).1, true) else if x + 1 < chs r then ((x + 1) :: (nextF l t).1, true) else (0 :: (nextF l t).1, false)
  | _, _ => ([], false)
def zeros (n : Nat) : List Int := List.replicate n 0
/-- a list of choices, each the next one of the one before, from the first one to the last one -/
structure Chn (l : List Rep) (xs : List (List Int)) : Prop where
  pos : 0 < xs.length
  first : xs[0]? = some (zeros l.length)
  step : ∀ k (h : k + 1 < xs.length), nextF l xs[k] = (xs[k + 1], true)
  last : ∀ (h : xs.length - 1 < xs.length), nextF l xs[xs.length - 1] = (zeros l.length, false)
theorem flat_idx {α : Type} {xs : List α} {n m : Nat} (f : Nat → α → List Int) (hm : xs.length = m) : ∀ {q i : Nat} (hq : q < n) (hi : i < m), ((List.range n).flatMap fun k => xs.map (f k))[q * m + i]? = (xs[i]?).map (f q) := by
  induction n with
  | zero => intro q i hq; omega
  | succ n ih =>
    intro q i hq hi
    rw [List.range_succ, List.flatMap_append]
    have hlen : ((List.range n).flatMap fun k => xs.map (f k)).length = n * m := by
      rw [List.length_flatMap]
      simp only [List.length_map, hm]
      rw [List.map_const', List.sum_replicate_nat, List.length_range]
    by_cases h : q < n
    · rw [List.getElem?_append_left (by
        rw [hlen]
        have : (q + 1) * m ≤ n * m := Nat.mul_le_mul_right _ h
        rw [Nat.add_mul] at this; omega)]
      exact ih h hi
    · obtain rfl : q = n := by omega
      rw [List.getElem?_append_right (by rw [hlen]; omega), hlen]
      simp
theorem all_chn : ∀ {l : List Rep}, (∀ r ∈ l, 1 ≤ chs r) → Chn l (allCh l)
  | [], _ => ⟨by simp [allCh], rfl, fun k h => by simp [allCh] at h, fun h => rfl⟩
  | r :: l, hp => by
    have ih := all_chn (l := l) fun x hx => hp x (List.mem_cons_of_mem _ hx)
    have hr := hp r (by simp)
    obtain ⟨m, hm⟩ : ∃ m, (allCh l).length = m := ⟨_, rfl⟩
    obtain ⟨n, hn⟩ : ∃ n, (chs r).toNat = n := ⟨_, rfl⟩
    have hm0 : 0 < m := by rw [← hm]; exact ih.pos
    have hlen : (allCh (r :: l)).length = n * m := by rw [all_len, waysN, hn, ← all_len, hm]
    have hat : ∀ {q i : Nat} (hq : q < n) (hi : i < m), (allCh (r :: l))[q * m + i]? = ((allCh l)[i]?).map fun t => (q : Int) :: t := fun hq hi => by
      rw [allCh, hn]
      exact flat_idx (fun (k : Nat) t => (k : Int) :: t) hm hq hi
    have hn0 : 0 < n := by omega
    have hge : ∀ {k : Nat} (h : k < (allCh (r :: l)).length), ∃ (q i : Nat) (hq : q < n) (hi : i < (allCh l).length), k = q * m + i ∧ (allCh (r :: l))[k] = (q : Int) :: (allCh l)[i] := fun {k} h => by
      rw [hlen] at h
      have hq : k / m < n := (Nat.div_lt_iff_lt_mul hm0).2 h
      have hi : k % m < m := Nat.mod_lt _ hm0
      have he : k = k / m * m + k % m := by rw [Nat.mul_comm]; exact (Nat.div_add_mod k m).symm
      refine ⟨k / m, k % m, hq, by rw [hm]; exact hi, he, ?_⟩
      have h1 := hat hq hi
      rw [← he, List.getElem?_eq_getElem (by rw [hlen]; exact h), List.getElem?_eq_getElem (by rw [hm]; exact hi)] at h1
      exact Option.some.inj h1
    refine ⟨by rw [hlen]; exact Nat.mul_pos hn0 hm0, ?_, fun k h => ?_, fun h => ?_⟩
    · have := hat hn0 hm0
      rw [Nat.zero_mul, Nat.zero_add, ih.first] at this
      rw [this]; simp [zeros, List.replicate_succ]
    · obtain ⟨q, i, hq, hi, hk, e1⟩ := hge (k := k) (by omega)
      rw [e1]
      simp only [nextF]
      rw [hm] at hi
      by_cases hl : i + 1 < m
      · have e2 := ih.step i (by rw [hm]; exact hl)
        rw [e2]
        simp only [if_true]
        have h3 := hat hq hl
        rw [show q * m + (i + 1) = k + 1 by omega, List.getElem?_eq_getElem h, List.getElem?_eq_getElem (by rw [hm]; exact hl)] at h3
        rw [Option.some.inj h3]
      · have hi1 : i = m - 1 := by omega
        have e2 : nextF l ((allCh l)[i]'(by rw [hm]; exact hi)) = (zeros l.length, false) := by
          have := ih.last (by omega)
          simp only [hm] at this
          subst hi1
          exact this
        rw [e2]
        rw [hlen] at h
        have hq1 : q + 1 < n := by
          rcases Nat.lt_or_ge (q + 1) n with h1 | h1
          · exact h1
          · have : n * m ≤ (q + 1) * m := Nat.mul_le_mul_right _ h1
            rw [Nat.add_mul] at this; omega
        have h3 := hat hq1 hm0
        rw [show (q + 1) * m + 0 = k + 1 by rw [Nat.add_mul]; omega, List.getElem?_eq_getElem (by rw [hlen]; exact h), ih.first] at h3
        rw [Option.some.inj h3]
        rw [if_neg (show ¬ (false = true) by decide), if_pos (by omega)]
        simp
    · obtain ⟨q, i, hq, hi, hk, e1⟩ := hge h
      rw [e1]
      rw [hm] at hi
      rw [hlen] at hk
      have hqm : q + 1 = n := by
        rcases Nat.lt_or_ge (q + 1) n with h1 | h1
        · have h2 : (q + 2) * m ≤ n * m := Nat.mul_le_mul_right _ h1
          rw [Nat.add_mul] at h2; omega
        · omega
      have hi1 : i = m - 1 := by
        subst hqm
        rw [Nat.add_mul] at hk; omega
      have e2 : nextF l ((allCh l)[i]'(by rw [hm]; exact hi)) = (zeros l.length, false) := by
        have := ih.last (by omega)
        simp only [hm] at this
        subst hi1
        exact this
      simp only [nextF]
      rw [e2, if_neg (show ¬ (false = true) by decide), if_neg (by omega)]
      simp [zeros, List.replicate_succ]
end Go.Sx

/- The plain law of SearchEvidence: a report with one option alone, or without one. -/
set_option linter.all false
namespace Go.Sx
open Go
/-! valid reports -/
theorem allP_opt (l : List Evt) : ∀ n, n ≤ l.length → (allP optFine l n = true ↔ (l.take n).Nodup ∧ ∀ e ∈ l.take n, validE e = true) := by
  intro n
  induction n with
  | zero => intro _; simp [allP]
  | succ n ih =>
    intro hn
    have hlt : n < l.length := by omega
    have e1 : allP optFine l (n + 1) = (allP optFine l n && optFine (l.take n) l[n]) := by
      simp only [allP, List.range_succ, List.all_append, List.all_cons, List.all_nil, Bool.and_true, List.getElem?_eq_getElem hlt]
    rw [e1, Bool.and_eq_true, ih (by omega), ← take_succ_of hlt]
    have e2 : optFine (l.take n) l[n] = true ↔ ¬ l[n] ∈ l.take n ∧ validE l[n] = true := by
      simp only [optFine, Bool.not_eq_true', Bool.or_eq_false_iff, Bool.not_eq_false', hit_eq]
      rw [List.any_eq_false]
      constructor
      · rintro ⟨h1, h2⟩
        exact ⟨fun h => h1 _ h (by simp), h2⟩
      · rintro ⟨h1, h2⟩
        exact ⟨fun x hx hh => h1 (by have : x = l[n] := by simpa using hh
                                     exact this ▸ hx), h2⟩
    rw [e2, List.nodup_append]
    constructor
    · rintro ⟨⟨h1, h2⟩, h3, h4⟩
      refine ⟨⟨h1, by simp, fun a ha b hb => ?_⟩, fun e he => ?_⟩
      · rw [List.mem_singleton] at hb; rintro rfl; exact h3 (hb ▸ ha)
      · rcases List.mem_append.1 he with he | he
        · exact h2 e he
        · rw [List.mem_singleton] at he; rw [he]; exact h4
    · rintro ⟨⟨h1, _, h3⟩, h4⟩
      exact ⟨⟨h1, fun e he => h4 e (List.mem_append_left _ he)⟩, fun h => h3 _ h _ (List.mem_singleton.2 rfl) rfl, h4 _ (List.mem_append_right _ (List.mem_singleton.2 rfl))⟩
theorem validRep_iff {r : Rep} : validRep r = true ↔ 1 ≤ r.options.length ∧ r.options.length ≤ 4 ∧ r.options.Nodup ∧ ∀ e ∈ r.options, validE e = true := by
  have := allP_opt r.options r.options.length (Nat.le_refl _)
  rw [List.take_length] at this
  unfold validRep
  rw [Bool.and_eq_true, this]
  simp only [Bool.not_eq_true', Bool.or_eq_false_iff, decide_eq_false_iff_not]
  constructor
  · rintro ⟨⟨h1, h2⟩, h3⟩
    exact ⟨by omega, by omega, h3⟩
  · rintro ⟨h1, h2, h3⟩
    exact ⟨⟨by omega, by omega⟩, h3⟩
theorem validRep_sub {r q : Rep} (h : validRep r = true) (hs : q.options.Sublist r.options) (h1 : 1 ≤ q.options.length) : validRep q = true := by
  obtain ⟨_, h3, h4, h5⟩ := validRep_iff.1 h
  exact validRep_iff.2 ⟨h1, Nat.le_trans hs.length_le h3, h4.sublist hs, fun e he => h5 e (hs.mem he)⟩
/-- the report with one of its options alone -/
def oneOf (r : Rep) (j : Nat) : Rep := ⟨r.options[j]?.toList, false⟩
section
variable {r : Rep} {j : Nat}
theorem one_opts (h : j < r.options.length) : (oneOf r j).options = [r.options[j]] := by simp [oneOf, h]
theorem one_valid (hv : validRep r = true) (h : j < r.options.length) : validRep (oneOf r j) = true := by
  refine validRep_sub hv ?_ (by rw [one_opts h]; simp)
  rw [one_opts h]; exact List.singleton_sublist.2 (List.getElem_mem h)
theorem one_chs (hv : validRep r = true) (h : j < r.options.length) : chs (oneOf r j) = 1 := by
  simp [chs, one_valid hv h, one_opts h]; simp [oneOf]
theorem one_opt (h : j < r.options.length) (d : Int) : optAt d (oneOf r j) 0 = optAt d r (j : Nat) := by
  simp [optAt, one_opts h, h]
end
/-! all choices, where one report is another one -/
theorem all_mid (A B : List Rep) (r : Rep) : allCh (A ++ r :: B) = (allCh A).flatMap fun a => ((List.range (chs r).toNat).map fun (k : Nat) => (k : Int)).flatMap fun x => (allCh B).map fun b => a ++ x :: b := by
  induction A with
  | nil =>
    simp only [List.nil_append, allCh, List.flatMap_cons, List.flatMap_nil, List.append_nil, List.flatMap_map]
  | cons q A ih =>
    simp only [List.cons_append, allCh, ih, List.flatMap_assoc, List.map_flatMap, List.flatMap_map, List.map_map]
    congr 1
/-- choices whose one at an index is another one -/
def chAt (k : Nat) (f : Int → Int) (t : List Int) : List Int := t.set k (f (t.getD k 0))
theorem at_app {a b : List Int} {x : Int} {k : Nat} {f : Int → Int} (h : a.length = k) : chAt k f (a ++ x :: b) = a ++ f x :: b := by
  subst h
  simp [chAt, List.getD]
theorem getD_app {a b : List Int} {x : Int} {k : Nat} (h : a.length = k) : (a ++ x :: b).getD k 0 = x := by
  subst h
  simp [List.getD]
theorem flat_pick {a : List Int} {k : Nat} (h : a.length = k) (P : Int → Bool) (f : Int → Int) (ys : List (List Int)) : ∀ xs : List Int, (((xs.flatMap fun x => ys.map fun b => a ++ x :: b).filter fun t => P (t.getD k 0)).map (chAt k f)) = ((xs.filter P).map f).flatMap fun x => ys.map fun b => a ++ x :: b
  | [] => rfl
  | x :: xs => by
    rw [List.flatMap_cons, List.filter_append, List.map_append, flat_pick h P f ys xs, List.filter_map, List.filter_cons]
    have e : ((fun t => P (t.getD k 0)) ∘ fun b => a ++ x :: b) = fun _ => P x := by
      funext b; simp only [Function.comp_apply]; rw [getD_app h]
    rw [e]
    by_cases hp : P x = true
    · rw [if_pos hp, List.map_cons, List.flatMap_cons, show ys.filter (fun _ => P x) = ys from List.filter_eq_self.2 fun _ _ => hp]
      congr 1
      rw [List.map_map]
      refine List.map_congr_left fun b _ => ?_
      simp only [Function.comp_apply]; rw [at_app h]
    · rw [if_neg hp]
      have : ys.filter (fun _ => P x) = [] := by rw [List.filter_eq_nil_iff]; intro _ _; exact hp
      rw [this]; rfl
section
variable {c : List Kind} {A B : List Rep} {r r' : Rep} {P : Int → Bool} {f : Int → Int} {k : Nat}
theorem flat_congr {α β : Type} {f g : α → List β} : ∀ {l : List α}, (∀ x ∈ l, f x = g x) → l.flatMap f = l.flatMap g
  | [], _ => rfl
  | x :: l, h => by rw [List.flatMap_cons, List.flatMap_cons, h x (by simp), flat_congr fun y hy => h y (by simp [hy])]
theorem all_swap (hk : A.length = k) (h : (((List.range (chs r).toNat).map fun (k : Nat) => (k : Int)).filter P).map f = (List.range (chs r').toNat).map fun (k : Nat) => (k : Int)) :
    allCh (A ++ r' :: B) = ((allCh (A ++ r :: B)).filter fun t => P (t.getD k 0)).map (chAt k f) := by
  rw [all_mid, all_mid, List.filter_flatMap, List.map_flatMap]
  refine flat_congr fun a ha => ?_
  rw [flat_pick ((all_mem.1 ha).1.trans hk) P f, h]
theorem mid_mem {t : List Int} (h : t ∈ allCh (A ++ r :: B)) : ∃ a x b, t = a ++ x :: b ∧ a.length = A.length ∧ b.length = B.length ∧ 0 ≤ x ∧ x < chs r := by
  rw [all_mid] at h
  obtain ⟨a, ha, h⟩ := List.mem_flatMap.1 h
  obtain ⟨x, hx, h⟩ := List.mem_flatMap.1 h
  obtain ⟨b, hb, rfl⟩ := List.mem_map.1 h
  obtain ⟨q, hq, rfl⟩ := List.mem_map.1 hx
  have := List.mem_range.1 hq
  exact ⟨a, _, b, rfl, (all_mem.1 ha).1, (all_mem.1 hb).1, by omega, by omega⟩
theorem is_pick {l l' : List Rep} {ch ch' : List Int} (h1 : givenF c l ch 0 = true) (h2 : givenF c l' ch' 0 = true) (h : pickE 40001 l ch = pickE 40001 l' ch') : isF c l ch = isF c l' ch' := by rw [is_ev h1, is_ev h2, h]
theorem pick_mid {a b : List Int} {x : Int} (h : a.length = A.length) (d : Int) : pickE d (A ++ r :: B) (a ++ x :: b) = pickE d A a ++ (optAt d r x).toList ++ pickE d B b := by
  unfold pickE
  rw [List.zip_append h.symm, List.filterMap_append, List.zip_cons_cons, List.filterMap_cons]
  cases hq : optAt d r x <;> simp [hq]
theorem hist_swap (hc : validC c = true) (hl : ∀ q ∈ A ++ r :: B, chs q ≠ 0) (hr : chs r' ≠ 0) (hk : A.length = k) (h : (((List.range (chs r).toNat).map fun (k : Nat) => (k : Int)).filter P).map f = (List.range (chs r').toNat).map fun (k : Nat) => (k : Int))
    (ho : ∀ x : Int, 0 ≤ x → x < chs r → P x = true → optAt 40001 r' (f x) = optAt 40001 r x) : histF c (A ++ r' :: B) = ((histF c (A ++ r :: B)).filter fun t => P (t.getD k 0)).map (chAt k f) := by
  have hl' : ∀ q ∈ A ++ r' :: B, chs q ≠ 0 := fun q hq => by
    rcases List.mem_append.1 hq with hq | hq
    · exact hl q (List.mem_append_left _ hq)
    · rcases List.mem_cons.1 hq with rfl | hq
      · exact hr
      · exact hl q (List.mem_append_right _ (List.mem_cons_of_mem _ hq))
  unfold histF
  rw [List.filter_filter]
  have e1 : allCh (A ++ r' :: B) = ((allCh (A ++ r :: B)).filter fun t => P (t.getD k 0)).map (chAt k f) := all_swap hk h
  have e2 : ∀ t ∈ allCh (A ++ r :: B), P (t.getD k 0) = true → isF c (A ++ r' :: B) (chAt k f t) = isF c (A ++ r :: B) t := fun t ht hp => by
    have g1 := (all_given hc hl t).2 ht
    have g2 := (all_given hc hl' (chAt k f t)).2 (by rw [e1]; exact List.mem_map.2 ⟨t, List.mem_filter.2 ⟨ht, hp⟩, rfl⟩)
    refine is_pick g2 g1 ?_
    obtain ⟨a, x, b, rfl, ha, hb, h0, h1⟩ := mid_mem ht
    rw [getD_app (ha.trans hk)] at hp
    rw [at_app (ha.trans hk), pick_mid ha, pick_mid ha, ho x h0 h1 hp]
  rw [e1, List.filter_map, List.filter_filter]
  congr 1
  refine List.filter_congr fun t ht => ?_
  simp only [Function.comp_apply]
  cases hp : P (t.getD k 0) with
  | false => simp
  | true => simp only [Bool.and_true, Bool.true_and]; exact e2 t ht hp
end
theorem range_split {n j : Nat} (h : j < n) : List.range n = List.range j ++ j :: (List.range (n - (j + 1))).map (j + 1 + ·) := by
  have e2 : List.range n = List.range (j + 1) ++ (List.range (n - (j + 1))).map (j + 1 + ·) := by
    rw [← List.range_add]; congr 1; omega
  rw [e2, List.range_succ, List.append_assoc]; rfl
theorem range_one {n j : Nat} (h : j < n) : ((((List.range n).map fun (k : Nat) => (k : Int)).filter fun x : Int => decide (x = (j : Int))).map fun _ => (0 : Int)) = [0] := by
  rw [range_split h, List.map_append, List.map_cons, List.filter_append, List.filter_cons, if_pos (by simp), List.map_append, List.map_cons]
  have h1 : ((List.range j).map fun (k : Nat) => (k : Int)).filter (fun x : Int => decide (x = (j : Int))) = [] := by
    rw [List.filter_eq_nil_iff]
    intro x hx
    obtain ⟨q, hq, rfl⟩ := List.mem_map.1 hx
    have := List.mem_range.1 hq
    simp; omega
  have h2 : (((List.range (n - (j + 1))).map (j + 1 + ·)).map fun (k : Nat) => (k : Int)).filter (fun x : Int => decide (x = (j : Int))) = [] := by
    rw [List.filter_eq_nil_iff]
    intro x hx
    obtain ⟨q, hq, rfl⟩ := List.mem_map.1 hx
    obtain ⟨p, hp, rfl⟩ := List.mem_map.1 hq
    simp; omega
  rw [h1, h2]; rfl
/-- those that choose an option, as_ if it were the only one -/
def selF (k j : Nat) (all : List (List Int)) : List (List Int) := (all.filter fun t => decide (t.getD k 0 = (j : Int))).map (chAt k fun _ => 0)
section
variable {c : List Kind} {l : List Rep} {k j : Nat}
theorem set_mid {α : Type} {l : List α} {k : Nat} (h : k < l.length) (x : α) : l.set k x = l.take k ++ x :: l.drop (k + 1) := by
  conv => lhs; rw [cut_whole h]
  have e : (l.take k).length = k := by rw [List.length_take]; omega
  rw [List.set_append_right _ _ (by omega), e, Nat.sub_self]; rfl
theorem opt_chs {r : Rep} (hv : validRep r = true) : (r.options.length : Int) ≤ chs r := by
  simp only [chs, hv, Bool.true_eq_false, if_false]; split <;> omega
theorem hist_one (he : errF c l = 0) (hk : k < l.length) (hj : j < l[k].options.length) : histF c (l.set k (oneOf l[k] j)) = selF k j (histF c l) := by
  obtain ⟨hc, hp⟩ := err_zero he
  have hv : validRep l[k] = true := by
    cases hv : validRep l[k] with
    | true => rfl
    | false => exact absurd (by simp [chs, hv]) (hp _ (List.getElem_mem hk))
  have hb := opt_chs hv
  have h1 := one_chs hv hj
  rw [set_mid hk, selF]
  conv => rhs; rw [cut_whole hk]
  refine hist_swap (P := fun x : Int => decide (x = (j : Int))) hc (by rw [← cut_whole hk]; exact hp) (by rw [h1]; decide) (by rw [List.length_take]; omega) ?_ fun x h0 hx hq => ?_
  · rw [h1, range_one (by omega)]; rfl
  · obtain rfl : x = (j : Int) := by simpa using hq
    exact one_opt hj _
theorem err_few0 {q : List Rep} (hq : q.length ≤ 30) (hc : validC c = true) (hp : ∀ r ∈ q, chs r ≠ 0) : errF c q = 0 := by
  have : dbtF q ≤ q.length := List.length_filter_le _ _
  rw [err_end hc hp, if_neg (by omega)]
end
end Go.Sx

/- Searching: too many doubtful reports; reports without a doubt. -/
set_option linter.all false
namespace Go.Sx
open Go
theorem one_take {l : List Rep} {i : Nat} (hlt : i < l.length) (h : ∀ r ∈ l.take i, chs r = 1) (h2 : chs l[i] = 1) : ∀ r ∈ l.take (i + 1), chs r = 1 := fun r hr => by
  rw [← take_succ_of hlt] at hr
  rcases List.mem_append.1 hr with hr | hr
  · exact h r hr
  · rw [List.mem_singleton.1 hr]; exact h2
section
variable {c : List Kind} {l : List Rep} {most : Int}
end
end Go.Sx

/- Loops with six to eight things that turn; meetings of ways with four to six. -/
set_option linter.all false
namespace Go.Sx
open Go
section
variable {P : Program} {ρ : Option Nat} {n : Sz} {E : Ent} {I I' : IMap} {L : LL} {H : List Res} {K : Act → World → Prop} {Q : Exit → Act → World → Prop} {N : Act → World → Prop}
variable {α β γ δ ε ζ η θ : Type}
def NextS6 (n : Sz) (E : Ent) (Ix : α → β → γ → δ → ε → ζ → IMap) (Lx : α → β → γ → δ → ε → ζ → LL) (Hx : α → β → γ → δ → ε → ζ → List Res) (p : α → β → γ → δ → ε → ζ → Prop) (μ : α → β → γ → δ → ε → ζ → Nat) (x0 : α) (x1 : β) (x2 : γ) (x3 : δ) (x4 : ε) (x5 : ζ) : Act → World → Prop :=
  fun a w => ∃ y0 y1 y2 y3 y4 y5, p y0 y1 y2 y3 y4 y5 ∧ μ y0 y1 y2 y3 y4 y5 < μ x0 x1 x2 x3 x4 x5 ∧ St n a (Lx y0 y1 y2 y3 y4 y5) ∧ Mem E (Ix y0 y1 y2 y3 y4 y5) (Hx y0 y1 y2 y3 y4 y5) w
theorem c_loop6 (a0 : α) (a1 : β) (a2 : γ) (a3 : δ) (a4 : ε) (a5 : ζ) (Ix : α → β → γ → δ → ε → ζ → IMap) (Lx : α → β → γ → δ → ε → ζ → LL) (Hx : α → β → γ → δ → ε → ζ → List Res) (p : α → β → γ → δ → ε → ζ → Prop) (μ : α → β → γ → δ → ε → ζ → Nat) {c : Code}
    (h0 : p a0 a1 a2 a3 a4 a5) (hI : Ix a0 a1 a2 a3 a4 a5 = I) (hL : Sub (Lx a0 a1 a2 a3 a4 a5) L) (hH : Hx a0 a1 a2 a3 a4 a5 = H)
    (round : ∀ x0 x1 x2 x3 x4 x5, p x0 x1 x2 x3 x4 x5 → SX n E (Ix x0 x1 x2 x3 x4 x5) (Lx x0 x1 x2 x3 x4 x5) (Hx x0 x1 x2 x3 x4 x5) (c.wq ρ P (Exit.then (NextS6 n E Ix Lx Hx p μ x0 x1 x2 x3 x4 x5) Q))) : SX n E I L H ((Code.loop c).wq ρ P Q) :=
  c_loop (α := α × β × γ × δ × ε × ζ) (a0, a1, a2, a3, a4, a5) (fun q => Ix q.1 q.2.1 q.2.2.1 q.2.2.2.1 q.2.2.2.2.1 q.2.2.2.2.2) (fun q => Lx q.1 q.2.1 q.2.2.1 q.2.2.2.1 q.2.2.2.2.1 q.2.2.2.2.2) (fun q => Hx q.1 q.2.1 q.2.2.1 q.2.2.2.1 q.2.2.2.2.1 q.2.2.2.2.2) (fun q => p q.1 q.2.1 q.2.2.1 q.2.2.2.1 q.2.2.2.2.1 q.2.2.2.2.2) (fun q => μ q.1 q.2.1 q.2.2.1 q.2.2.2.1 q.2.2.2.2.1 q.2.2.2.2.2) h0 hI hL hH
    fun ⟨x0, x1, x2, x3, x4, x5⟩ hp => sx_mono (round x0 x1 x2 x3 x4 x5 hp) fun a w h => cwq_mono (fun e a w q => by
      cases e with
      | normal => obtain ⟨y0, y1, y2, y3, y4, y5, h1, h2, h3, h4⟩ := q; exact ⟨(y0, y1, y2, y3, y4, y5), h1, h2, h3, h4⟩
      | _ => exact q) h
theorem q_next6 {Ix : α → β → γ → δ → ε → ζ → IMap} {Lx : α → β → γ → δ → ε → ζ → LL} {Hx : α → β → γ → δ → ε → ζ → List Res} {p : α → β → γ → δ → ε → ζ → Prop} {μ : α → β → γ → δ → ε → ζ → Nat} {x0 : α} {x1 : β} {x2 : γ} {x3 : δ} {x4 : ε} {x5 : ζ} (y0 : α) (y1 : β) (y2 : γ) (y3 : δ) (y4 : ε) (y5 : ζ) (hp : p y0 y1 y2 y3 y4 y5) (hμ : μ y0 y1 y2 y3 y4 y5 < μ x0 x1 x2 x3 x4 x5)
    (hI : Ix y0 y1 y2 y3 y4 y5 = I) (hL : Sub (Lx y0 y1 y2 y3 y4 y5) L) (hH : Hx y0 y1 y2 y3 y4 y5 = H) : SX n E I L H (NextS6 n E Ix Lx Hx p μ x0 x1 x2 x3 x4 x5) :=
  fun a w s m => ⟨y0, y1, y2, y3, y4, y5, hp, hμ, s.sub hL, by rw [hI, hH]; exact m⟩
end
end Go.Sx

/- SearchEvidence: steps of its loop. -/
set_option linter.all false
namespace Go.Sx
open Go
section
variable {X : List (List Int)} {i k j : Nat}
end
/-- valid, and of a moderate size, with another report at an index -/
theorem set_sm {l : List Rep} {k : Nat} {x : Rep} (h : ∀ r ∈ l, ∀ e ∈ r.options, SmE e) (hx : ∀ e ∈ x.options, SmE e) : ∀ r ∈ l.set k x, ∀ e ∈ r.options, SmE e := fun r hr e he => by
  rcases List.mem_or_eq_of_mem_set hr with h1 | rfl
  · exact h r h1 e he
  · exact hx e he
theorem one_sm {r : Rep} {j : Nat} (h : ∀ e ∈ r.options, SmE e) (hj : j < r.options.length) : ∀ e ∈ (oneOf r j).options, SmE e := fun e he => by
  rw [one_opts hj] at he
  rw [List.mem_singleton.1 he]; exact h _ (List.getElem_mem hj)
theorem opt_mid {r : Rep} {j : Nat} (hj : j < r.options.length) : (r.options.take (j + 1)).drop j = (oneOf r j).options := by
  rw [one_opts hj, ← take_succ_of hj, List.drop_left' (by rw [List.length_take]; omega)]
end Go.Sx

/- The reference of searching: the steps of its functions. -/
set_option linter.all false
namespace Go.Sx
open Go
section
variable {l : List Rep} {t m : List Int} {j : Nat}
end
/-! all of them, one after the other -/
structure Evy (c : List Kind) (l : List Rep) (most : Int) (k : Nat) (b : Bool) (ch : List Int) (out : List (List Int)) : Prop where
  is : out = ((allCh l).take k).filter (isF c l)
  le : (out.length : Int) ≤ most
  at_ : (b = true ∧ ∃ h : k < (allCh l).length, ch = (allCh l)[k]) ∨ (b = false ∧ k = (allCh l).length)
section
variable {c : List Kind} {l : List Rep} {most : Int} {k : Nat} {b : Bool} {ch : List Int} {out : List (List Int)}
theorem pos_one (hp : ∀ r ∈ l, chs r ≠ 0) : ∀ r ∈ l, 1 ≤ chs r := fun r hr => by have := hp r hr; have := chs_nn r; omega
theorem Evy.start (hp : ∀ r ∈ l, chs r ≠ 0) (h : 1 ≤ most) : Evy c l most 0 true (zeros l.length) [] := by
  have hC := all_chn (pos_one hp)
  refine ⟨rfl, by simp; omega, .inl ⟨rfl, hC.pos, ?_⟩⟩
  have := hC.first
  rw [List.getElem?_eq_getElem hC.pos] at this
  exact (Option.some.inj this).symm
theorem Evy.mem (h : Evy c l most k true ch out) : ch ∈ allCh l := by
  rcases h.at_ with ⟨_, h1, rfl⟩ | ⟨h1, _⟩
  · exact List.getElem_mem h1
  · cases h1
theorem Evy.lt (h : Evy c l most k true ch out) : k < (allCh l).length := by
  rcases h.at_ with ⟨_, h1, _⟩ | ⟨h1, _⟩
  · exact h1
  · cases h1
end
theorem picked_le (l : List Rep) (ch : List Int) : (pickedF l ch).1.length ≤ l.length := by
  rw [picked_are]
  split
  · exact evs_len _ _ _
  · simp
theorem picked_sm {l : List Rep} {ch : List Int} (hsl : ∀ r ∈ l, ∀ e ∈ r.options, SmE e) : ∀ e ∈ (pickedF l ch).1, SmE e := fun e he => by
  rw [picked_are] at he
  split at he
  · exact evs_sm hsl he
  · cases he
section
variable {c : List Kind} {l : List Rep}
end
end Go.Sx

