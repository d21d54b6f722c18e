/- The library of a symbolic run and the walks: merged. -/
import Derived.Test.YthcefohbbfjjfaaGreatZLac
import Derived.Maps.RangeRun
/- Walks, printed by a program out of the code of the functions: each theorem is a contract of one function. -/
namespace Go.Proofs.YthcefohbbfjjfaaGreat
open Go Go.Sx
set_option linter.all false
set_option maxRecDepth 20000
set_option maxHeartbeats 4000000
instance T.by_32 : Has (bytesK Tryz.prog 32) ([.int .i64 0, .int .i64 0], 2, 16) := ⟨by kernel_rfl⟩
instance T.elt_158 : Has (eltK Tryz.prog 158) (85, 1) := ⟨by kernel_rfl⟩
instance T.elt_25 : Has (eltK Tryz.prog 25) (27, 3) := ⟨by kernel_rfl⟩
instance T.elt_64 : Has (eltK Tryz.prog 64) (32, 2) := ⟨by kernel_rfl⟩
instance T.elt_65 : Has (eltK Tryz.prog 65) (3, 1) := ⟨by kernel_rfl⟩
instance T.fld_27_0 : Has (fldK Tryz.prog 27 0) (0, false, 1) := ⟨by kernel_rfl⟩
instance T.fld_27_1 : Has (fldK Tryz.prog 27 1) (1, false, 1) := ⟨by kernel_rfl⟩
instance T.fld_27_2 : Has (fldK Tryz.prog 27 2) (2, false, 1) := ⟨by kernel_rfl⟩
instance T.fld_80_0 : Has (fldK Tryz.prog 80 0) (0, true, 6) := ⟨by kernel_rfl⟩
instance T.mth_80_225 : Has (methK Tryz.prog 80 "bogie/formula.apply") 225 := ⟨by kernel_rfl⟩
instance T.mth_80_226 : Has (methK Tryz.prog 80 "bogie/formula.choose") 226 := ⟨by kernel_rfl⟩
instance T.mth_80_227 : Has (methK Tryz.prog 80 "bogie/formula.letter") 227 := ⟨by kernel_rfl⟩
instance T.mth_80_228 : Has (methK Tryz.prog 80 "bogie/formula.number") 228 := ⟨by kernel_rfl⟩
instance T.pl_32 : Has (plK Tryz.prog 32) [(0, 1), (1, 1)] := ⟨by kernel_rfl⟩
instance T.pl_80 : Has (plK Tryz.prog 80) [(0, 6)] := ⟨by kernel_rfl⟩
theorem T.stk_80 : structK Tryz.prog 80 = true := by kernel_rfl
instance T.ty_25 : Has (tyK Tryz.prog 25) (false, 1) := ⟨by kernel_rfl⟩
instance T.ty_27 : Has (tyK Tryz.prog 27) (true, 3) := ⟨by kernel_rfl⟩
instance T.ty_64 : Has (tyK Tryz.prog 64) (false, 1) := ⟨by kernel_rfl⟩
instance T.ty_85 : Has (tyK Tryz.prog 85) (false, 1) := ⟨by kernel_rfl⟩
instance T.und_158 : Has (Tryz.prog.underlying 158) (.slice 85) := ⟨by kernel_rfl⟩
instance T.und_25 : Has (Tryz.prog.underlying 25) (.slice 27) := ⟨by kernel_rfl⟩
instance T.und_64 : Has (Tryz.prog.underlying 64) (.slice 32) := ⟨by kernel_rfl⟩
instance T.und_65 : Has (Tryz.prog.underlying 65) (.slice 3) := ⟨by kernel_rfl⟩
instance T.und_85 : Has (Tryz.prog.underlying 85) (.int .i64) := ⟨by kernel_rfl⟩
instance T.zero_27 : Has (zeroK Tryz.prog 27) [.int .i64 0, .int .i64 0, .slice none 0 0] := ⟨by kernel_rfl⟩
instance T.zero_32 : Has (zeroK Tryz.prog 32) [.int .i64 0, .int .i64 0] := ⟨by kernel_rfl⟩
instance T.zero_64 : Has (zeroK Tryz.prog 64) [.slice none 0 0] := ⟨by kernel_rfl⟩
instance T.zero_80 : Has (zeroK Tryz.prog 80) [.int .i64 0, .int .i64 0, .int .i64 0, .int .i64 0, .int .i64 0, .int .i64 0] := ⟨by kernel_rfl⟩
instance T.zero_85 : Has (zeroK Tryz.prog 85) [.int .i64 0] := ⟨by kernel_rfl⟩
theorem ivValid (I : IMap) (x : Ivl) :
    FnV Tryz.prog 61 #[.agg x.cells.toArray] I (.bool (ivOk x)) := by
 refine enter Tryz.func61 Tryz.call61 rfl Tryz.ntmps61 rfl (fun w0 => ?_)
 refine go 3 ?_
 refine o_box _ rfl rfl rfl (fun g1 => ?_)
 refine go 9 ?_
 refine sxb 6 rfl (fun h6 p6 => ?_) (fun h6 p6 => ?_)
 ·refine go 7 ?_
  refine sxb 13 rfl (fun h13 p13 => ?_) (fun h13 p13 => ?_)
  ·refine go 8 ?_
   refine fin1 rfl rfl ?_
   exact q_v (congrArg Value.bool (by simp only [ivOk, h6, h13, bS]))
  ·refine go 8 ?_
   refine fin1 rfl rfl ?_
   exact q_v (congrArg Value.bool (by simp only [ivOk, h6, h13, bS]))
 ·refine go 15 ?_
  refine fin1 rfl rfl ?_
  exact q_v (congrArg Value.bool (by simp only [ivOk, h6, bS]))

theorem ivSat (I : IMap) (n : Int) :
    FnV Tryz.prog 63 #[.int .i64 (n)] I (.int .i64 (satI n)) := by
 refine enter Tryz.func63 Tryz.call63 rfl Tryz.ntmps63 rfl (fun w0 => ?_)
 refine go 8 ?_
 refine o_v rfl (OV.cast (u := .int .i64 (min n (1000000000000 : Int))) (v_imin rfl rfl) (congrArg (Value.int .i64) (by omega))) ?_
 refine o_v rfl (OV.cast (u := .int .i64 (satI n)) (v_imax rfl rfl) (congrArg (Value.int .i64) (by unfold satI; omega))) ?_
 refine go 4 ?_
 refine fin1 rfl rfl ?_
 exact q_v rfl

theorem iv_plus (I : IMap) (a b : Int) (ha : -(1000000000000 : Int) ≤ a ∧ a ≤ (1000000000000 : Int)) (hb : -(1000000000000 : Int) ≤ b ∧ b ≤ (1000000000000 : Int)) :
    FnV Tryz.prog 34 #[.int .i64 (a), .int .i64 (b)] I (.int .i64 (satI (a + b))) := by
 refine enter Tryz.func34 Tryz.call34 rfl Tryz.ntmps34 rfl (fun w0 => ?_)
 refine go 11 ?_
 refine o_callV (ivSat _ _) rfl rfl ?_
 refine go 4 ?_
 refine fin1 rfl rfl ?_
 exact q_v rfl

theorem iv_minus (I : IMap) (a b : Int) (ha : -(1000000000000 : Int) ≤ a ∧ a ≤ (1000000000000 : Int)) (hb : -(1000000000000 : Int) ≤ b ∧ b ≤ (1000000000000 : Int)) :
    FnV Tryz.prog 234 #[.int .i64 (a), .int .i64 (b)] I (.int .i64 (satI (a - b))) := by
 refine enter Tryz.func234 Tryz.call234 rfl Tryz.ntmps234 rfl (fun w0 => ?_)
 refine go 11 ?_
 refine o_callV (ivSat _ _) rfl rfl ?_
 refine go 4 ?_
 refine fin1 rfl rfl ?_
 exact q_v rfl

theorem bitsMul64 (I : IMap) (x y : Nat) (hx : x < 18446744073709551616) (hy : y < 18446744073709551616) :
    FnV Tryz.prog 238 #[.int .u64 ((x : Nat) : Int), .int .u64 ((y : Nat) : Int)] I (.tuple #[.int .u64 ((x * y / 18446744073709551616 : Nat) : Int), .int .u64 ((x * y % 18446744073709551616 : Nat) : Int)]) := by
 obtain ⟨bd, bt, bw, hhi⟩ := Lib.mul64_hi x y hx hy
 have ba := Lib.half_mul_le (a := x / 4294967296) (b := y / 4294967296) (by omega) (by omega)
 have bb := Lib.half_mul_le (a := x / 4294967296) (b := y % 4294967296) (by omega) (by omega)
 have bc := Lib.half_mul_le (a := x % 4294967296) (b := y / 4294967296) (by omega) (by omega)
 refine enter Tryz.func238 Tryz.call238 rfl Tryz.ntmps238 rfl (fun w0 => ?_)
 refine go 9 ?_
 refine o_v rfl (v_lowN hx rfl) ?_
 refine go 6 ?_
 refine o_v rfl (v_hiN rfl) ?_
 refine go 6 ?_
 refine o_v rfl (v_lowN hy rfl) ?_
 refine go 6 ?_
 refine o_v rfl (v_hiN rfl) ?_
 refine go 7 ?_
 refine o_v rfl (v_mulN rfl rfl bd) ?_
 refine go 7 ?_
 refine o_v rfl (v_mulN rfl rfl (by omega)) ?_
 refine go 1 ?_
 refine o_v rfl (v_hiN rfl) ?_
 refine o_v rfl (v_addN rfl rfl bt) ?_
 refine go 6 ?_
 refine o_v rfl (v_lowN bt rfl) ?_
 refine go 6 ?_
 refine o_v rfl (v_hiN rfl) ?_
 refine go 8 ?_
 refine o_v rfl (v_mulN rfl rfl (by omega)) ?_
 refine o_v rfl (v_addN rfl rfl bw) ?_
 refine go 7 ?_
 refine o_v rfl (v_mulN rfl rfl (by omega)) ?_
 refine go 1 ?_
 refine o_v rfl (v_addN rfl rfl (by omega)) ?_
 refine go 1 ?_
 refine o_v rfl (v_hiN rfl) ?_
 refine o_v rfl (v_addN rfl rfl (by omega)) ?_
 refine go 7 ?_
 refine o_v rfl (v_mulW rfl rfl) ?_
 refine go 4 ?_
 refine fin2 rfl rfl rfl ?_
 exact q_v (by rw [hhi])

theorem iv_times (I : IMap) (a b : Int) (ha : -(1000000000000 : Int) ≤ a ∧ a ≤ (1000000000000 : Int)) (hb : -(1000000000000 : Int) ≤ b ∧ b ≤ (1000000000000 : Int)) :
    FnV Tryz.prog 235 #[.int .i64 (a), .int .i64 (b)] I (.int .i64 (satI (a * b))) := by
 refine enter Tryz.func235 Tryz.call235 rfl Tryz.ntmps235 rfl (fun w0 => ?_)
 refine go 9 ?_
 refine o_v rfl (v_neg rfl ⟨by omega, by omega⟩) ?_
 refine o_v rfl (OV.cast (u := .int .i64 (((a.natAbs : Nat) : Int))) (v_imax rfl rfl) (congrArg (Value.int .i64) (by omega))) ?_
 refine o_v rfl (v_conv he he rfl (m := ((a.natAbs : Nat) : Int)) (wrap_u64 _ (by omega) (by omega))) ?_
 refine go 2 ?_
 refine o_v rfl (v_neg rfl ⟨by omega, by omega⟩) ?_
 refine o_v rfl (OV.cast (u := .int .i64 (((b.natAbs : Nat) : Int))) (v_imax rfl rfl) (congrArg (Value.int .i64) (by omega))) ?_
 refine o_v rfl (v_conv he he rfl (m := ((b.natAbs : Nat) : Int)) (wrap_u64 _ (by omega) (by omega))) ?_
 refine go 1 ?_
 refine o_callV (bitsMul64 _ a.natAbs b.natAbs (by omega) (by omega)) rfl rfl ?_
 refine go 13 ?_
 refine c_cut (I' := I) (L' := [(0, .int .i64 (a)), (1, .int .i64 (b)), (7, .int .i64 (min ((a.natAbs * b.natAbs : Nat) : Int) (1000000000000 : Int)))]) (H' := []) ?_ ?_
 ·refine go 5 ?_
  refine sxb 24 rfl (fun h24 p24 => ?_) (fun h24 p24 => ?_)
  ·refine go 5 ?_
   refine cb rfl (fun h27 p27 => ?_) (fun h27 p27 => ?_)
   ·refine go 2 ?_
    refine o_v rfl (v_conv he he rfl (m := ((a.natAbs * b.natAbs % 18446744073709551616 : Nat) : Int)) (by rw [IntKind.wrap_i64]; omega)) ?_
    refine go 3 ?_
    exact q_cut ⟨rfl, rfl, (congrArg (fun z => some (Value.int .i64 z)) (by omega)), trivial⟩ rfl rfl
   ·refine go 2 ?_
    exact q_cut ⟨rfl, rfl, (congrArg (fun z => some (Value.int .i64 z)) (by omega)), trivial⟩ rfl rfl
  ·refine go 5 ?_
   refine c_false rfl ?_
   refine go 2 ?_
   exact q_cut ⟨rfl, rfl, (congrArg (fun z => some (Value.int .i64 z)) (by omega)), trivial⟩ rfl rfl
 ·refine go 7 ?_
  refine o_v rfl (v_bneq he rfl rfl) ?_
  refine go 2 ?_
  refine cb rfl (fun h34 p34 => ?_) (fun h34 p34 => ?_)
  ·refine go 3 ?_
   refine o_v rfl (v_neg rfl ⟨by omega, by omega⟩) ?_
   refine go 5 ?_
   refine fin1 rfl rfl ?_
   exact q_v (congrArg (Value.int .i64) (sat_neg h34))
  ·refine go 9 ?_
   refine fin1 rfl rfl ?_
   exact q_v (congrArg (Value.int .i64) (sat_pos h34))

theorem sl_min (I : IMap) (v : Value) (l : List Int) (hv : RdS I v l) (h0 : 0 < l.length) :
    FnV Tryz.prog 103 #[v] I (.int .i64 (minN l (l.length - 1))) := by
 obtain ⟨A, c0, rfl, hA, hc, hm⟩ := hv
 refine enter Tryz.func103 Tryz.call103 rfl Tryz.ntmps103 rfl (fun w0 => ?_)
 refine go 13 ?_
 refine cb rfl (fun h7 p7 => ?_) (fun h7 p7 => ?_)
 ·exfalso; omega
 ·refine go 5 ?_
  obtain ⟨b10, o10, w10, e10, c10, r10⟩ := RdA.at_ hA (i := 0) (by omega)
  obtain rfl := r10
  refine o_v rfl (v_idx he rfl rfl e10 (0) (by omega) (by omega)) ?_
  refine o_v rfl (v_ldI he rfl (c10 0 _ rfl)) ?_
  refine go 10 ?_
  refine c_loop (α := Nat) 0 (fun i => I)
   (fun i => [(0, .slice A l.length c0), (3, .int .i64 (minN l i)), (4, .int .i64 ((i + 1 : Nat) : Int))])
   (fun i => [])
   (fun i => i < l.length)
   (fun i => l.length - i) h0 rfl ⟨rfl, by rw [minN_zero h0]; rfl, rfl, trivial⟩ rfl ?_
  intro i hx
  refine go 9 ?_
  refine cb rfl (fun h15 p15 => ?_) (fun h15 p15 => ?_)
  ·refine go 8 ?_
   obtain ⟨b21, o21, w21, e21, c21, r21⟩ := RdA.at_ hA (i := i + 1) (by omega)
   obtain rfl := r21
   refine o_v rfl (v_idx he rfl rfl e21 (i + 1) (by omega) (by omega)) ?_
   refine o_v rfl (v_ldI he rfl (c21 0 _ rfl)) ?_
   refine o_v rfl (OV.cast (u := .int .i64 (minN l (i + 1))) (v_imin rfl rfl) (congrArg (Value.int .i64) (minN_step (by omega)))) ?_
   refine go 10 ?_
   exact q_next (i + 1) (by omega) (by omega) rfl sb rfl
  ·obtain rfl : i = l.length - 1 := by omega
   refine go 12 ?_
   refine fin1 rfl rfl ?_
   exact q_v rfl

theorem sl_max (I : IMap) (v : Value) (l : List Int) (hv : RdS I v l) (h0 : 0 < l.length) :
    FnV Tryz.prog 104 #[v] I (.int .i64 (maxN l (l.length - 1))) := by
 obtain ⟨A, c0, rfl, hA, hc, hm⟩ := hv
 refine enter Tryz.func104 Tryz.call104 rfl Tryz.ntmps104 rfl (fun w0 => ?_)
 refine go 13 ?_
 refine cb rfl (fun h7 p7 => ?_) (fun h7 p7 => ?_)
 ·exfalso; omega
 ·refine go 5 ?_
  obtain ⟨b10, o10, w10, e10, c10, r10⟩ := RdA.at_ hA (i := 0) (by omega)
  obtain rfl := r10
  refine o_v rfl (v_idx he rfl rfl e10 (0) (by omega) (by omega)) ?_
  refine o_v rfl (v_ldI he rfl (c10 0 _ rfl)) ?_
  refine go 10 ?_
  refine c_loop (α := Nat) 0 (fun i => I)
   (fun i => [(0, .slice A l.length c0), (3, .int .i64 (maxN l i)), (4, .int .i64 ((i + 1 : Nat) : Int))])
   (fun i => [])
   (fun i => i < l.length)
   (fun i => l.length - i) h0 rfl ⟨rfl, by rw [maxN_zero h0]; rfl, rfl, trivial⟩ rfl ?_
  intro i hx
  refine go 9 ?_
  refine cb rfl (fun h15 p15 => ?_) (fun h15 p15 => ?_)
  ·refine go 8 ?_
   obtain ⟨b21, o21, w21, e21, c21, r21⟩ := RdA.at_ hA (i := i + 1) (by omega)
   obtain rfl := r21
   refine o_v rfl (v_idx he rfl rfl e21 (i + 1) (by omega) (by omega)) ?_
   refine o_v rfl (v_ldI he rfl (c21 0 _ rfl)) ?_
   refine o_v rfl (OV.cast (u := .int .i64 (maxN l (i + 1))) (v_imax rfl rfl) (congrArg (Value.int .i64) (maxN_step (by omega)))) ?_
   refine go 10 ?_
   exact q_next (i + 1) (by omega) (by omega) rfl sb rfl
  ·obtain rfl : i = l.length - 1 := by omega
   refine go 12 ?_
   refine fin1 rfl rfl ?_
   exact q_v rfl

theorem ivAround (I : IMap) (v : Value) (l : List Int) (hv : RdS I v l) (h0 : 0 < l.length) :
    FnV Tryz.prog 62 #[v] I (.agg #[.int .i64 (minN l (l.length - 1)), .int .i64 (maxN l (l.length - 1))]) := by
 refine enter Tryz.func62 Tryz.call62 rfl Tryz.ntmps62 rfl (fun w0 => ?_)
 refine go 3 ?_
 refine o_alloc he rfl (fun g2 => ?_)
 refine go 6 ?_
 refine o_callV (sl_min _ _ l hv h0) rfl rfl ?_
 refine go 2 ?_
 refine o_callV (sl_max _ _ l hv h0) rfl rfl ?_
 refine go 1 ?_
 refine o_val rfl (v_build (pl := [(0, 1), (1, 1)]) he he rfl rfl) ?_
 refine go 1 ?_
 refine o_stw _ he rfl rfl rfl rfl rfl rfl ?_
 refine go 3 ?_
 refine fin1 rfl ⟨_, _, _, rfl, m0, .inr ⟨_, he, rfl, rfl⟩⟩ ?_
 exact q_v rfl

theorem ivBoth (I : IMap) (a b : Ivl) (g : FuncId) (f : Int → Int → Int) (hf : ∀ x y, (-(1000000000000 : Int) ≤ x ∧ x ≤ (1000000000000 : Int)) → (-(1000000000000 : Int) ≤ y ∧ y ≤ (1000000000000 : Int)) → FnV Tryz.prog g #[.int .i64 (x), .int .i64 (y)] I (.int .i64 (f x y))) :
    FnV Tryz.prog 33 #[.agg a.cells.toArray, .agg b.cells.toArray, .func (.func g) #[] #[]] I (.agg (bothI f a b).cells.toArray) := by
 refine enter Tryz.func33 Tryz.call33 rfl Tryz.ntmps33 rfl (fun w0 => ?_)
 refine go 3 ?_
 refine o_box _ rfl rfl rfl (fun g3 => ?_)
 refine go 1 ?_
 refine o_box _ rfl rfl rfl (fun g4 => ?_)
 refine go 1 ?_
 refine o_alloc he rfl (fun g6 => ?_)
 refine go 4 ?_
 refine c_cut (I' := I) (L' := [(2, .func (.func g) #[] #[]), (3, .pointer (some ⟨g3, 0, none⟩)), (4, .pointer (some ⟨g4, 0, none⟩)), (6, .pointer (some ⟨g6, 0, none⟩)), (18, .bool (!ivOk a || !ivOk b))]) (H' := [.blk g3 32 a.cells, .blk g4 32 b.cells, .blk g6 32 [.int .i64 (0), .int .i64 (0)]]) ?_ ?_
 ·refine go 3 ?_
  refine o_callV (ivValid _ a) rfl rfl ?_
  refine go 2 ?_
  refine sxb 14 rfl (fun h14 p14 => ?_) (fun h14 p14 => ?_)
  ·refine go 6 ?_
   refine bring1 ?_
   refine bring2 ?_
   exact q_cut ⟨rfl, rfl, rfl, rfl, (congrArg (fun b => some (Value.bool b)) (by simp only [h14, bS])), trivial⟩ rfl rfl
  ·refine go 2 ?_
   refine o_yes rfl rfl h14 (o_callV (ivValid _ b) rfl rfl ?_)
   refine go 4 ?_
   refine bring1 ?_
   refine bring2 ?_
   exact q_cut ⟨rfl, rfl, rfl, rfl, (congrArg (fun b => some (Value.bool b)) (by simp only [h14, bS])), trivial⟩ rfl rfl
 ·refine cb rfl (fun h18 p18 => ?_) (fun h18 p18 => ?_)
  ·refine go 3 ?_
   refine o_val rfl (v_build (pl := [(0, 1), (1, 1)]) he he rfl rfl) ?_
   refine go 1 ?_
   refine bring2 ?_
   refine o_stw _ he rfl rfl rfl rfl rfl rfl ?_
   refine go 4 ?_
   refine fin1 rfl ⟨_, _, _, rfl, m0, .inr ⟨_, he, rfl, rfl⟩⟩ ?_
   exact q_v (by rw [both_no h18]; rfl)
  ·obtain ⟨⟨ha1, ha2⟩, hb1, hb2⟩ := both_in h18
   refine go 3 ?_
   refine d_startH T.mixed ?_
   refine d_tv 0 rfl rfl (by kernel_rfl) rfl (.refl _) rfl (v_fieldAddr he rfl) ?_
   refine d_tv 1 rfl rfl (by kernel_rfl) rfl (.refl _) rfl (v_ld m0 he rfl rfl) ?_
   refine d_tv 2 rfl rfl (by kernel_rfl) rfl (.refl _) rfl (v_fieldAddr he rfl) ?_
   refine d_tv 3 rfl rfl (by kernel_rfl) rfl (.refl _) rfl (v_ld m0 he rfl rfl) ?_
   refine d_tv 4 rfl rfl (by kernel_rfl) rfl (.refl _) rfl (v_fieldAddr he rfl) ?_
   refine d_tv 5 rfl rfl (by kernel_rfl) rfl (.refl _) rfl (v_ld m1 he rfl rfl) ?_
   refine d_tv 6 rfl rfl (by kernel_rfl) rfl (.refl _) rfl (v_fieldAddr he rfl) ?_
   refine d_tv 7 rfl rfl (by kernel_rfl) rfl (.refl _) rfl (v_ld m1 he rfl rfl) ?_
   refine d_tv 8 rfl rfl (by kernel_rfl) rfl (.refl _) rfl (v_assign rfl) ?_
   refine d_tv 9 rfl rfl (by kernel_rfl) rfl (.refl _) rfl (v_assign rfl) ?_
   refine d_tv 10 rfl rfl (by kernel_rfl) rfl (.refl _) rfl (v_assign rfl) ?_
   refine d_tv 11 rfl rfl (by kernel_rfl) rfl (.refl _) rfl (v_assign rfl) ?_
   refine d_done (by kernel_rfl) ?_
   refine go 7 ?_
   refine o_callV (hf _ _ ha1 hb1) rfl rfl ?_
   refine go 4 ?_
   refine o_callV (hf _ _ ha1 hb2) rfl rfl ?_
   refine go 4 ?_
   refine o_callV (hf _ _ ha2 hb1) rfl rfl ?_
   refine go 4 ?_
   refine o_callV (hf _ _ ha2 hb2) rfl rfl ?_
   refine go 1 ?_
   refine o_buildSlice he he rfl rfl rfl rfl rfl rfl rfl (fun v44 => ?_)
   refine go 1 ?_
   refine o_lendV m0 rfl rfl ((intCs_flat [f a.low b.low, f a.low b.high, f a.high b.low, f a.high b.high])) (fun I2 hI2 hR => ivAround _ _ [f a.low b.low, f a.low b.high, f a.high b.low, f a.high b.high] hR (Nat.zero_lt_succ _)) rfl rfl ?_
   refine go 1 ?_
   refine bring3 ?_
   refine o_stw _ he rfl rfl rfl rfl rfl rfl ?_
   refine go 3 ?_
   refine fin1 rfl ⟨_, _, _, rfl, m0, .inr ⟨_, he, rfl, rfl⟩⟩ ?_
   exact q_v (by rw [both_yes h18]; rfl)

theorem ivAdd (I : IMap) (a b : Ivl) :
    FnV Tryz.prog 14 #[.agg a.cells.toArray, .agg b.cells.toArray] I (.agg (addI a b).cells.toArray) := by
 refine enter Tryz.func14 Tryz.call14 rfl Tryz.ntmps14 rfl (fun w0 => ?_)
 refine go 3 ?_
 refine o_box _ rfl rfl rfl (fun g2 => ?_)
 refine go 1 ?_
 refine o_box _ rfl rfl rfl (fun g3 => ?_)
 refine go 1 ?_
 refine o_alloc he rfl (fun g4 => ?_)
 refine go 7 ?_
 refine o_callV (ivBoth _ a b _ _ (fun x y hx hy => iv_plus _ x y hx hy)) rfl rfl ?_
 refine go 1 ?_
 refine o_stw _ he rfl rfl rfl rfl rfl rfl ?_
 refine go 3 ?_
 refine fin1 rfl ⟨_, _, _, rfl, m0, .inr ⟨_, he, rfl, rfl⟩⟩ ?_
 exact q_v rfl

theorem ivSub (I : IMap) (a b : Ivl) :
    FnV Tryz.prog 229 #[.agg a.cells.toArray, .agg b.cells.toArray] I (.agg (subI a b).cells.toArray) := by
 refine enter Tryz.func229 Tryz.call229 rfl Tryz.ntmps229 rfl (fun w0 => ?_)
 refine go 3 ?_
 refine o_box _ rfl rfl rfl (fun g2 => ?_)
 refine go 1 ?_
 refine o_box _ rfl rfl rfl (fun g3 => ?_)
 refine go 1 ?_
 refine o_alloc he rfl (fun g4 => ?_)
 refine go 7 ?_
 refine o_callV (ivBoth _ a b _ _ (fun x y hx hy => iv_minus _ x y hx hy)) rfl rfl ?_
 refine go 1 ?_
 refine o_stw _ he rfl rfl rfl rfl rfl rfl ?_
 refine go 3 ?_
 refine fin1 rfl ⟨_, _, _, rfl, m0, .inr ⟨_, he, rfl, rfl⟩⟩ ?_
 exact q_v rfl

theorem ivMul (I : IMap) (a b : Ivl) :
    FnV Tryz.prog 230 #[.agg a.cells.toArray, .agg b.cells.toArray] I (.agg (mulI a b).cells.toArray) := by
 refine enter Tryz.func230 Tryz.call230 rfl Tryz.ntmps230 rfl (fun w0 => ?_)
 refine go 3 ?_
 refine o_box _ rfl rfl rfl (fun g2 => ?_)
 refine go 1 ?_
 refine o_box _ rfl rfl rfl (fun g3 => ?_)
 refine go 1 ?_
 refine o_alloc he rfl (fun g4 => ?_)
 refine go 7 ?_
 refine o_callV (ivBoth _ a b _ _ (fun x y hx hy => iv_times _ x y hx hy)) rfl rfl ?_
 refine go 1 ?_
 refine o_stw _ he rfl rfl rfl rfl rfl rfl ?_
 refine go 3 ?_
 refine fin1 rfl ⟨_, _, _, rfl, m0, .inr ⟨_, he, rfl, rfl⟩⟩ ?_
 exact q_v rfl

theorem ivJoin (I : IMap) (a b : Ivl) :
    FnV Tryz.prog 233 #[.agg a.cells.toArray, .agg b.cells.toArray] I (.agg (joinI a b).cells.toArray) := by
 refine enter Tryz.func233 Tryz.call233 rfl Tryz.ntmps233 rfl (fun w0 => ?_)
 refine go 3 ?_
 refine o_box _ rfl rfl rfl (fun g2 => ?_)
 refine go 1 ?_
 refine o_box _ rfl rfl rfl (fun g3 => ?_)
 refine go 1 ?_
 refine o_alloc he rfl (fun g4 => ?_)
 refine go 4 ?_
 refine c_cut (I' := I) (L' := [(2, .pointer (some ⟨g2, 0, none⟩)), (3, .pointer (some ⟨g3, 0, none⟩)), (4, .pointer (some ⟨g4, 0, none⟩)), (12, .bool (!ivOk a || !ivOk b))]) (H' := [.blk g2 32 a.cells, .blk g3 32 b.cells, .blk g4 32 [.int .i64 (0), .int .i64 (0)]]) ?_ ?_
 ·refine go 3 ?_
  refine o_callV (ivValid _ a) rfl rfl ?_
  refine go 2 ?_
  refine sxb 8 rfl (fun h8 p8 => ?_) (fun h8 p8 => ?_)
  ·refine go 6 ?_
   refine bring1 ?_
   refine bring2 ?_
   exact q_cut ⟨rfl, rfl, rfl, (congrArg (fun b => some (Value.bool b)) (by simp only [h8, bS])), trivial⟩ rfl rfl
  ·refine go 2 ?_
   refine o_yes rfl rfl h8 (o_callV (ivValid _ b) rfl rfl ?_)
   refine go 4 ?_
   refine bring1 ?_
   refine bring2 ?_
   exact q_cut ⟨rfl, rfl, rfl, (congrArg (fun b => some (Value.bool b)) (by simp only [h8, bS])), trivial⟩ rfl rfl
 ·refine cb rfl (fun h12 p12 => ?_) (fun h12 p12 => ?_)
  ·refine go 3 ?_
   refine o_val rfl (v_build (pl := [(0, 1), (1, 1)]) he he rfl rfl) ?_
   refine go 1 ?_
   refine bring2 ?_
   refine o_stw _ he rfl rfl rfl rfl rfl rfl ?_
   refine go 4 ?_
   refine fin1 rfl ⟨_, _, _, rfl, m0, .inr ⟨_, he, rfl, rfl⟩⟩ ?_
   exact q_v (by rw [join_no h12]; rfl)
  ·refine go 13 ?_
   refine o_buildSlice he he rfl rfl rfl rfl rfl rfl rfl (fun v22 => ?_)
   refine go 1 ?_
   refine o_lendV m0 rfl rfl ((intCs_flat [a.low, a.high, b.low, b.high])) (fun I2 hI2 hR => ivAround _ _ [a.low, a.high, b.low, b.high] hR (Nat.zero_lt_succ _)) rfl rfl ?_
   refine go 1 ?_
   refine bring3 ?_
   refine o_stw _ he rfl rfl rfl rfl rfl rfl ?_
   refine go 3 ?_
   refine fin1 rfl ⟨_, _, _, rfl, m0, .inr ⟨_, he, rfl, rfl⟩⟩ ?_
   exact q_v (by rw [join_yes h12]; rfl)

theorem ivOver (I : IMap) (x : Ivl) (n : Int) :
    FnV Tryz.prog 232 #[.agg x.cells.toArray, .int .i64 (n)] I (.int .i64 (overI x n)) := by
 refine enter Tryz.func232 Tryz.call232 rfl Tryz.ntmps232 rfl (fun w0 => ?_)
 refine go 3 ?_
 refine o_box _ rfl rfl rfl (fun g2 => ?_)
 refine go 6 ?_
 refine c_cut (I' := I) (L' := [(1, .int .i64 (n)), (2, .pointer (some ⟨g2, 0, none⟩)), (5, .bool (!ivOk x || decide (x.high ≤ n)))]) (H' := [.blk g2 32 x.cells]) ?_ ?_
 ·refine go 3 ?_
  refine o_callV (ivValid _ x) rfl rfl ?_
  refine go 2 ?_
  refine sxb 9 rfl (fun h9 p9 => ?_) (fun h9 p9 => ?_)
  ·refine go 8 ?_
   exact q_cut ⟨rfl, rfl, (congrArg (fun b => some (Value.bool b)) (by simp only [h9, bS])), trivial⟩ rfl rfl
  ·refine go 8 ?_
   exact q_cut ⟨rfl, rfl, (congrArg (fun b => some (Value.bool b)) (by simp only [h9, bS])), trivial⟩ rfl rfl
 ·refine cb rfl (fun h5 p5 => ?_) (fun h5 p5 => ?_)
  ·refine go 8 ?_
   refine fin1 rfl rfl ?_
   exact q_v (congrArg (Value.int .i64) (by unfold overI; rw [if_pos h5]))
  ·refine go 9 ?_
   refine cb rfl (fun h15 p15 => ?_) (fun h15 p15 => ?_)
   ·refine go 8 ?_
    refine fin1 rfl rfl ?_
    exact q_v (congrArg (Value.int .i64) (by unfold overI; rw [if_neg (by rw [h5]; decide), if_pos p15]))
   ·refine go 9 ?_
    refine fin1 rfl rfl ?_
    exact q_v (congrArg (Value.int .i64) (by unfold overI; rw [if_neg (by rw [h5]; decide), if_neg p15]))

theorem fmNodes_step (I : IMap) (N : Nat) (ih : ∀ (f : Fm), cntN f ≤ N → ∀ vs, FmRd I vs f → ∀ m : Int, 0 ≤ m → m ≤ 1000 → FnV Tryz.prog 50 #[.agg vs.toArray, .int .i64 (m)] I (.int .i64 (nodesF f m))) (f : Fm) (hN : cntN f ≤ N + 1) (vs : List Value) (hr : FmRd I vs f) (m : Int) (h0 : 0 ≤ m) (h1 : m ≤ 1000) :
    FnV Tryz.prog 50 #[.agg vs.toArray, .int .i64 (m)] I (.int .i64 (nodesF f m)) := by
 obtain ⟨s, rfl, hs⟩ := fm_out hr
 obtain ⟨A, c0, rfl, hA, hc, hm⟩ := hs
 refine enter Tryz.func50 Tryz.call50 rfl Tryz.ntmps50 rfl (fun w0 => ?_)
 refine go 3 ?_
 refine o_box _ rfl rfl rfl (fun g2 => ?_)
 refine go 18 ?_
 refine sx_drop ?_
 refine c_loop2 ((0 : Nat)) ((1 : Int)) (fun i n => I)
  (fun i n => [(1, .int .i64 (m)), (5, .int .i64 (n)), (9, .slice A f.kids.length c0), (10, .int .i64 (f.kids.length : Int)), (11, .int .i64 ((i : Nat) : Int))])
  (fun i n => [])
  (fun i n => i ≤ f.kids.length ∧ (1 ≤ n ∧ n ≤ m + 1) ∧ nodesL (f.kids.drop i) n m = nodesF f m)
  (fun i n => f.kids.length - i) ⟨Nat.zero_le _, ⟨by omega, by omega⟩, nodes_start⟩ rfl sb rfl ?_
 intro i n ⟨hi, hn, hq⟩
 refine go 6 ?_
 refine cb rfl (fun h12 p12 => ?_) (fun h12 p12 => ?_)
 ·have hlt : i < f.kids.length := by omega
  refine go 6 ?_
  obtain ⟨b13, o13, w13, e13, c13, r13⟩ := RdA.at_ hA (i := i) (by omega)
  replace r13 := fm_out r13
  obtain ⟨s13, rfl, hs13⟩ := r13
  refine o_v rfl (v_idx he rfl rfl e13 (i) (by omega) (by omega)) ?_
  refine o_v rfl (v_ldIa he rfl c13 rfl) ?_
  refine go 1 ?_
  refine o_alloc he rfl (fun g7 => ?_)
  refine go 1 ?_
  refine o_stw _ he rfl rfl rfl rfl rfl (Enc.one (α := Fm) (fm_back hs13)) ?_
  refine go 10 ?_
  refine cb rfl (fun h17 p17 => ?_) (fun h17 p17 => ?_)
  ·refine go 14 ?_
   refine fin1 rfl rfl ?_
   exact q_v (congrArg (Value.int .i64) (nodes_stop hlt hq p17))
  ·have hkn := nodes_in f.kids[i] (m - n) (by omega)
   refine go 9 ?_
   refine o_callV (ih f.kids[i] (by have := cnt_kid (List.getElem_mem hlt); omega) _ (fm_back hs13) _ (by omega) (by omega)) rfl rfl ?_
   refine go 10 ?_
   refine sx_drop ?_
   exact q_next2 (i + 1) (_) ⟨by omega, by omega, nodes_step hlt hq p17⟩ (by omega) rfl sb rfl
 ·refine go 12 ?_
  refine fin1 rfl rfl ?_
  exact q_v (congrArg (Value.int .i64) (nodes_end (by omega) hq))

theorem fmNodes (I : IMap) (f : Fm) (vs : List Value) (hr : FmRd I vs f) (m : Int) (h0 : 0 ≤ m) (h1 : m ≤ 1000) : FnV Tryz.prog 50 #[.agg vs.toArray, .int .i64 (m)] I (.int .i64 (nodesF f m)) := by
  have key : ∀ (N : Nat) (f : Fm), cntN f ≤ N → ∀ vs, FmRd I vs f → ∀ m : Int, 0 ≤ m → m ≤ 1000 → FnV Tryz.prog 50 #[.agg vs.toArray, .int .i64 (m)] I (.int .i64 (nodesF f m)) := by
    intro N
    induction N with
    | zero => intro f hN; exact absurd hN (by cases f; simp [cntN])
    | succ N ih => intro f hN vs hr m h0 h1; exact fmNodes_step I N ih f hN vs hr m h0 h1
  exact key (cntN f) f (Nat.le_refl _) vs hr m h0 h1

theorem fmRight_step (I : IMap) (N : Nat) (ih : ∀ (f : Fm), cntN f ≤ N → ∀ vs, FmRd I vs f → FnV Tryz.prog 51 #[.agg vs.toArray] I (.bool (rightF f))) (f : Fm) (hN : cntN f ≤ N + 1) (vs : List Value) (hr : FmRd I vs f) :
    FnV Tryz.prog 51 #[.agg vs.toArray] I (.bool (rightF f)) := by
 obtain ⟨s, rfl, hs⟩ := fm_out hr
 obtain ⟨A, c0, rfl, hA, hc, hm⟩ := hs
 refine enter Tryz.func51 Tryz.call51 rfl Tryz.ntmps51 rfl (fun w0 => ?_)
 refine go 3 ?_
 refine o_box _ rfl rfl rfl (fun g1 => ?_)
 refine go 9 ?_
 refine c_cutx (α := Unit) (Ix := (fun u => I)) (Lx := (fun u => [(1, .pointer (some ⟨g1, 0, none⟩)), (3, .int .i64 (wantF f.op))])) (Hx := (fun u => [.blk g1 27 [ci f.op, ci f.n, .slice A f.kids.length c0]])) (p := (fun u => bad1F f = false)) ?_ ?_
 ·refine go 2 ?_
  refine c_cut (I' := I) (L' := [(1, .pointer (some ⟨g1, 0, none⟩)), (3, .int .i64 (0)), (6, .bool (bad1F f))]) (H' := [.blk g1 27 [ci f.op, ci f.n, .slice A f.kids.length c0]]) ?_ ?_
  ·refine go 5 ?_
   refine sxb 10 rfl (fun h10 p10 => ?_) (fun h10 p10 => ?_)
   ·refine go 7 ?_
    exact q_cut ⟨rfl, rfl, (congrArg (fun b => some (Value.bool b)) (by simp only [bad1F, h10, bS])), trivial⟩ rfl rfl
   ·refine go 7 ?_
    exact q_cut ⟨rfl, rfl, (congrArg (fun b => some (Value.bool b)) (by simp only [bad1F, h10, bS])), trivial⟩ rfl rfl
  ·refine cb rfl (fun h6 p6 => ?_) (fun h6 p6 => ?_)
   ·refine go 8 ?_
    refine fin1 rfl rfl ?_
    exact q_v (congrArg Value.bool (right_b1 h6).symm)
   ·refine go 8 ?_
    refine cb rfl (fun h15 p15 => ?_) (fun h15 p15 => ?_)
    ·refine go 5 ?_
     exact q_cutx () h6 ⟨rfl, (congrArg (fun z => some (Value.int .i64 z)) (by unfold wantF; split <;> (try split) <;> omega)), trivial⟩ rfl rfl
    ·refine go 8 ?_
     refine cb rfl (fun h19 p19 => ?_) (fun h19 p19 => ?_)
     ·refine go 5 ?_
      exact q_cutx () h6 ⟨rfl, (congrArg (fun z => some (Value.int .i64 z)) (by unfold wantF; split <;> (try split) <;> omega)), trivial⟩ rfl rfl
     ·refine go 3 ?_
      exact q_cutx () h6 ⟨rfl, (congrArg (fun z => some (Value.int .i64 z)) (by unfold wantF; split <;> (try split) <;> omega)), trivial⟩ rfl rfl
 ·intro u h6
  refine go 2 ?_
  refine c_cut (I' := I) (L' := [(1, .pointer (some ⟨g1, 0, none⟩)), (47, .bool (bad2F f))]) (H' := [.blk g1 27 [ci f.op, ci f.n, .slice A f.kids.length c0]]) ?_ ?_
  ·refine go 7 ?_
   refine sxb 28 rfl (fun h28 p28 => ?_) (fun h28 p28 => ?_)
   ·refine go 21 ?_
    exact q_cut ⟨rfl, (congrArg (fun b => some (Value.bool b)) (by simp only [bad2F, h28, bS])), trivial⟩ rfl rfl
   ·refine go 5 ?_
    refine sxb 33 rfl (fun h33 p33 => ?_) (fun h33 p33 => ?_)
    ·refine go 16 ?_
     exact q_cut ⟨rfl, (congrArg (fun b => some (Value.bool b)) (by simp only [bad2F, h28, h33, bS])), trivial⟩ rfl rfl
    ·refine go 5 ?_
     refine sxb 38 rfl (fun h38 p38 => ?_) (fun h38 p38 => ?_)
     ·refine go 11 ?_
      exact q_cut ⟨rfl, (congrArg (fun b => some (Value.bool b)) (by simp only [bad2F, h28, h33, h38, bS])), trivial⟩ rfl rfl
     ·refine go 4 ?_
      refine sxb 42 rfl (fun h42 p42 => ?_) (fun h42 p42 => ?_)
      ·refine go 7 ?_
       exact q_cut ⟨rfl, (congrArg (fun b => some (Value.bool b)) (by simp only [bad2F, h28, h33, h38, h42, bS])), trivial⟩ rfl rfl
      ·refine go 7 ?_
       exact q_cut ⟨rfl, (congrArg (fun b => some (Value.bool b)) (by simp only [bad2F, h28, h33, h38, h42, bS])), trivial⟩ rfl rfl
  ·refine cb rfl (fun h47 p47 => ?_) (fun h47 p47 => ?_)
   ·refine go 7 ?_
    refine fin1 rfl rfl ?_
    exact q_v (congrArg Value.bool (right_b2 h47).symm)
   ·refine go 12 ?_
    refine sx_drop ?_
    refine c_loop (α := Nat) 0 (fun i => I)
     (fun i => [(49, .slice A f.kids.length c0), (50, .int .i64 (f.kids.length : Int)), (51, .int .i64 ((i : Nat) : Int))])
     (fun i => [])
     (fun i => i ≤ f.kids.length ∧ allP (fun _ k => rightF k) f.kids i = true)
     (fun i => f.kids.length - i) ⟨Nat.zero_le _, rfl⟩ rfl sb rfl ?_
    intro i ⟨hi, hn⟩
    refine go 6 ?_
    refine cb rfl (fun h52 p52 => ?_) (fun h52 p52 => ?_)
    ·have hlt : i < f.kids.length := by omega
     refine go 6 ?_
     obtain ⟨b53, o53, w53, e53, c53, r53⟩ := RdA.at_ hA (i := i) (by omega)
     replace r53 := fm_out r53
     obtain ⟨s53, rfl, hs53⟩ := r53
     refine o_v rfl (v_idx he rfl rfl e53 (i) (by omega) (by omega)) ?_
     refine o_v rfl (v_ldIa he rfl c53 rfl) ?_
     refine go 1 ?_
     refine o_alloc he rfl (fun g5 => ?_)
     refine go 1 ?_
     refine o_stw _ he rfl rfl rfl rfl rfl (Enc.one (α := Fm) (fm_back hs53)) ?_
     refine go 6 ?_
     refine o_callV (ih f.kids[i] (by have := cnt_kid (List.getElem_mem hlt); omega) _ (fm_back hs53)) rfl rfl ?_
     refine go 3 ?_
     refine cb rfl (fun h57 p57 => ?_) (fun h57 p57 => ?_)
     ·refine go 11 ?_
      refine fin1 rfl rfl ?_
      exact q_v (congrArg Value.bool (right_kid hlt (by simpa using h57)).symm)
     ·refine go 8 ?_
      refine sx_drop ?_
      exact q_next (i + 1) ⟨by omega, allP_succ (f := fun _ k => rightF k) hn hlt (by simpa using h57)⟩ (by omega) rfl sb rfl
    ·refine go 11 ?_
     refine fin1 rfl rfl ?_
     have e : i = f.kids.length := (by omega)
     subst e
     exact q_v (congrArg Value.bool (right_all h6 h47 hn).symm)

theorem fmRight (I : IMap) (f : Fm) (vs : List Value) (hr : FmRd I vs f) : FnV Tryz.prog 51 #[.agg vs.toArray] I (.bool (rightF f)) := by
  have key : ∀ (N : Nat) (f : Fm), cntN f ≤ N → ∀ vs, FmRd I vs f → FnV Tryz.prog 51 #[.agg vs.toArray] I (.bool (rightF f)) := by
    intro N
    induction N with
    | zero => intro f hN; exact absurd hN (by cases f; simp [cntN])
    | succ N ih => intro f hN vs hr; exact fmRight_step I N ih f hN vs hr
  exact key (cntN f) f (Nat.le_refl _) vs hr

theorem fmValid (I : IMap) (f : Fm) (vs : List Value) (hr : FmRd I vs f) :
    FnV Tryz.prog 25 #[.agg vs.toArray] I (.bool (validFm f)) := by
 have hl := Enc.len (α := Fm) hr
 refine enter Tryz.func25 Tryz.call25 rfl Tryz.ntmps25 rfl (fun w0 => ?_)
 refine go 3 ?_
 refine o_box _ rfl rfl rfl (fun g1 => ?_)
 refine go 5 ?_
 refine o_v rfl (v_ldw m0 he rfl hl) ?_
 refine go 1 ?_
 refine o_callV (fmNodes _ f _ hr 60 (by omega) (by omega)) rfl rfl ?_
 refine go 2 ?_
 refine sxb 6 rfl (fun h6 p6 => ?_) (fun h6 p6 => ?_)
 ·refine o_cons (o_yes rfl rfl h6 (o_val rfl (v_ldw m0 he rfl hl) ?_))
  refine go 1 ?_
  refine o_yes rfl rfl h6 (o_callV (fmRight _ f _ hr) rfl rfl ?_)
  refine go 5 ?_
  refine fin1 rfl rfl ?_
  exact q_v (congrArg Value.bool (by simp only [validFm, h6, bS]))
 ·refine go 7 ?_
  refine fin1 rfl rfl ?_
  exact q_v (congrArg Value.bool (by simp only [validFm, h6, bS]))

theorem fmFloor (I : IMap) (a b : Int) (ha : -(1000000000000 : Int) ≤ a ∧ a ≤ (1000000000000 : Int)) :
    FnV Tryz.prog 237 #[.int .i64 (a), .int .i64 (b)] I (.int .i64 (floorI a b)) := by
 refine enter Tryz.func237 Tryz.call237 rfl Tryz.ntmps237 rfl (fun w0 => ?_)
 refine go 12 ?_
 refine cb rfl (fun h7 p7 => ?_) (fun h7 p7 => ?_)
 ·refine go 7 ?_
  refine fin1 rfl rfl ?_
  exact q_v (congrArg (Value.int .i64) (floor_z p7).symm)
 ·have htd := tdiv_in (a := a) (b := b)
  refine go 6 ?_
  refine o_v rfl (v_quo rfl rfl p7 ⟨by omega, by omega⟩) ?_
  refine go 5 ?_
  refine c_cut (I' := I) (L' := [(5, .int .i64 (a.tdiv b)), (22, .bool (floorB a b))]) (H' := []) ?_ ?_
  ·refine go 3 ?_
   refine o_v rfl (v_mul rfl rfl ⟨by omega, by omega⟩) ?_
   refine go 3 ?_
   refine sxb 16 rfl (fun h16 p16 => ?_) (fun h16 p16 => ?_)
   ·refine go 4 ?_
    refine o_cons (o_yes rfl rfl h16 (o_val rfl (v_bneq he rfl rfl) ?_))
    refine go 3 ?_
    exact q_cut ⟨rfl, (congrArg (fun b => some (Value.bool b)) (by simp only [floorB, h7, h16, bS])), trivial⟩ rfl rfl
   ·refine go 8 ?_
    exact q_cut ⟨rfl, (congrArg (fun b => some (Value.bool b)) (by simp only [floorB, h7, h16, bS])), trivial⟩ rfl rfl
  ·refine cb rfl (fun h22 p22 => ?_) (fun h22 p22 => ?_)
   ·refine go 13 ?_
    refine fin1 rfl rfl ?_
    exact q_v (congrArg (Value.int .i64) (floor_y p7 h22))
   ·refine go 9 ?_
    refine fin1 rfl rfl ?_
    exact q_v (congrArg (Value.int .i64) (floor_n p7 h22))

theorem fmSigned (I : IMap) (a : Ivl) (ha : ivOk a = true) (low high : Int) (g2 g5 : Nat) (A0 : Option Addr) (k0 : Nat) (l : List Ivl) (hl : l.length ≤ 1000) :
    FnH Tryz.prog 236 #[.int .i64 (low), .int .i64 (high), .pointer (some ⟨g2, 0, none⟩), .pointer (some ⟨g5, 0, none⟩)] I [.blk g2 32 a.cells, .blk g5 64 [.slice A0 l.length k0], .row (.slice A0 l.length k0) 32 2 (l).length (ivCs (l))] (fun u _ H2 => u = .tuple #[] ∧ ∃ A k, H2 = [.blk g2 32 a.cells, .blk g5 64 [.slice A (l ++ signedI a low high).length k], .row (.slice A (l ++ signedI a low high).length k) 32 2 (l ++ signedI a low high).length (ivCs (l ++ signedI a low high))]) := by
 refine enter Tryz.func236 Tryz.call236 rfl Tryz.ntmps236 rfl (fun w0 => ?_)
 refine go 7 ?_
 refine cb rfl (fun h12 p12 => ?_) (fun h12 p12 => ?_)
 ·have hsg : signedI a low high = [quoI a low, quoI a high] := if_pos p12
  refine go 5 ?_
  refine o_buildSlice he he rfl rfl rfl rfl rfl rfl rfl (fun v15 => ?_)
  refine sx_pubrow (l := [low, high]) rfl rfl ((.cons rfl (.one rfl))) (fun I15 j15 R15 => ?_)
  obtain ⟨A15, c15, rfl, hA15, _, _⟩ := R15
  refine go 5 ?_
  refine c_loop3 ((0 : Nat)) (A0) (k0) (fun i A1 k1 => I15)
   (fun i A1 k1 => [(2, .pointer (some ⟨g2, 0, none⟩)), (3, .pointer (some ⟨g5, 0, none⟩)), (15, .slice A15 [low, high].length c15), (16, .int .i64 ([low, high].length : Int)), (17, .int .i64 ((i : Nat) : Int))])
   (fun i A1 k1 => [.blk g2 32 a.cells, .blk g5 64 [.slice A1 (l ++ [quoI a low, quoI a high].take i).length k1], .row (.slice A1 (l ++ [quoI a low, quoI a high].take i).length k1) 32 2 (l ++ [quoI a low, quoI a high].take i).length (ivCs (l ++ [quoI a low, quoI a high].take i))])
   (fun i A1 k1 => i ≤ 2)
   (fun i A1 k1 => 2 - i) (by omega) rfl sb (by simp) ?_
  intro i A1 k1 hi
  refine go 6 ?_
  refine cb rfl (fun h18 p18 => ?_) (fun h18 p18 => ?_)
  ·have hlt : i < 2 := by simp at p18; omega
   have hai := ivOk_iff.1 ha
   obtain ⟨d, hd⟩ : ∃ d, [low, high][i] = d := ⟨_, rfl⟩
   have hst : [quoI a low, quoI a high].take (i + 1) = [quoI a low, quoI a high].take i ++ [quoI a d] := by
     have h2 : i = 0 ∨ i = 1 := by omega
     rcases h2 with rfl | rfl <;> (simp at hd; subst hd; rfl)
   refine go 6 ?_
   obtain ⟨b19, o19, w19, e19, c19, r19⟩ := RdA.at_ hA15 (i := i) (by omega)
   obtain rfl := r19
   refine o_v rfl (v_idx he rfl rfl e19 (i) (by omega) (by omega)) ?_
   refine o_v rfl (OV.cast (u := .int .i64 (d)) (v_ldI he rfl (c19 0 _ rfl)) (congrArg (Value.int .i64) hd)) ?_
   refine go 4 ?_
   refine d_startH T.mixed ?_
   refine d_tv 0 rfl rfl (by kernel_rfl) rfl (.refl _) rfl (v_fieldAddr he rfl) ?_
   refine d_tv 1 rfl rfl (by kernel_rfl) rfl (.refl _) rfl (v_ld m0 he rfl rfl) ?_
   refine d_tv 2 rfl rfl (by kernel_rfl) rfl (.refl _) rfl (v_move rfl) ?_
   refine d_tv 4 rfl rfl (by kernel_rfl) rfl (.refl _) rfl (v_fieldAddr he rfl) ?_
   refine d_tv 5 rfl rfl (by kernel_rfl) rfl (.refl _) rfl (v_ld m0 he rfl rfl) ?_
   refine d_tv 6 rfl rfl (by kernel_rfl) rfl (.refl _) rfl (v_move rfl) ?_
   refine d_one 3 (by kernel_rfl) rfl ?_
   refine o_callV (fmFloor _ a.low d (by omega)) rfl rfl ?_
   refine d_on (fun _ m => m.keeps (.refl _)) ?_
   refine d_one 7 (by kernel_rfl) rfl ?_
   refine o_callV (fmFloor _ a.high d (by omega)) rfl rfl ?_
   refine d_on (fun _ m => m.keeps (.refl _)) ?_
   refine d_tv 8 rfl rfl (by kernel_rfl) rfl (.refl _) rfl (v_assign rfl) ?_
   refine d_tv 9 rfl rfl (by kernel_rfl) rfl (.refl _) rfl (v_assign rfl) ?_
   refine d_done (by kernel_rfl) ?_
   refine go 5 ?_
   refine o_v rfl (OV.cast (u := .int .i64 (min (floorI a.low d) (floorI a.high d))) (v_imin rfl rfl) (congrArg (Value.int .i64) (by omega))) ?_
   refine go 2 ?_
   refine o_v rfl (OV.cast (u := .int .i64 (max (floorI a.low d) (floorI a.high d))) (v_imax rfl rfl) (congrArg (Value.int .i64) (by omega))) ?_
   refine go 1 ?_
   refine o_val rfl (v_build (pl := [(0, 1), (1, 1)]) he he rfl rfl) ?_
   refine go 1 ?_
   refine o_buildSlice he he rfl rfl rfl rfl rfl rfl rfl (fun v37 => ?_)
   refine go 1 ?_
   refine bring3 ?_
   refine o_appendO he he rfl rfl rfl rfl rfl (by simp; omega) (by simp; omega) rfl (fun v38 => ?_)
   refine sx_rowslice (fun A38 c38 hv38 => ?_)
   subst hv38
   refine go 1 ?_
   refine bring3 ?_
   refine o_stw _ he rfl rfl rfl rfl rfl rfl ?_
   refine go 8 ?_
   refine bring2 ?_
   refine sx_drop ?_
   refine bring1 ?_
   refine bring1 ?_
   refine bring2 ?_
   exact q_next3 (i + 1) (A38) (c38) (by omega) (by omega) rfl sb (by rw [hst]; simp [ivCs_app, ivCs_one]; exact ⟨by omega, rfl⟩)
  ·refine go 4 ?_
   refine end0 rfl ?_
   have e : i = 2 := (by simp at p18; omega)
   subst e
   exact q_post (fun _ m => m) ⟨rfl, A1, k1, by rw [hsg]; rfl⟩
 ·have hsg : signedI a low high = [] := if_neg p12
  refine go 1 ?_
  refine end0 rfl ?_
  exact q_post (fun _ m => m) ⟨rfl, A0, k0, by rw [hsg, List.append_nil]⟩

theorem fmDivide (I : IMap) (a b : Ivl) (ha : ivOk a = true) (hb : ivOk b = true) :
    FnV Tryz.prog 231 #[.agg a.cells.toArray, .agg b.cells.toArray] I (.agg (divI a b).cells.toArray) := by
 obtain ⟨q0, hq0⟩ : ∃ q0, (if b.low ≤ 0 ∧ b.high ≥ 0 then [zIvl] else []) = q0 := ⟨_, rfl⟩
 have hQ : quosI a b = q0 ++ signedI a (max b.low 1) b.high ++ signedI a b.low (min b.high (-1)) := by rw [← hq0]; rfl
 have hl0 : q0.length ≤ 1 := by rw [← hq0]; split <;> simp
 have hs1 := signed_len a (max b.low 1) b.high
 have hqn : 0 < (quosI a b).length := List.length_pos_iff.2 (quosI_ne (ivOk_iff.1 hb).2.1)
 have hql : (quosI a b).length ≤ 5 := by
   rw [hQ]
   simp only [List.length_append]
   have := signed_len a b.low (min b.high (-1))
   omega
 refine enter Tryz.func231 Tryz.call231 rfl Tryz.ntmps231 rfl (fun w0 => ?_)
 refine go 3 ?_
 refine o_box _ rfl rfl rfl (fun g2 => ?_)
 refine go 1 ?_
 refine o_box _ rfl rfl rfl (fun g3 => ?_)
 refine go 1 ?_
 refine o_alloc he rfl (fun g4 => ?_)
 refine go 5 ?_
 refine o_alloc he rfl (fun g5 => ?_)
 refine go 3 ?_
 refine c_cutx2 (Ix := (fun A k => I)) (Lx := (fun A k => [(2, .pointer (some ⟨g2, 0, none⟩)), (3, .pointer (some ⟨g3, 0, none⟩)), (4, .pointer (some ⟨g4, 0, none⟩)), (5, .pointer (some ⟨g5, 0, none⟩))])) (Hx := (fun A k => [.blk g2 32 a.cells, .blk g5 64 [.slice A q0.length k], .row (.slice A q0.length k) 32 2 (q0).length (ivCs (q0)), .blk g3 32 b.cells, .blk g4 32 [.int .i64 (0), .int .i64 (0)]])) (p := (fun A k => True)) ?_ ?_
 ·refine go 1 ?_
  refine c_cut (I' := I) (L' := [(2, .pointer (some ⟨g2, 0, none⟩)), (3, .pointer (some ⟨g3, 0, none⟩)), (4, .pointer (some ⟨g4, 0, none⟩)), (5, .pointer (some ⟨g5, 0, none⟩)), (17, .bool (decide (b.low ≤ 0) && decide (b.high ≥ 0)))]) (H' := [.blk g5 64 [.slice none 0 0], .blk g4 32 [.int .i64 (0), .int .i64 (0)], .blk g3 32 b.cells, .blk g2 32 a.cells]) ?_ ?_
  ·refine go 5 ?_
   refine sxb 13 rfl (fun h13 p13 => ?_) (fun h13 p13 => ?_)
   ·refine go 6 ?_
    exact q_cut ⟨rfl, rfl, rfl, rfl, (congrArg (fun b => some (Value.bool b)) (by simp only [h13, bS])), trivial⟩ rfl rfl
   ·refine go 6 ?_
    exact q_cut ⟨rfl, rfl, rfl, rfl, (congrArg (fun b => some (Value.bool b)) (by simp only [h13, bS])), trivial⟩ rfl rfl
  ·refine cb rfl (fun h17 p17 => ?_) (fun h17 p17 => ?_)
   ·have hq1 : q0 = [zIvl] := by rw [← hq0, if_pos p17]
    refine go 1 ?_
    refine sx_nilrow 32 2 ?_
    refine go 2 ?_
    refine o_val rfl (v_build (pl := [(0, 1), (1, 1)]) he he rfl rfl) ?_
    refine go 1 ?_
    refine o_buildSlice he he rfl rfl rfl rfl rfl rfl rfl (fun v20 => ?_)
    refine go 1 ?_
    refine bring1 ?_
    refine o_appendO he he rfl rfl rfl rfl rfl (by simp) (by simp) rfl (fun v21 => ?_)
    refine sx_rowslice (fun A21 c21 hv21 => ?_)
    subst hv21
    refine go 1 ?_
    refine bring2 ?_
    refine o_stw _ he rfl rfl rfl rfl rfl rfl ?_
    refine go 2 ?_
    refine bring2 ?_
    refine sx_drop ?_
    refine bring2 ?_
    refine bring3 ?_
    refine bring3 ?_
    refine bring3 ?_
    refine bring4 ?_
    exact q_cutx2 (A21) (c21) trivial sb (by rw [hq1]; rfl) rfl
   ·have hq1 : q0 = [] := by rw [← hq0, if_neg (by simpa using h17)]
    refine sx_nilrow 32 2 ?_
    refine go 2 ?_
    refine bring2 ?_
    refine bring3 ?_
    refine bring2 ?_
    refine bring3 ?_
    refine bring4 ?_
    exact q_cutx2 (none) (0) trivial sb (by rw [hq1]; rfl) rfl
 ·intro A k _
  refine go 2 ?_
  refine o_v rfl (v_makeFunc rfl rfl) ?_
  refine go 8 ?_
  refine o_v rfl (OV.cast (u := .int .i64 (max b.low 1)) (v_imax rfl rfl) (congrArg (Value.int .i64) (by omega))) ?_
  refine go 3 ?_
  refine bring2 ?_
  refine bring2 ?_
  refine bring2 ?_
  refine o_callH3 (fmSigned _ a ha (max b.low 1) b.high g2 g5 _ _ (q0) (by first | omega | (simp only [List.length_append]; omega))) rfl rfl (fun u29 I29 H29 j29 q29 => ?_)
  obtain ⟨rfl, A29, k29, rfl⟩ := q29
  refine sx_app3' ?_
  refine go 9 ?_
  refine o_v rfl (OV.cast (u := .int .i64 (min b.high (-1))) (v_imin rfl rfl) (congrArg (Value.int .i64) (by omega))) ?_
  refine go 1 ?_
  refine bring2 ?_
  refine bring2 ?_
  refine bring2 ?_
  refine o_callH3 (fmSigned _ a ha b.low (min b.high (-1)) g2 g5 _ _ (q0 ++ signedI a (max b.low 1) b.high) (by first | omega | (simp only [List.length_append]; omega))) rfl rfl (fun u36 I36 H36 j36 q36 => ?_)
  obtain ⟨rfl, A36, k36, rfl⟩ := q36
  refine sx_app3' ?_
  rw [← hQ]
  refine bring2 ?_
  refine sx_pubrow (l := quosI a b) rfl rfl (ivCs_flat _) (fun I37 j37 R37 => ?_)
  have hA37 := R37.rda
  refine go 5 ?_
  obtain ⟨b38, o38, w38, e38, c38, r38⟩ := RdA.at_ hA37 (i := 0) hqn
  obtain rfl := r38
  refine o_v rfl (v_idx he rfl rfl e38 (0) rfl hqn) ?_
  refine o_v rfl (v_ldIa he rfl c38 rfl) ?_
  refine go 1 ?_
  refine o_alloc he rfl (fun g7 => ?_)
  refine go 1 ?_
  refine o_stw _ he rfl rfl rfl rfl rfl rfl ?_
  refine go 11 ?_
  refine bring1 ?_
  refine sx_drop ?_
  refine bring1 ?_
  refine sx_drop ?_
  refine bring1 ?_
  refine sx_drop ?_
  refine c_loop2 ((0 : Nat)) ((quosI a b)[0]) (fun i z => I37)
   (fun i z => [(4, .pointer (some ⟨g4, 0, none⟩)), (7, .pointer (some ⟨g7, 0, none⟩)), (40, .slice A36 (quosI a b).length k36), (41, .int .i64 ((quosI a b).length : Int)), (42, .int .i64 ((i : Nat) : Int))])
   (fun i z => [.blk g7 32 z.cells, .blk g4 32 [.int .i64 (0), .int .i64 (0)]])
   (fun i z => i ≤ (quosI a b).length ∧ ((quosI a b).take i).foldl joinI (quosI a b)[0] = z)
   (fun i z => (quosI a b).length - i) ⟨Nat.zero_le _, rfl⟩ rfl sb rfl ?_
  intro i z ⟨hi, hz⟩
  refine go 6 ?_
  refine cb rfl (fun h43 p43 => ?_) (fun h43 p43 => ?_)
  ·have hlt : i < (quosI a b).length := by omega
   refine go 6 ?_
   obtain ⟨b44, o44, w44, e44, c44, r44⟩ := RdA.at_ hA37 (i := i) (by omega)
   obtain rfl := r44
   refine o_v rfl (v_idx he rfl rfl e44 (i) (by omega) (by omega)) ?_
   refine o_v rfl (v_ldIa he rfl c44 rfl) ?_
   refine go 1 ?_
   refine o_alloc he rfl (fun g9 => ?_)
   refine go 1 ?_
   refine o_stw _ he rfl rfl rfl rfl rfl rfl ?_
   refine go 6 ?_
   refine o_callV (ivJoin _ z (quosI a b)[i]) rfl rfl ?_
   refine go 1 ?_
   refine bring1 ?_
   refine o_stw _ he rfl rfl rfl rfl rfl rfl ?_
   refine go 8 ?_
   refine bring1 ?_
   refine sx_drop ?_
   exact q_next2 (i + 1) (_) ⟨by omega, by rw [foldJ_step hlt, hz]⟩ (by omega) rfl sb rfl
  ·refine go 9 ?_
   refine bring1 ?_
   refine o_stw _ he rfl rfl rfl rfl rfl rfl ?_
   refine go 3 ?_
   refine fin1 rfl ⟨_, _, _, rfl, m0, .inr ⟨_, he, rfl, rfl⟩⟩ ?_
   have e : i = (quosI a b).length := (by omega)
   subst e
   rw [List.take_length] at hz
   exact q_vI (by rw [← hz, div_is hqn])

theorem rgApply (I : IMap) (u : Use) (op : Int) (a b : Ivl) (ha : ivOk a = true) (hb : ivOk b = true) :
    FnV Tryz.prog 225 #[.agg u.cells.toArray, .int .i64 (op), .agg a.cells.toArray, .agg b.cells.toArray] I (.agg (applyI op a b).cells.toArray) := by
 refine enter Tryz.func225 Tryz.call225 rfl Tryz.ntmps225 rfl (fun w0 => ?_)
 refine go 3 ?_
 refine o_box _ rfl rfl rfl (fun g4 => ?_)
 refine go 1 ?_
 refine o_box _ rfl rfl rfl (fun g6 => ?_)
 refine go 1 ?_
 refine o_box _ rfl rfl rfl (fun g7 => ?_)
 refine go 1 ?_
 refine o_alloc he rfl (fun g8 => ?_)
 refine go 15 ?_
 refine cb rfl (fun h10 p10 => ?_) (fun h10 p10 => ?_)
 ·refine go 5 ?_
  refine o_callV (ivAdd _ a b) rfl rfl ?_
  refine go 1 ?_
  refine o_stw _ he rfl rfl rfl rfl rfl rfl ?_
  refine go 5 ?_
  refine fin1 rfl ⟨_, _, _, rfl, m0, .inr ⟨_, he, rfl, rfl⟩⟩ ?_
  exact q_v (by unfold applyI; repeat (first | rw [if_pos (by assumption)] | rw [if_neg (by assumption)] | rfl))
 ·refine go 6 ?_
  refine cb rfl (fun h15 p15 => ?_) (fun h15 p15 => ?_)
  ·refine go 5 ?_
   refine o_callV (ivSub _ a b) rfl rfl ?_
   refine go 1 ?_
   refine o_stw _ he rfl rfl rfl rfl rfl rfl ?_
   refine go 5 ?_
   refine fin1 rfl ⟨_, _, _, rfl, m0, .inr ⟨_, he, rfl, rfl⟩⟩ ?_
   exact q_v (by unfold applyI; repeat (first | rw [if_pos (by assumption)] | rw [if_neg (by assumption)] | rfl))
  ·refine go 6 ?_
   refine cb rfl (fun h20 p20 => ?_) (fun h20 p20 => ?_)
   ·refine go 5 ?_
    refine o_callV (ivMul _ a b) rfl rfl ?_
    refine go 1 ?_
    refine o_stw _ he rfl rfl rfl rfl rfl rfl ?_
    refine go 5 ?_
    refine fin1 rfl ⟨_, _, _, rfl, m0, .inr ⟨_, he, rfl, rfl⟩⟩ ?_
    exact q_v (by unfold applyI; repeat (first | rw [if_pos (by assumption)] | rw [if_neg (by assumption)] | rfl))
   ·refine go 6 ?_
    refine cb rfl (fun h25 p25 => ?_) (fun h25 p25 => ?_)
    ·refine go 6 ?_
     refine o_v rfl (OV.cast (u := .int .i64 (min a.low b.low)) (v_imin rfl rfl) (congrArg (Value.int .i64) (by omega))) ?_
     refine go 4 ?_
     refine o_v rfl (OV.cast (u := .int .i64 (min a.high b.high)) (v_imin rfl rfl) (congrArg (Value.int .i64) (by omega))) ?_
     refine go 1 ?_
     refine o_val rfl (v_build (pl := [(0, 1), (1, 1)]) he he rfl rfl) ?_
     refine go 1 ?_
     refine o_stw _ he rfl rfl rfl rfl rfl rfl ?_
     refine go 5 ?_
     refine fin1 rfl ⟨_, _, _, rfl, m0, .inr ⟨_, he, rfl, rfl⟩⟩ ?_
     exact q_v (by unfold applyI; repeat (first | rw [if_pos (by assumption)] | rw [if_neg (by assumption)] | rfl))
    ·refine go 6 ?_
     refine cb rfl (fun h38 p38 => ?_) (fun h38 p38 => ?_)
     ·refine go 6 ?_
      refine o_v rfl (OV.cast (u := .int .i64 (max a.low b.low)) (v_imax rfl rfl) (congrArg (Value.int .i64) (by omega))) ?_
      refine go 4 ?_
      refine o_v rfl (OV.cast (u := .int .i64 (max a.high b.high)) (v_imax rfl rfl) (congrArg (Value.int .i64) (by omega))) ?_
      refine go 1 ?_
      refine o_val rfl (v_build (pl := [(0, 1), (1, 1)]) he he rfl rfl) ?_
      refine go 1 ?_
      refine o_stw _ he rfl rfl rfl rfl rfl rfl ?_
      refine go 5 ?_
      refine fin1 rfl ⟨_, _, _, rfl, m0, .inr ⟨_, he, rfl, rfl⟩⟩ ?_
      exact q_v (by unfold applyI; repeat (first | rw [if_pos (by assumption)] | rw [if_neg (by assumption)] | rfl))
     ·refine go 8 ?_
      refine o_callV (fmDivide _ a b ha hb) rfl rfl ?_
      refine go 1 ?_
      refine o_stw _ he rfl rfl rfl rfl rfl rfl ?_
      refine go 3 ?_
      refine fin1 rfl ⟨_, _, _, rfl, m0, .inr ⟨_, he, rfl, rfl⟩⟩ ?_
      exact q_v (by unfold applyI; repeat (first | rw [if_pos (by assumption)] | rw [if_neg (by assumption)] | rfl))

theorem rgChoose (I : IMap) (u : Use) (a b c : Ivl) :
    FnV Tryz.prog 226 #[.agg u.cells.toArray, .agg a.cells.toArray, .agg b.cells.toArray, .agg c.cells.toArray] I (.agg (chooseI a b c).cells.toArray) := by
 refine enter Tryz.func226 Tryz.call226 rfl Tryz.ntmps226 rfl (fun w0 => ?_)
 refine go 3 ?_
 refine o_box _ rfl rfl rfl (fun g4 => ?_)
 refine go 1 ?_
 refine o_box _ rfl rfl rfl (fun g5 => ?_)
 refine go 1 ?_
 refine o_box _ rfl rfl rfl (fun g6 => ?_)
 refine go 1 ?_
 refine o_box _ rfl rfl rfl (fun g7 => ?_)
 refine go 1 ?_
 refine o_alloc he rfl (fun g8 => ?_)
 refine go 7 ?_
 refine o_callV (ivOver _ a 0) rfl rfl ?_
 refine go 9 ?_
 refine cb rfl (fun h11 p11 => ?_) (fun h11 p11 => ?_)
 ·refine go 4 ?_
  refine o_stw _ he rfl rfl rfl rfl rfl rfl ?_
  refine go 5 ?_
  refine fin1 rfl ⟨_, _, _, rfl, m0, .inr ⟨_, he, rfl, rfl⟩⟩ ?_
  exact q_v (by unfold chooseI; repeat (first | rw [if_pos (by assumption)] | rw [if_neg (by assumption)] | rfl))
 ·refine go 6 ?_
  refine cb rfl (fun h14 p14 => ?_) (fun h14 p14 => ?_)
  ·refine go 4 ?_
   refine o_stw _ he rfl rfl rfl rfl rfl rfl ?_
   refine go 5 ?_
   refine fin1 rfl ⟨_, _, _, rfl, m0, .inr ⟨_, he, rfl, rfl⟩⟩ ?_
   exact q_v (by unfold chooseI; repeat (first | rw [if_pos (by assumption)] | rw [if_neg (by assumption)] | rfl))
  ·refine go 8 ?_
   refine o_callV (ivJoin _ b c) rfl rfl ?_
   refine go 1 ?_
   refine o_stw _ he rfl rfl rfl rfl rfl rfl ?_
   refine go 3 ?_
   refine fin1 rfl ⟨_, _, _, rfl, m0, .inr ⟨_, he, rfl, rfl⟩⟩ ?_
   exact q_v (by unfold chooseI; repeat (first | rw [if_pos (by assumption)] | rw [if_neg (by assumption)] | rfl))

theorem rgLetter (I : IMap) (u : Use) (op : Int) :
    FnV Tryz.prog 227 #[.agg u.cells.toArray, .int .i64 (op)] I (.agg (letterI u op).cells.toArray) := by
 refine enter Tryz.func227 Tryz.call227 rfl Tryz.ntmps227 rfl (fun w0 => ?_)
 refine go 3 ?_
 refine o_box _ rfl rfl rfl (fun g2 => ?_)
 refine go 1 ?_
 refine o_alloc he rfl (fun g4 => ?_)
 refine go 15 ?_
 refine cb rfl (fun h6 p6 => ?_) (fun h6 p6 => ?_)
 ·refine go 4 ?_
  refine o_v rfl (v_ldp (u.km.cells) m1 he rfl rfl rfl) ?_
  refine go 1 ?_
  refine o_stw _ he rfl rfl rfl rfl rfl rfl ?_
  refine go 5 ?_
  refine fin1 rfl ⟨_, _, _, rfl, m0, .inr ⟨_, he, rfl, rfl⟩⟩ ?_
  exact q_v (by unfold letterI; repeat (first | rw [if_pos (by assumption)] | rw [if_neg (by assumption)] | rfl))
 ·refine go 6 ?_
  refine cb rfl (fun h11 p11 => ?_) (fun h11 p11 => ?_)
  ·refine go 4 ?_
   refine o_v rfl (v_ldp (u.cycles.cells) m1 he rfl rfl rfl) ?_
   refine go 1 ?_
   refine o_stw _ he rfl rfl rfl rfl rfl rfl ?_
   refine go 5 ?_
   refine fin1 rfl ⟨_, _, _, rfl, m0, .inr ⟨_, he, rfl, rfl⟩⟩ ?_
   exact q_v (by unfold letterI; repeat (first | rw [if_pos (by assumption)] | rw [if_neg (by assumption)] | rfl))
  ·refine go 7 ?_
   refine o_v rfl (v_ldp (u.load.cells) m1 he rfl rfl rfl) ?_
   refine go 1 ?_
   refine o_stw _ he rfl rfl rfl rfl rfl rfl ?_
   refine go 3 ?_
   refine fin1 rfl ⟨_, _, _, rfl, m0, .inr ⟨_, he, rfl, rfl⟩⟩ ?_
   exact q_v (by unfold letterI; repeat (first | rw [if_pos (by assumption)] | rw [if_neg (by assumption)] | rfl))

theorem rgNumber (I : IMap) (u : Use) (n : Int) :
    FnV Tryz.prog 228 #[.agg u.cells.toArray, .int .i64 (n)] I (.agg #[.int .i64 (n), .int .i64 (n)]) := by
 refine enter Tryz.func228 Tryz.call228 rfl Tryz.ntmps228 rfl (fun w0 => ?_)
 refine go 3 ?_
 refine o_box _ rfl rfl rfl (fun g2 => ?_)
 refine go 1 ?_
 refine o_alloc he rfl (fun g4 => ?_)
 refine go 7 ?_
 refine o_val rfl (v_build (pl := [(0, 1), (1, 1)]) he he rfl rfl) ?_
 refine go 1 ?_
 refine o_stw _ he rfl rfl rfl rfl rfl rfl ?_
 refine go 3 ?_
 refine fin1 rfl ⟨_, _, _, rfl, m0, .inr ⟨_, he, rfl, rfl⟩⟩ ?_
 exact q_v rfl

theorem fmRun_step (I : IMap) (u : Use) (hu : useOk u = true) (N : Nat) (ih : ∀ (f : Fm), cntN f ≤ N → ∀ vs, FmRd I vs f → rightF f = true → FnV Tryz.prog 31 #[.iface 80 (.agg u.cells.toArray), .agg vs.toArray] I (.agg (spanF u f).cells.toArray)) (f : Fm) (hN : cntN f ≤ N + 1) (vs : List Value) (hr : FmRd I vs f) (hR : rightF f = true) :
    FnV Tryz.prog 31 #[.iface 80 (.agg u.cells.toArray), .agg vs.toArray] I (.agg (spanF u f).cells.toArray) := by
 obtain ⟨s, rfl, hs⟩ := fm_out hr
 obtain ⟨A, c0, rfl, hA, hc, hm⟩ := hs
 refine enter Tryz.func31 Tryz.call31 rfl Tryz.ntmps31 rfl (fun w0 => ?_)
 refine go 3 ?_
 refine o_box _ rfl rfl rfl (fun g3 => ?_)
 refine go 1 ?_
 refine o_alloc he rfl (fun g4 => ?_)
 refine go 12 ?_
 refine cb rfl (fun h5 p5 => ?_) (fun h5 p5 => ?_)
 ·refine go 6 ?_
  refine o_invV he (rgNumber _ u f.n) rfl rfl rfl ?_
  refine go 1 ?_
  refine o_stw _ he rfl rfl rfl rfl rfl rfl ?_
  refine go 5 ?_
  refine fin1 rfl ⟨_, _, _, rfl, m0, .inr ⟨_, he, rfl, rfl⟩⟩ ?_
  exact q_v (by rw [span_num hR p5]; rfl)
 ·refine go 8 ?_
  refine cb rfl (fun h13 p13 => ?_) (fun h13 p13 => ?_)
  ·refine go 6 ?_
   refine o_invV he (rgLetter _ u f.op) rfl rfl rfl ?_
   refine go 1 ?_
   refine o_stw _ he rfl rfl rfl rfl rfl rfl ?_
   refine go 5 ?_
   refine fin1 rfl ⟨_, _, _, rfl, m0, .inr ⟨_, he, rfl, rfl⟩⟩ ?_
   exact q_v (by rw [span_letter hR p5 p13])
  ·refine go 8 ?_
   refine cb rfl (fun h21 p21 => ?_) (fun h21 p21 => ?_)
   ·have h3 := kids3 hR p21
    refine go 1 ?_
    refine d_start1 T.mixed ?_
    refine d_tv 0 rfl rfl (by kernel_rfl) rfl (.cons _ (.refl _)) rfl (v_move rfl) ?_
    refine d_tv 1 rfl rfl (by kernel_rfl) rfl (.cons _ (.refl _)) rfl (v_move rfl) ?_
    refine d_tv 2 rfl rfl (by kernel_rfl) rfl (.cons _ (.refl _)) rfl (v_fieldAddr he rfl) ?_
    refine d_tv 3 rfl rfl (by kernel_rfl) rfl (.cons _ (.refl _)) rfl (v_ld m0 he rfl rfl) ?_
    obtain ⟨b29, o29, w29, e29, c29, r29⟩ := RdA.at_ hA (i := 0) (by omega)
    replace r29 := fm_out r29
    obtain ⟨s29, rfl, hs29⟩ := r29
    refine d_tv 4 rfl rfl (by kernel_rfl) rfl (.cons _ (.refl _)) rfl (v_idx he rfl rfl e29 (0) rfl (by omega)) ?_
    refine d_tv 5 rfl rfl (by kernel_rfl) rfl (.cons _ (.refl _)) rfl (v_ldIa he rfl c29 rfl) ?_
    refine d_tv 7 rfl rfl (by kernel_rfl) rfl (.cons _ (.refl _)) rfl (v_move rfl) ?_
    refine d_tv 8 rfl rfl (by kernel_rfl) rfl (.cons _ (.refl _)) rfl (v_fieldAddr he rfl) ?_
    refine d_tv 9 rfl rfl (by kernel_rfl) rfl (.cons _ (.refl _)) rfl (v_ld m0 he rfl rfl) ?_
    obtain ⟨b35, o35, w35, e35, c35, r35⟩ := RdA.at_ hA (i := 1) (by omega)
    replace r35 := fm_out r35
    obtain ⟨s35, rfl, hs35⟩ := r35
    refine d_tv 10 rfl rfl (by kernel_rfl) rfl (.cons _ (.refl _)) rfl (v_idx he rfl rfl e35 (1) rfl (by omega)) ?_
    refine d_tv 11 rfl rfl (by kernel_rfl) rfl (.cons _ (.refl _)) rfl (v_ldIa he rfl c35 rfl) ?_
    refine d_tv 13 rfl rfl (by kernel_rfl) rfl (.cons _ (.refl _)) rfl (v_move rfl) ?_
    refine d_tv 14 rfl rfl (by kernel_rfl) rfl (.cons _ (.refl _)) rfl (v_fieldAddr he rfl) ?_
    refine d_tv 15 rfl rfl (by kernel_rfl) rfl (.cons _ (.refl _)) rfl (v_ld m0 he rfl rfl) ?_
    obtain ⟨b41, o41, w41, e41, c41, r41⟩ := RdA.at_ hA (i := 2) (by omega)
    replace r41 := fm_out r41
    obtain ⟨s41, rfl, hs41⟩ := r41
    refine d_tv 16 rfl rfl (by kernel_rfl) rfl (.cons _ (.refl _)) rfl (v_idx he rfl rfl e41 (2) rfl (by omega)) ?_
    refine d_tv 17 rfl rfl (by kernel_rfl) rfl (.cons _ (.refl _)) rfl (v_ldIa he rfl c41 rfl) ?_
    refine d_tv 19 rfl rfl (by kernel_rfl) rfl (.cons _ (.refl _)) rfl (v_makeFunc rfl rfl) ?_
    refine d_tv 20 rfl rfl (by kernel_rfl) rfl (.cons _ (.refl _)) rfl (v_nilMeth he rfl) ?_
    refine d_tv 21 rfl rfl (by kernel_rfl) rfl (.cons _ (.refl _)) rfl (v_move rfl) ?_
    refine d_one 6 (by kernel_rfl) rfl ?_
    refine o_callV (ih (f.kids[0]'(by omega)) (by have := cnt_kid (List.getElem_mem (show 0 < f.kids.length by omega)); omega) _ (fm_back hs29) (right_get hR 0 _)) rfl rfl ?_
    refine d_on (fun _ m => m.keeps (.cons _ (.refl _))) ?_
    refine d_one 12 (by kernel_rfl) rfl ?_
    refine o_callV (ih (f.kids[1]'(by omega)) (by have := cnt_kid (List.getElem_mem (show 1 < f.kids.length by omega)); omega) _ (fm_back hs35) (right_get hR 1 _)) rfl rfl ?_
    refine d_on (fun _ m => m.keeps (.cons _ (.refl _))) ?_
    refine d_one 18 (by kernel_rfl) rfl ?_
    refine o_callV (ih (f.kids[2]'(by omega)) (by have := cnt_kid (List.getElem_mem (show 2 < f.kids.length by omega)); omega) _ (fm_back hs41) (right_get hR 2 _)) rfl rfl ?_
    refine d_on (fun _ m => m.keeps (.cons _ (.refl _))) ?_
    refine d_one 22 (by kernel_rfl) rfl ?_
    refine o_invV he (rgChoose _ u _ _ _) rfl rfl rfl ?_
    refine d_on (fun _ m => m.keeps (.cons _ (.refl _))) ?_
    refine d_one 23 (by kernel_rfl) rfl ?_
    refine o_stw _ he rfl rfl rfl rfl rfl rfl ?_
    refine d_on (fun _ m => m.keeps (.cons _ (.refl _))) ?_
    refine d_done (by kernel_rfl) ?_
    refine go 4 ?_
    refine fin1 rfl ⟨_, _, _, rfl, m0, .inr ⟨_, he, rfl, rfl⟩⟩ ?_
    exact q_v (by rw [span_if h3])
   ·have h2 := kids2 hR p21 p13
    refine go 4 ?_
    refine d_start1 T.mixed ?_
    refine d_tv 0 rfl rfl (by kernel_rfl) rfl (.cons _ (.refl _)) rfl (v_move rfl) ?_
    refine d_tv 1 rfl rfl (by kernel_rfl) rfl (.cons _ (.refl _)) rfl (v_fieldAddr he rfl) ?_
    refine d_tv 2 rfl rfl (by kernel_rfl) rfl (.cons _ (.refl _)) rfl (v_ld m0 he rfl rfl) ?_
    refine d_tv 3 rfl rfl (by kernel_rfl) rfl (.cons _ (.refl _)) rfl (v_move rfl) ?_
    refine d_tv 4 rfl rfl (by kernel_rfl) rfl (.cons _ (.refl _)) rfl (v_fieldAddr he rfl) ?_
    refine d_tv 5 rfl rfl (by kernel_rfl) rfl (.cons _ (.refl _)) rfl (v_ld m0 he rfl rfl) ?_
    obtain ⟨b54, o54, w54, e54, c54, r54⟩ := RdA.at_ hA (i := 0) (by omega)
    replace r54 := fm_out r54
    obtain ⟨s54, rfl, hs54⟩ := r54
    refine d_tv 6 rfl rfl (by kernel_rfl) rfl (.cons _ (.refl _)) rfl (v_idx he rfl rfl e54 (0) rfl (by omega)) ?_
    refine d_tv 7 rfl rfl (by kernel_rfl) rfl (.cons _ (.refl _)) rfl (v_ldIa he rfl c54 rfl) ?_
    refine d_tv 9 rfl rfl (by kernel_rfl) rfl (.cons _ (.refl _)) rfl (v_move rfl) ?_
    refine d_tv 10 rfl rfl (by kernel_rfl) rfl (.cons _ (.refl _)) rfl (v_fieldAddr he rfl) ?_
    refine d_tv 11 rfl rfl (by kernel_rfl) rfl (.cons _ (.refl _)) rfl (v_ld m0 he rfl rfl) ?_
    obtain ⟨b60, o60, w60, e60, c60, r60⟩ := RdA.at_ hA (i := 1) (by omega)
    replace r60 := fm_out r60
    obtain ⟨s60, rfl, hs60⟩ := r60
    refine d_tv 12 rfl rfl (by kernel_rfl) rfl (.cons _ (.refl _)) rfl (v_idx he rfl rfl e60 (1) rfl (by omega)) ?_
    refine d_tv 13 rfl rfl (by kernel_rfl) rfl (.cons _ (.refl _)) rfl (v_ldIa he rfl c60 rfl) ?_
    refine d_tv 15 rfl rfl (by kernel_rfl) rfl (.cons _ (.refl _)) rfl (v_makeFunc rfl rfl) ?_
    refine d_tv 16 rfl rfl (by kernel_rfl) rfl (.cons _ (.refl _)) rfl (v_nilMeth he rfl) ?_
    refine d_tv 17 rfl rfl (by kernel_rfl) rfl (.cons _ (.refl _)) rfl (v_move rfl) ?_
    refine d_one 8 (by kernel_rfl) rfl ?_
    refine o_callV (ih (f.kids[0]'(by omega)) (by have := cnt_kid (List.getElem_mem (show 0 < f.kids.length by omega)); omega) _ (fm_back hs54) (right_get hR 0 _)) rfl rfl ?_
    refine d_on (fun _ m => m.keeps (.cons _ (.refl _))) ?_
    refine d_one 14 (by kernel_rfl) rfl ?_
    refine o_callV (ih (f.kids[1]'(by omega)) (by have := cnt_kid (List.getElem_mem (show 1 < f.kids.length by omega)); omega) _ (fm_back hs60) (right_get hR 1 _)) rfl rfl ?_
    refine d_on (fun _ m => m.keeps (.cons _ (.refl _))) ?_
    refine d_one 18 (by kernel_rfl) rfl ?_
    refine o_invV he (rgApply _ u _ _ _ (span_ok hu _ (right_get hR 0 (by omega))) (span_ok hu _ (right_get hR 1 (by omega)))) rfl rfl rfl ?_
    refine d_on (fun _ m => m.keeps (.cons _ (.refl _))) ?_
    refine d_one 19 (by kernel_rfl) rfl ?_
    refine o_stw _ he rfl rfl rfl rfl rfl rfl ?_
    refine d_on (fun _ m => m.keeps (.cons _ (.refl _))) ?_
    refine d_done (by kernel_rfl) ?_
    refine go 2 ?_
    refine fin1 rfl ⟨_, _, _, rfl, m0, .inr ⟨_, he, rfl, rfl⟩⟩ ?_
    exact q_v (by rw [span_two h2])

theorem fmRun (I : IMap) (u : Use) (hu : useOk u = true) (f : Fm) (vs : List Value) (hr : FmRd I vs f) (hR : rightF f = true) : FnV Tryz.prog 31 #[.iface 80 (.agg u.cells.toArray), .agg vs.toArray] I (.agg (spanF u f).cells.toArray) := by
  have key : ∀ (N : Nat) (f : Fm), cntN f ≤ N → ∀ vs, FmRd I vs f → rightF f = true → FnV Tryz.prog 31 #[.iface 80 (.agg u.cells.toArray), .agg vs.toArray] I (.agg (spanF u f).cells.toArray) := by
    intro N
    induction N with
    | zero => intro f hN; exact absurd hN (by cases f; simp [cntN])
    | succ N ih => intro f hN vs hr hR; exact fmRun_step I u hu N ih f hN vs hr hR
  exact key (cntN f) f (Nat.le_refl _) vs hr hR

theorem fmDamage (I : IMap) (f : Fm) (vs : List Value) (hr : FmRd I vs f) (u : Use) :
    FnV Tryz.prog 12 #[.agg vs.toArray, .agg u.cells.toArray] I (.agg (damF f u).cells.toArray) := by
 obtain ⟨s, rfl, hs⟩ := fm_out hr
 obtain ⟨A, c0, rfl, hA, hc, hm⟩ := hs
 refine enter Tryz.func12 Tryz.call12 rfl Tryz.ntmps12 rfl (fun w0 => ?_)
 refine go 3 ?_
 refine o_box _ rfl rfl rfl (fun g2 => ?_)
 refine go 1 ?_
 refine o_box _ rfl rfl rfl (fun g3 => ?_)
 refine go 1 ?_
 refine o_alloc he rfl (fun g4 => ?_)
 refine go 6 ?_
 refine o_v rfl (v_ldp (u.km.cells) m1 he rfl rfl rfl) ?_
 refine go 1 ?_
 refine o_v rfl (v_ldp (u.cycles.cells) m1 he rfl rfl rfl) ?_
 refine go 1 ?_
 refine o_v rfl (v_ldp (u.load.cells) m1 he rfl rfl rfl) ?_
 refine go 1 ?_
 refine o_buildSlice he he rfl rfl rfl rfl rfl rfl rfl (fun v14 => ?_)
 refine sx_pubrow (l := [u.km, u.cycles, u.load]) rfl rfl ((ivCs_flat [u.km, u.cycles, u.load])) (fun I14 j14 R14 => ?_)
 have hr := hr.le j14
 obtain ⟨A14, c14, rfl, hA14, _, _⟩ := R14
 refine go 5 ?_
 refine bring1 ?_
 refine bring2 ?_
 refine c_loop (α := Nat) 0 (fun i => I14)
  (fun i => [(2, .pointer (some ⟨g2, 0, none⟩)), (3, .pointer (some ⟨g3, 0, none⟩)), (4, .pointer (some ⟨g4, 0, none⟩)), (14, .slice A14 [u.km, u.cycles, u.load].length c14), (15, .int .i64 ([u.km, u.cycles, u.load].length : Int)), (16, .int .i64 ((i : Nat) : Int))])
  (fun i => [.blk g2 27 [ci f.op, ci f.n, .slice A f.kids.length c0], .blk g3 34 u.cells, .blk g4 32 [.int .i64 (0), .int .i64 (0)]])
  (fun i => i ≤ 3 ∧ allP (fun _ q => useIv q) [u.km, u.cycles, u.load] i = true)
  (fun i => 3 - i) ⟨by omega, rfl⟩ rfl sb rfl ?_
 intro i ⟨hi, hn⟩
 refine go 6 ?_
 refine cb rfl (fun h17 p17 => ?_) (fun h17 p17 => ?_)
 ·have hlt : i < 3 := by simp at p17; omega
  refine go 6 ?_
  obtain ⟨b18, o18, w18, e18, c18, r18⟩ := RdA.at_ hA14 (i := i) (by omega)
  obtain rfl := r18
  refine o_v rfl (v_idx he rfl rfl e18 (i) (by omega) (by omega)) ?_
  refine o_v rfl (v_ldIa he rfl c18 rfl) ?_
  refine go 1 ?_
  refine o_alloc he rfl (fun g6 => ?_)
  refine go 1 ?_
  refine o_stw _ he rfl rfl rfl rfl rfl rfl ?_
  refine go 3 ?_
  refine c_cut (I' := I14) (L' := [(2, .pointer (some ⟨g2, 0, none⟩)), (3, .pointer (some ⟨g3, 0, none⟩)), (4, .pointer (some ⟨g4, 0, none⟩)), (14, .slice A14 [u.km, u.cycles, u.load].length c14), (15, .int .i64 ([u.km, u.cycles, u.load].length : Int)), (16, .int .i64 ((i : Nat) : Int)), (6, .pointer (some ⟨g6, 0, none⟩)), (34, .bool (!useIv [u.km, u.cycles, u.load][i]))]) (H' := [.blk g6 32 [u.km, u.cycles, u.load][i].cells, .blk g2 27 [ci f.op, ci f.n, .slice A f.kids.length c0], .blk g3 34 u.cells, .blk g4 32 [.int .i64 (0), .int .i64 (0)]]) ?_ ?_
  ·refine go 5 ?_
   refine sxb 23 rfl (fun h23 p23 => ?_) (fun h23 p23 => ?_)
   ·refine go 13 ?_
    exact q_cut ⟨rfl, rfl, rfl, rfl, rfl, rfl, rfl, (congrArg (fun b => some (Value.bool b)) (by simp only [useIv, Bool.not_not, h17, h23, bS])), trivial⟩ rfl rfl
   ·refine go 7 ?_
    refine sxb 30 rfl (fun h30 p30 => ?_) (fun h30 p30 => ?_)
    ·refine go 6 ?_
     exact q_cut ⟨rfl, rfl, rfl, rfl, rfl, rfl, rfl, (congrArg (fun b => some (Value.bool b)) (by simp only [useIv, Bool.not_not, h17, h23, h30, bS])), trivial⟩ rfl rfl
    ·refine go 6 ?_
     exact q_cut ⟨rfl, rfl, rfl, rfl, rfl, rfl, rfl, (congrArg (fun b => some (Value.bool b)) (by simp only [useIv, Bool.not_not, h17, h23, h30, bS])), trivial⟩ rfl rfl
  ·refine cb rfl (fun h34 p34 => ?_) (fun h34 p34 => ?_)
   ·refine go 3 ?_
    refine o_val rfl (v_build (pl := [(0, 1), (1, 1)]) he he rfl rfl) ?_
    refine go 1 ?_
    refine bring3 ?_
    refine o_stw _ he rfl rfl rfl rfl rfl rfl ?_
    refine go 8 ?_
    refine fin1 rfl ⟨_, _, _, rfl, m0, .inr ⟨_, he, rfl, rfl⟩⟩ ?_
    exact q_vI (by rw [dam_no (use_no hlt (by simpa using h34))]; rfl)
   ·refine go 8 ?_
    refine sx_drop ?_
    exact q_next (i + 1) ⟨by omega, allP_succ (f := fun _ q => useIv q) hn (show i < [u.km, u.cycles, u.load].length from hlt) (by simpa using h34)⟩ (by omega) rfl sb rfl
 ·have e : i = 3 := (by simp at p17; omega)
  subst e
  have hu : useOk u = true := use_yes hn
  refine go 10 ?_
  refine o_callV (fmValid _ f _ hr) rfl rfl ?_
  refine go 3 ?_
  refine cb rfl (fun h39 p39 => ?_) (fun h39 p39 => ?_)
  ·refine go 3 ?_
   refine o_val rfl (v_build (pl := [(0, 1), (1, 1)]) he he rfl rfl) ?_
   refine go 1 ?_
   refine bring2 ?_
   refine o_stw _ he rfl rfl rfl rfl rfl rfl ?_
   refine go 4 ?_
   refine fin1 rfl ⟨_, _, _, rfl, m0, .inr ⟨_, he, rfl, rfl⟩⟩ ?_
   exact q_vI (by rw [dam_bad hu (by simpa using h39)]; rfl)
  ·have hv : validFm f = true := by simpa using h39
   refine go 6 ?_
   refine o_val rfl (v_build (pl := [(0, 6)]) he he rfl rfl) ?_
   refine o_v rfl (v_iface T.stk_80 rfl) ?_
   refine go 2 ?_
   refine o_callV (fmRun _ u hu f _ hr (by simp only [validFm, Bool.and_eq_true] at hv; exact hv.2)) rfl rfl ?_
   refine go 1 ?_
   refine o_alloc he rfl (fun g7 => ?_)
   refine go 1 ?_
   refine o_stw _ he rfl rfl rfl rfl rfl rfl ?_
   refine go 6 ?_
   refine o_v rfl (OV.cast (u := .int .i64 (max 0 (spanF u f).low)) (v_imax rfl rfl) (congrArg (Value.int .i64) (by omega))) ?_
   refine go 2 ?_
   refine o_v rfl (OV.cast (u := .int .i64 (max 0 (spanF u f).high)) (v_imax rfl rfl) (congrArg (Value.int .i64) (by omega))) ?_
   refine go 1 ?_
   refine o_val rfl (v_build (pl := [(0, 1), (1, 1)]) he he rfl rfl) ?_
   refine go 1 ?_
   refine bring3 ?_
   refine o_stw _ he rfl rfl rfl rfl rfl rfl ?_
   refine go 3 ?_
   refine fin1 rfl ⟨_, _, _, rfl, m0, .inr ⟨_, he, rfl, rfl⟩⟩ ?_
   exact q_vI (by rw [dam_yes hu hv]; rfl)

end Go.Proofs.YthcefohbbfjjfaaGreat

/- The laws of lives, in plain Lean. -/
set_option linter.all false
namespace Go.Sx
open Go
section
variable {c : List Kind} {f : Fm} {st : List Part} {p : Part} {e : Evt} {d : Ivl} {l : List Evt}
theorem sortF_snoc (h : ∀ x ∈ l, x.day ≤ e.day) : sortF (l ++ [e]) = sortF l ++ [e] := by
  refine sortF_of ?_ fun q => ?_
  · rw [Srtd, List.pairwise_append]
    refine ⟨sortF_srt _, by simp, fun x hx y hy => ?_⟩
    rw [List.mem_singleton.1 hy]
    exact h x (sortF_mem.1 hx)
  · rw [List.filter_append, List.filter_append, sortF_filter]
theorem goL_app_ok : ∀ (a b : List Evt) (s : List Part) (i : Int), (runLGo f c s i a).2.2 = 0 → runLGo f c s i (a ++ b) = runLGo f c (runLGo f c s i a).1 (i + (a.length : Nat)) b
  | [], b, s, i, _ => by simp [runLGo]
  | x :: r, b, s, i, h => by
    simp only [runLGo, List.cons_append] at h ⊢
    split at h
    · rename_i h0
      rw [if_pos h0, if_pos h0, goL_app_ok r b _ _ h]
      congr 1
      simp only [List.length_cons]; omega
    · rename_i h0
      exact absurd h h0
theorem goL_app_err : ∀ (a b : List Evt) (s : List Part) (i : Int), (runLGo f c s i a).2.2 ≠ 0 → runLGo f c s i (a ++ b) = runLGo f c s i a
  | [], b, s, i, h => absurd rfl h
  | x :: r, b, s, i, h => by
    simp only [runLGo, List.cons_append] at h ⊢
    split at h
    · rename_i h0
      rw [if_pos h0, if_pos h0, goL_app_err r b _ _ h]
    · rename_i h0
      rw [if_neg h0, if_neg h0]
theorem both_some {a b : Bool} (h : ¬ (!a || !b) = true) : a = true ∧ b = true := by cases a <;> cases b <;> simp_all
theorem apply_inc (h : (applyF c st e).2 = 0) : Inc Part.name st ∧ st.length ≤ 20000 := by
  unfold applyF at h
  split at h
  · cases h
  · rename_i h2
    have : validS c st = true ∧ validE e = true := by simpa using h2
    have h3 := validS_ord this.1
    exact ⟨inc_of h3.1, h3.2⟩
/-- a run changes nothing in the fleet -/
theorem apply_run (h : (applyF c st e).2 = 0) (h4 : e.op = 4) : (applyF c st e).1 = st := by
  have hi := (apply_inc h).1
  unfold applyF at h ⊢
  split at h
  · cases h
  · rename_i h0
    rw [if_neg h0, if_neg (by omega)] at *
    unfold applyRest at h ⊢
    split at h
    · cases h
    · rename_i h1
      rw [if_neg h1]
      split at h
      · cases h
      · rename_i h2
        rw [if_neg h2]
        have hm : partP st e ∈ st := partP_mem (both_some h1).1
        unfold applyOp at h ⊢
        rw [if_neg (by omega), if_neg (by omega), if_pos h4] at *
        unfold applyRun at h ⊢
        split at h
        · cases h
        · rename_i h3
          rw [if_neg h3]
          exact put_same hi hm
/-- the state after one more event at the end -/
theorem runL_snoc (hd : e.day ≤ 40000) (hl : ∀ x ∈ l.filter (fun x => !decide (x.day > 40000)), x.day ≤ e.day) (h : (runL f c l 40000).2.2 = 0) :
    runL f c (l ++ [e]) 40000 = runLGo f c (runL f c l 40000).1 ((l.filter fun x => !decide (x.day > 40000)).length : Nat) [e] := by
  unfold runL at h ⊢
  split at h
  · cases h
  · rename_i hv
    rw [if_neg hv, if_neg hv]
    rw [List.filter_append, show [e].filter (fun x => !decide (x.day > 40000)) = [e] by simp; omega, sortF_snoc hl, goL_app_ok _ _ _ _ h, sortF_len]
    congr 1
    omega
/-- LifeRuns: what a run at the end adds -/
theorem life_runs (h4 : e.op = 4) (hd : e.day = 40000) (ha : (runL f c l 40000).2.2 = 0) (hb : (runL f c (l ++ [e]) 40000).2.2 = 0) :
    (runL f c (l ++ [e]) 40000).1 = useL (runL f c l 40000).1 e (damF f e.use) := by
  have hl : ∀ x ∈ l.filter (fun x => !decide (x.day > 40000)), x.day ≤ e.day := fun x hx => by
    have h := (List.mem_filter.1 hx).2
    have : ¬ x.day > 40000 := by simpa using h
    omega
  rw [runL_snoc (by omega) hl ha] at hb ⊢
  simp only [runLGo] at hb ⊢
  split at hb
  · rename_i h0
    rw [if_pos h0]
    rw [applyL_code] at h0
    have h1 := apply_run h0 h4
    unfold applyL
    rw [if_pos ⟨h0, h4⟩, h1]
  · rename_i h0
    exact absurd hb h0
/-- an event that is no run: whose life is what -/
theorem apply_life (h : (applyF c st e).2 = 0) (h4 : e.op ≠ 4) : st.length ≤ (applyF c st e).1.length ∧ ∀ q ∈ (applyF c st e).1,
    q.life = if (findP st q.name).isSome = false ∨ (e.op = 5 ∧ e.part = q.name) then zLife else ((findP st q.name).getD zPart).life := by
  have hi := (apply_inc h).1
  have hself : ∀ q ∈ st, findP st q.name = some q := fun q hq => find_inc (nm := Part.name) hi hq
  have hput : ∀ r : Part, (r.life = if (findP st r.name).isSome = false ∨ (e.op = 5 ∧ e.part = r.name) then zLife else ((findP st r.name).getD zPart).life) → (e.op = 5 → e.part = r.name) →
      st.length ≤ (putR st r).1.length ∧ ∀ q ∈ (putR st r).1, q.life = if (findP st q.name).isSome = false ∨ (e.op = 5 ∧ e.part = q.name) then zLife else ((findP st q.name).getD zPart).life := fun r hr h5 => by
    refine ⟨?_, fun q hq => ?_⟩
    · show st.length ≤ (putL Part.name st r).length
      rw [put_len hi]; split <;> omega
    · rcases (put_mem hi).1 hq with rfl | ⟨hq, hn⟩
      · exact hr
      · have hf := hself q hq
        rw [hf]
        rw [if_neg (by rintro (h | ⟨h1, h2⟩); · cases h
                       · exact hn (by rw [← h2, h5 h1]))]
        rfl
  unfold applyF at h ⊢
  split at h
  · cases h
  rename_i hv
  rw [if_neg hv]
  split at h
  · rename_i h1
    rw [if_pos h1]
    unfold applyMake at h ⊢
    split at h
    · cases h
    rename_i h2
    rw [if_neg h2]
    split at h
    · cases h
    rename_i h3
    rw [if_neg h3]
    split at h
    · cases h
    rename_i h5
    rw [if_neg h5]
    refine hput (newP e) ?_ (fun h6 => by omega)
    rw [if_pos (.inl (show (findP st e.part).isSome = false by simpa using h2))]; rfl
  · rename_i h1
    rw [if_neg h1]
    unfold applyRest at h ⊢
    split at h
    · cases h
    rename_i h2
    rw [if_neg h2]
    have hsome : (findP st e.part).isSome = true := (both_some h2).1
    obtain ⟨p0, hp0⟩ := Option.isSome_iff_exists.1 hsome
    have hP : partP st e = p0 := by unfold partP; rw [hp0]; rfl
    have hn : p0.name = e.part := by
      have := List.find?_some hp0
      simpa using this
    have key : ∀ r : Part, r.name = p0.name → r.life = p0.life → e.op ≠ 5 → st.length ≤ (putR st r).1.length ∧ ∀ q ∈ (putR st r).1, q.life = if (findP st q.name).isSome = false ∨ (e.op = 5 ∧ e.part = q.name) then zLife else ((findP st q.name).getD zPart).life := fun r hr hlf h5 => by
      refine hput r ?_ (fun h6 => absurd h6 h5)
      rw [hr, hn, hp0, if_neg (by rintro (h | h); · cases h
                                  · exact h5 h.1)]
      exact hlf
    rw [hP] at h ⊢
    split at h
    · cases h
    rename_i h3
    rw [if_neg h3]
    unfold applyOp at h ⊢
    split at h
    · rename_i h5
      rw [if_pos h5]
      unfold applyFit at h ⊢
      split at h
      · cases h
      rename_i h6
      rw [if_neg h6]
      split at h
      · cases h
      rename_i h7
      rw [if_neg h7]
      split at h
      · cases h
      rename_i h8
      rw [if_neg h8]
      exact key _ rfl rfl (by omega)
    rename_i h5
    rw [if_neg h5]
    split at h
    · rename_i h6
      rw [if_pos h6]
      unfold applyRemove at h ⊢
      split at h
      · cases h
      rename_i h7
      rw [if_neg h7]
      exact key _ rfl rfl (by omega)
    rename_i h6
    rw [if_neg h6, if_neg h4]
    split at h
    · rename_i h7
      rw [if_pos h7]
      refine hput (overhauled e p0) ?_ (fun _ => hn.symm)
      rw [if_pos (.inr ⟨h7, hn.symm⟩)]; rfl
    rename_i h7
    rw [if_neg h7]
    split at h
    · rename_i h8
      rw [if_pos h8]
      unfold applyNote at h ⊢
      split at h
      · cases h
      rename_i h9
      rw [if_neg h9]
      exact key _ rfl rfl h7
    rename_i h8
    rw [if_neg h8]
    split at h
    · rename_i h9
      rw [if_pos h9]
      unfold applyScrap at h ⊢
      split at h
      · cases h
      rename_i h10
      rw [if_neg h10]
      exact key _ rfl rfl h7
    · rename_i h9
      rw [if_neg h9]
      exact key _ rfl rfl h7
end
end Go.Sx

/- Going through a map of the call's own, in whatever order; taking keys out of it. -/
set_option linter.all false
namespace Go.Sx
open Go
open Go.ChangeMaps (setBlock)
/-- how far a range over a map is -/
structure ItS where
  es : Array MapEntry
  clock : Nat
  seen : Array Nat
def ItS.it (S : ItS) (m : Nat) : Obj := .mapIter (some m) S.clock S.seen S.clock
def ItS.mp (S : ItS) : Obj := .map S.es S.clock
structure ItS.Ok {κ : Type} (enc : κ → Value) (kvs : List (κ × Value)) (S : ItS) : Prop where
  all : S.es.toList.map (fun e => (e.key, e.val)) = emap enc kvs
  nd : (S.es.toList.map (·.born)).Nodup
  old : ∀ e ∈ S.es.toList, e.born < S.clock
/-- what is still to come -/
def ItS.Todo {κ : Type} (enc : κ → Value) (todo : List (κ × Value)) (S : ItS) : Prop := (leftOf S.es S.seen).toList.map (fun e => (e.key, e.val)) = emap enc todo
/-- what has just come -/
def ItS.At {κ : Type} (enc : κ → Value) (p : κ × Value) (S : ItS) : Prop := ∃ (e : MapEntry) (seen0 : Array Nat), S.seen = seen0.push e.born ∧ e ∈ S.es.toList ∧ e.key = enc p.1 ∧ e.val = p.2
/-- one step -/
inductive ItS.Step {κ : Type} (enc : κ → Value) (kvs todo : List (κ × Value)) (S : ItS) : Option (κ × Value) → ItS → List (κ × Value) → Prop
  | over (h : todo = []) : ItS.Step enc kvs todo S none S todo
  | come (p : κ × Value) (a b : List (κ × Value)) (S' : ItS) (h : todo = a ++ p :: b) (h1 : S'.Ok enc kvs) (h2 : S'.Todo enc (a ++ b)) (h3 : S'.At enc p) : ItS.Step enc kvs todo S (some p) S' (a ++ b)
def nextA {κ : Type} (enc : κ → Value) : Option (κ × Value) → Array Value
  | none => #[.bool false]
  | some p => #[.bool true, enc p.1, p.2]
theorem nextA_0 {κ : Type} (enc : κ → Value) (q : Option (κ × Value)) : (nextA enc q)[0]? = some (.bool q.isSome) := by cases q <;> rfl
theorem emap_mid {κ : Type} {enc : κ → Value} {x : Value × Value} : ∀ {l a b : List (Value × Value)} {todo : List (κ × Value)}, l = emap enc todo → l = a ++ x :: b → ∃ (p : κ × Value) (a' b' : List (κ × Value)), todo = a' ++ p :: b' ∧ emap enc a' = a ∧ emap enc b' = b ∧ (enc p.1, p.2) = x
  | _, a, b, todo, rfl, h => by
    have h1 : todo.map (fun p => (enc p.1, p.2)) = a ++ x :: b := h
    obtain ⟨a', c', rfl, h2, h3⟩ := List.map_eq_append_iff.1 h1
    obtain ⟨p, b', rfl, h4, h5⟩ := List.map_eq_cons_iff.1 h3
    exact ⟨p, a', b', rfl, h2, h5, h4⟩
section
variable {P : Program} {ρ : Option Nat} {n : Sz} {E : Ent} {I : IMap} {L : LL} {H : List Res} {Q : Exit → Act → World → Prop} {ops : Array Oper} {K : Act → World → Prop}
variable {d ty : Nat} {pos : String} {af : Array Edge} {x y : Operand} {κ : Type} [DecidableEq κ] {enc : κ → Value} {kvs todo : List (κ × Value)} {S : ItS} {m r : Nat}
theorem sx_openmap (h : ∀ S : ItS, S.Ok enc kvs → S.Todo enc kvs → S.seen = #[] → SX n E I L (.any m S.mp :: H) K) : SX n E I L (.mp m (emap enc kvs) :: H) K := by
  intro a w s mm
  obtain ⟨entries, clock, h1, h2, h3, h4⟩ := mm.mp (List.mem_cons_self ..)
  refine h ⟨entries, clock, #[]⟩ ⟨h2, h3, h4⟩ ?_ rfl a w s (mm.step rfl rfl rfl (Nat.le_refl _) (fun _ _ _ => rfl) h1 (fun g hg => .inl hg))
  unfold ItS.Todo leftOf
  rw [show (entries.filter fun e => !(#[] : Array Nat).contains e.born) = entries from Array.filter_eq_self.2 (fun x hx => by simp)]
  exact h2
theorem sx_shutmap (hO : S.Ok enc kvs) (h : SX n E I L (.mp m (emap enc kvs) :: H) K) : SX n E I L (.any m S.mp :: H) K := by
  intro a w s mm
  refine h a w s (mm.step rfl rfl rfl (Nat.le_refl _) (fun _ _ _ => rfl) ⟨S.mp, mm.holds _ (List.mem_cons_self ..), S.es, S.clock, rfl, hO.all, hO.nd, hO.old⟩ (fun g hg => .inl hg))
theorem o_range {mt kt et : Nat} (hS : S.seen = #[]) (ht : P.underlying mt = some (.map kt et)) (hx : ev L x = some (.map (some m))) (hd : Nat.blt d n.sz = true)
    (k : ∀ r, SX n E I ((d, .pointer (some ⟨r, 0, none⟩)) :: L) (.any r (S.it m) :: .any m S.mp :: H) K) : SX n E I L (.any m S.mp :: H) (one P ops Q ⟨some d, .range mt x, ty, pos, af, none⟩ K) :=
  o_gen (fun r : Nat => .pointer (some ⟨r, 0, none⟩)) (fun _ => I) (fun r => .any r (S.it m) :: .any m S.mp :: H) (fun _ => True) hd
    (fun a w st mm => by
      have hb : w.heap[m]? = some (.map S.es S.clock) := mm.holds _ (List.mem_cons_self ..)
      refine ⟨w.heap.size, w.alloc (.mapIter (some m) S.clock #[] S.clock), trivial, ?_, mm.new rfl rfl rfl (by simp) (fun k hk => Below_old w _ k hk) (by show (w.alloc _).heap[w.heap.size]? = _; rw [heap_alloc_new]; simp [ItS.it, hS]) (fun g hg => by simp only [Res.foot, Option.some.injEq] at hg; omega)⟩
      simp only [execOp, st.ev hx, Sem.run_bind, run_range_map w mt kt et m S.es S.clock ht hb, Result.andThen_ok, Sem.run_pure]) fun r _ => k r
theorem Mem.setBlock {w : World} {o o' : Obj} (mm : Mem E I (.any r o :: H) w) : Mem E I (.any r o' :: H) (setBlock w r o') := by
  have hr : w.heap[r]? = some o := mm.holds _ (List.mem_cons_self ..)
  have hlt : r < w.heap.size := (Array.getElem?_eq_some_iff.1 hr).1
  refine mm.step rfl rfl rfl (by simp [ChangeMaps.setBlock]) (fun k hk hne => ?_) (by show (ChangeMaps.setBlock w r o').heap[r]? = _; simp [ChangeMaps.setBlock, hlt]) (fun g hg => .inl hg)
  have : r ≠ k := fun e => hne (by rw [← e]; rfl)
  simp [ChangeMaps.setBlock, Array.getElem?_setIfInBounds_ne this]
theorem o_next (hO : S.Ok enc kvs) (hT : S.Todo enc todo) (hx : ev L x = some (.pointer (some ⟨r, 0, none⟩))) (hd : Nat.blt d n.sz = true)
    (k : ∀ q S' todo', ItS.Step enc kvs todo S q S' todo' → SX n E I ((d, .tuple (nextA enc q)) :: L) (.any r (S'.it m) :: .any m S'.mp :: H) K) :
    SX n E I L (.any r (S.it m) :: .any m S.mp :: H) (one P ops Q ⟨some d, .next x false, ty, pos, af, none⟩ K) :=
  o_gen (α := Option (κ × Value) × ItS × List (κ × Value)) (fun z => .tuple (nextA enc z.1)) (fun _ => I) (fun z => .any r (z.2.1.it m) :: .any m z.2.1.mp :: H) (fun z => ItS.Step enc kvs todo S z.1 z.2.1 z.2.2) hd
    (fun a w st mm => by
      have hr : w.heap[r]? = some (.mapIter (some m) S.clock S.seen S.clock) := mm.holds (.any r (S.it m)) (List.mem_cons_self ..)
      have hb : w.heap[m]? = some (.map S.es S.clock) := mm.holds (.any m S.mp) (List.mem_cons_of_mem _ (List.mem_cons_self ..))
      rcases run_next_at (P := P) w ty r m S.clock S.clock S.seen S.es S.clock hr hb hO.old (Nat.le_refl _) with ⟨h0, hrun⟩ | ⟨e, he, w1, hw1, hrun⟩
      · refine ⟨(none, S, todo), w, .over ?_, by simp only [execOp, st.ev hx, Sem.run_bind, hrun, Result.andThen_ok, Sem.run_pure]; rfl, mm⟩
        have h1 : (leftOf S.es S.seen).toList = [] := List.eq_nil_of_length_eq_zero (by simpa using h0)
        unfold ItS.Todo at hT
        rw [h1] at hT
        cases todo with
        | nil => rfl
        | cons p t => simp [emap] at hT
      · have hm1 : Mem E I (.any r (S.it m) :: .any m S.mp :: H) w1 := by rcases hw1 with rfl | rfl; exact mm; exact mm.drew
        obtain ⟨l1, l2, hl⟩ := List.append_of_mem he
        have hT' := hT
        unfold ItS.Todo at hT'
        rw [hl, List.map_append, List.map_cons] at hT'
        obtain ⟨p, a', b', e1, e2, e3, e4⟩ := emap_mid hT'.symm.symm rfl
        have hmem : e ∈ S.es.toList := by
          have : e ∈ (S.es.filter fun e => !S.seen.contains e.born).toList := he
          simp at this; simpa using this.1
        have hnd : ((leftOf S.es S.seen).toList.map (·.born)).Nodup := by
          have hs : List.Sublist (leftOf S.es S.seen).toList S.es.toList := by
            unfold leftOf; rw [Array.toList_filter]; exact List.filter_sublist
          exact (hs.map _).nodup hO.nd
        have hleft : (leftOf S.es (S.seen.push e.born)).toList = l1 ++ l2 := by
          have h5 : (leftOf S.es (S.seen.push e.born)).toList = (leftOf S.es S.seen).toList.filter (fun y => !(y.born == e.born)) := by
            unfold leftOf
            rw [Array.toList_filter, Array.toList_filter, List.filter_filter]
            congr 1
            funext y
            simp only [Array.contains_push]
            cases S.seen.contains y.born <;> cases hq : (y.born == e.born) <;> simp_all
          rw [h5, hl, List.filter_append, List.filter_cons]
          rw [hl, List.map_append, List.map_cons] at hnd
          have hn := List.nodup_append.1 hnd
          have hn2 := List.nodup_cons.1 hn.2.1
          simp only [beq_self_eq_true, Bool.not_true, Bool.false_eq_true, if_false]
          congr 1
          · rw [List.filter_eq_self]
            intro y hy
            have : y.born ≠ e.born := hn.2.2 _ (List.mem_map_of_mem hy) _ (List.mem_cons_self ..)
            simpa using this
          · rw [List.filter_eq_self]
            intro y hy
            have : y.born ≠ e.born := fun h => hn2.1 (by rw [← h]; exact List.mem_map_of_mem hy)
            simpa using this
        refine ⟨(some p, ⟨S.es, S.clock, S.seen.push e.born⟩, a' ++ b'), setBlock w1 r (.mapIter (some m) S.clock (S.seen.push e.born) S.clock), .come p a' b' ⟨S.es, S.clock, S.seen.push e.born⟩ e1 ⟨hO.all, hO.nd, hO.old⟩ ?_ ⟨e, S.seen, rfl, hmem, ?_, ?_⟩, ?_, ?_⟩
        · show (leftOf S.es (S.seen.push e.born)).toList.map _ = _
          rw [hleft, List.map_append, emap, List.map_append]
          rw [← e2, ← e3]; rfl
        · exact (congrArg Prod.fst e4).symm
        · exact (congrArg Prod.snd e4).symm
        · simp only [execOp, st.ev hx, Sem.run_bind, hrun, Result.andThen_ok, Sem.run_pure]
          rw [show e.key = enc p.1 from (congrArg Prod.fst e4).symm, show e.val = p.2 from (congrArg Prod.snd e4).symm]; rfl
        · exact Mem.setBlock hm1)
    fun z hz => k z.1 z.2.1 z.2.2 hz
theorem v_entry {p : κ × Value} (h1 : Res.any r (S.it m) ∈ H) (h2 : Res.any m S.mp ∈ H) (hO : S.Ok enc kvs) (hA : S.At enc p) (hx : ev L x = some (.pointer (some ⟨r, 0, none⟩))) : OV P n E I L H ⟨some d, .entry x, ty, pos, af, none⟩ (.tuple #[enc p.1, p.2]) := fun a w st mm => by
  obtain ⟨e, seen0, hs, he, hk, hv⟩ := hA
  have hr : w.heap[r]? = some (.mapIter (some m) S.clock (seen0.push e.born) S.clock) := by
    have := mm.holds _ h1
    rw [← hs]; exact this
  have hb : w.heap[m]? = some (.map S.es S.clock) := mm.holds _ h2
  simp only [execOp, st.ev hx, Sem.run_bind, run_entry_at w r m S.clock seen0 S.es S.clock e hr hb he hO.nd, Result.andThen_ok, Sem.run_pure, hk, hv]
/-- without the first entry of a key -/
def mdel {κ : Type} [DecidableEq κ] : List (κ × Value) → κ → List (κ × Value)
  | [], _ => []
  | (k', v) :: r, k => if k' = k then r else (k', v) :: mdel r k
theorem mdel_none {kvs : List (κ × Value)} {k : κ} : ∀ {i}, mfind kvs k i = none → mdel kvs k = kvs := by
  induction kvs with
  | nil => intro i _; rfl
  | cons p r ih =>
    obtain ⟨k', u⟩ := p
    intro i h
    simp only [mfind] at h
    split at h
    · cases h
    · rename_i hne; simp only [mdel, if_neg hne, ih h]
theorem mdel_some {kvs : List (κ × Value)} {k : κ} : ∀ {i j u}, mfind kvs k i = some (j, u) → i ≤ j ∧ j - i < kvs.length ∧ mdel kvs k = kvs.eraseIdx (j - i) := by
  induction kvs with
  | nil => intro i j u h; cases h
  | cons p r ih =>
    obtain ⟨k', u'⟩ := p
    intro i j u h
    simp only [mfind] at h
    split at h
    · rename_i he
      simp only [Option.some.injEq, Prod.mk.injEq] at h
      obtain ⟨rfl, rfl⟩ := h
      exact ⟨Nat.le_refl _, by simp, by simp [mdel, he]⟩
    · rename_i hne
      obtain ⟨h1, h2, h3⟩ := ih h
      refine ⟨by omega, by simp only [List.length_cons]; omega, ?_⟩
      rw [show j - i = (j - (i + 1)) + 1 from by omega, List.eraseIdx_cons_succ, mdel, if_neg hne, h3]
theorem mdel_filter : ∀ {kvs : List (κ × Value)} {k : κ}, (kvs.map Prod.fst).Nodup → mdel kvs k = kvs.filter (fun p => !decide (p.1 = k))
  | [], k, _ => rfl
  | (k', v) :: r, k, h => by
    rw [List.map_cons, List.nodup_cons] at h
    simp only [mdel, List.filter_cons]
    split
    · rename_i he
      subst he
      simp only [decide_true, Bool.not_true, Bool.false_eq_true, if_false]
      refine (List.filter_eq_self.2 fun p hp => ?_).symm
      have : p.1 ≠ k' := fun e => by
        have h9 : p.1 ∈ r.map Prod.fst := List.mem_map_of_mem (f := Prod.fst) hp
        rw [e] at h9
        exact h.1 h9
      simpa using this
    · rename_i hne
      simp only [hne, decide_false, Bool.not_false, if_true]
      rw [mdel_filter h.2]
/-- delete(m, k) -/
theorem o_mapDel {mt kt et : Nat} {ats : List TypeId} (hK : KeyOK P kt enc) (ht : P.underlying mt = some (.map kt et)) (key : κ) (hx : ev L x = some (.map (some m))) (hy : ev L y = some (enc key))
    (k : SX n E I L (.mp m (emap enc (mdel kvs key)) :: H) K) : SX n E I L (.mp m (emap enc kvs) :: H) (one P ops Q ⟨none, .call { callee := .builtin .delete, args := #[x, y], argTypes := (mt :: ats).toArray }, ty, pos, af, none⟩ K) := by
  intro a w st mm
  unfold one
  rw [if_pos (by rfl)]
  obtain ⟨entries, clock, h1, h2, h3, h4⟩ := mm.mp (List.mem_cons_self ..)
  have hlt : m < w.heap.size := (Array.getElem?_eq_some_iff.1 h1).1
  have hf := hK.find w key entries.toList kvs h2
  have hset : ∀ o : Obj, (setObj m o).run P w = .ok () { w with heap := w.heap.setIfInBounds m o } := fun o => by simp [setObj, Sem.run, h1]
  have hnew : ∀ o : Obj, ({ w with heap := w.heap.setIfInBounds m o } : World).heap[m]? = some o := fun o => by simp [hlt]
  have hstep : ∀ (o : Obj), MapIs o (emap enc (mdel kvs key)) → Mem E I (.mp m (emap enc (mdel kvs key)) :: H) { w with heap := w.heap.setIfInBounds m o } := fun o ho =>
    mm.step rfl rfl rfl (by simp) (fun k hk hne => by
      have : m ≠ k := fun e => hne (by rw [← e]; rfl)
      simp [Array.getElem?_setIfInBounds_ne this]) ⟨o, hnew o, ho⟩ (fun g hg => .inl hg)
  have key0 : ∃ o, MapIs o (emap enc (mdel kvs key)) ∧ (execOp a.eval ⟨none, .call { callee := .builtin .delete, args := #[x, y], argTypes := (mt :: ats).toArray }, ty, pos, af, none⟩).run P w = .ok (.value (.tuple #[])) { w with heap := w.heap.setIfInBounds m o } := by
    cases hm : mfind kvs key 0 with
    | none =>
      refine ⟨.map entries clock, ⟨_, _, rfl, by rw [mdel_none hm]; exact h2, h3, h4⟩, ?_⟩
      simp [execOp, resolve, invoke, builtin, st.ev hx, st.ev hy, Builtin.delete_, run_underlying ht, run_getMap h1, hK.check, hf, hm, hset]
    | some q =>
      obtain ⟨j, u⟩ := q
      obtain ⟨_, hj, hp⟩ := mdel_some hm
      simp only [Nat.sub_zero] at hj hp
      have hsub : List.Sublist (entries.eraseIdxIfInBounds j).toList entries.toList := by
        rw [Array.toList_eraseIdxIfInBounds]; exact List.eraseIdx_sublist _ _
      refine ⟨.map (entries.eraseIdxIfInBounds j) clock, ⟨_, _, rfl, ?_, (hsub.map _).nodup h3, fun e he => h4 e (hsub.subset he)⟩, ?_⟩
      · have hem : ∀ {α β : Type} (l : List α) (f : α → β) (i : Nat), (l.eraseIdx i).map f = (l.map f).eraseIdx i := fun l f i => by
          rw [List.eraseIdx_eq_take_drop_succ, List.eraseIdx_eq_take_drop_succ]; simp
        rw [Array.toList_eraseIdxIfInBounds, hem, h2, hp, emap, emap, hem]
      · simp [execOp, resolve, invoke, builtin, st.ev hx, st.ev hy, Builtin.delete_, run_underlying ht, run_getMap h1, hK.check, hf, hm, hset]
  obtain ⟨o, ho, hr⟩ := key0
  rw [wq_value hr]
  exact k _ _ st (hstep o ho)
end
end Go.Sx

/- What is inside a part: found in rounds, from above. -/
set_option linter.all false
namespace Go.Sx
open Go
abbrev NU := ByteArray × ByteArray
def encNU (R : List NU) : List (ByteArray × Value) := R.map fun p => (p.1, Value.string p.2)
theorem encNU_fst (R : List NU) : (encNU R).map Prod.fst = R.map Prod.fst := by simp [encNU]
theorem mput_new : ∀ {kvs : List (ByteArray × Value)} {k : ByteArray} {v : Value}, k ∉ kvs.map Prod.fst → mput kvs k v = kvs ++ [(k, v)]
  | [], _, _, _ => rfl
  | (k', u) :: r, k, v, h => by
    simp only [List.map_cons, List.mem_cons, not_or] at h
    have hne : ¬ k' = k := fun e => h.1 (e ▸ rfl)
    simp only [mput, if_neg hne, mput_new h.2, List.cons_append]
theorem encNU_put {R : List NU} {k u : ByteArray} (h : k ∉ R.map Prod.fst) : mput (encNU R) k (.string u) = encNU (R ++ [(k, u)]) := by
  rw [mput_new (by rw [encNU_fst]; exact h)]; simp [encNU]
theorem encNU_del {R : List NU} {k : ByteArray} (h : (R.map Prod.fst).Nodup) : mdel (encNU R) k = encNU (R.filter fun p => !decide (p.1 = k)) := by
  rw [mdel_filter (by rw [encNU_fst]; exact h)]
  unfold encNU
  rw [List.filter_map]; rfl
theorem mget_mem : ∀ {kvs : List (ByteArray × Value)} {k : ByteArray} {v : Value}, (kvs.map Prod.fst).Nodup → (k, v) ∈ kvs → mget kvs k = some v
  | (k', u) :: r, k, v, hn, h => by
    rw [List.map_cons, List.nodup_cons] at hn
    simp only [mget]
    rcases List.mem_cons.1 h with h | h
    · cases h; simp
    · have : k' ≠ k := fun e => by
        have h9 : k ∈ r.map Prod.fst := List.mem_map_of_mem (f := Prod.fst) h
        rw [← e] at h9
        exact hn.1 h9
      rw [if_neg this]; exact mget_mem hn.2 h
theorem mget_has : ∀ {kvs : List (ByteArray × Value)} {k : ByteArray} {v : Value}, mget kvs k = some v → k ∈ kvs.map Prod.fst
  | (k', u) :: r, k, v, h => by
    simp only [mget] at h
    split at h
    · rename_i e; simp [e]
    · simp [mget_has h]
/-- an entry of the index -/
theorem Ix.mem {kvs : List (ByteArray × Value)} {l : List Part} {k : ByteArray} {v : Value} (h : Ix kvs l) (hn : (kvs.map Prod.fst).Nodup) (hp : (k, v) ∈ kvs) : ∃ (i : Nat) (hi : i < l.length), v = ci (i : Nat) ∧ findP l k = some l[i] := by
  have h1 := mget_mem hn hp
  rw [h k] at h1
  cases hf : l.findIdx? (fun p => decide (p.name = k)) with
  | none => rw [hf] at h1; cases h1
  | some i =>
    rw [hf] at h1
    simp only [Option.map_some, Option.some.injEq] at h1
    rw [List.findIdx?_eq_some_iff_getElem] at hf
    obtain ⟨hi, hq, hb⟩ := hf
    refine ⟨i, hi, h1.symm, ?_⟩
    rw [findP, List.find?_eq_some_iff_getElem]
    exact ⟨hq, i, hi, rfl, fun j hj => by simpa using hb j hj⟩
theorem Ix.has {kvs : List (ByteArray × Value)} {l : List Part} {k : ByteArray} (h : Ix kvs l) (hs : (findP l k).isSome = true) : k ∈ kvs.map Prod.fst := by
  have h1 := h k
  cases hf : l.findIdx? (fun p => decide (p.name = k)) with
  | none =>
    exfalso
    rw [List.findIdx?_eq_none_iff] at hf
    obtain ⟨p, hp⟩ := Option.isSome_iff_exists.1 hs
    have h2 := List.mem_of_find?_eq_some hp
    have h3 := List.find?_some hp
    rw [hf p h2] at h3; cases h3
  | some i => rw [hf] at h1; exact mget_has h1
theorem up_some {l : List Part} {n : ByteArray} (h : upP l n ≠ nil8) : (findP l n).isSome = true := by
  unfold upP at h
  cases hf : findP l n with
  | none => rw [hf] at h; exact absurd rfl h
  | some p => rfl
/-- the fitted parts among some names -/
def fillR (l : List Part) (ks : List ByteArray) : List NU := (ks.filter fun n => !decide (upP l n = nil8)).map fun n => (n, upP l n)
section
variable {l : List Part} {v : ByteArray} {R : List NU} {lst out more : List ByteArray} {kvs todo done : List (ByteArray × Value)}
theorem fill_yes {ks : List ByteArray} {n : ByteArray} (h : upP l n ≠ nil8) : fillR l (ks ++ [n]) = fillR l ks ++ [(n, upP l n)] := by simp [fillR, h]
theorem fill_no {ks : List ByteArray} {n : ByteArray} (h : upP l n = nil8) : fillR l (ks ++ [n]) = fillR l ks := by simp [fillR, h]
theorem fill_fst (ks : List ByteArray) : (fillR l ks).map Prod.fst = ks.filter fun n => !decide (upP l n = nil8) := by unfold fillR; rw [List.map_map]; exact List.map_id _
theorem fill_mem {ks : List ByteArray} {n u : ByteArray} : (n, u) ∈ fillR l ks ↔ n ∈ ks ∧ upP l n = u ∧ u ≠ nil8 := by
  unfold fillR
  rw [List.mem_map]
  constructor
  · rintro ⟨m, hm, e⟩
    cases e
    have := List.mem_filter.1 hm
    exact ⟨this.1, rfl, by simpa using this.2⟩
  · rintro ⟨h1, rfl, h2⟩
    exact ⟨n, List.mem_filter.2 ⟨h1, by simpa using h2⟩, rfl⟩
/-- so many parts are fitted -/
def fitN (l : List Part) : Nat := (l.filter fun p => !decide (p.into = nil8)).length
theorem fill_len {ks : List ByteArray} (hn : ks.Nodup) : (fillR l ks).length ≤ fitN l := by
  unfold fillR fitN
  rw [List.length_map, show (l.filter fun p => !decide (p.into = nil8)).length = ((l.filter fun p => !decide (p.into = nil8)).map Part.name).length from (List.length_map _).symm]
  refine List.Nodup.length_le_of_subset (List.filter_sublist.nodup hn) fun n hm => ?_
  have h1 := (List.mem_filter.1 hm).2
  have h2 : upP l n ≠ nil8 := by simpa using h1
  obtain ⟨p, hp⟩ := Option.isSome_iff_exists.1 (up_some h2)
  have hpn : p.name = n := by simpa using List.find?_some hp
  refine List.mem_map.2 ⟨p, List.mem_filter.2 ⟨List.mem_of_find?_eq_some hp, ?_⟩, hpn⟩
  unfold upP at h2
  rw [hp] at h2
  simpa using h2
/-- the rounds -/
structure Bfs (l : List Part) (v : ByteArray) (R : List NU) (lst out : List ByteArray) : Prop where
  kn : (R.map Prod.fst).Nodup
  rest : ∀ n u, (n, u) ∈ R ↔ (upP l n = u ∧ u ≠ nil8) ∧ n ≠ v ∧ n ∉ out
  ins : ∀ n ∈ out, InsP l v n
  lst' : ∀ x ∈ lst, x = v ∨ x ∈ out
  proc : ∀ x, (x = v ∨ x ∈ out) → x ∉ lst → ∀ n, (n, x) ∉ R
  len : out.length + R.length ≤ fitN l
theorem Bfs.start (hx : Ix kvs l) (hn : (kvs.map Prod.fst).Nodup) (hd : done.Perm kvs) : Bfs l v ((fillR l (done.map Prod.fst)).filter fun p => !decide (p.1 = v)) [v] [] := by
  have hdn : (done.map Prod.fst).Nodup := ((hd.map _).nodup_iff).2 hn
  have hR : ∀ n u, (n, u) ∈ (fillR l (done.map Prod.fst)).filter (fun p => !decide (p.1 = v)) ↔ (upP l n = u ∧ u ≠ nil8) ∧ n ≠ v := fun n u => by
    rw [List.mem_filter, fill_mem]
    constructor
    · rintro ⟨⟨_, h2⟩, h3⟩; exact ⟨h2, by simpa using h3⟩
    · rintro ⟨⟨rfl, h2⟩, h3⟩
      refine ⟨⟨?_, rfl, h2⟩, by simpa using h3⟩
      exact (hd.map Prod.fst).mem_iff.2 (hx.has (up_some h2))
  refine ⟨?_, fun n u => by rw [hR]; simp, fun n h => (by cases h), fun x h => .inl (List.mem_singleton.1 h), fun x h hx => ?_, ?_⟩
  · have h1 : ((fillR l (done.map Prod.fst)).map Prod.fst).Nodup := by rw [fill_fst]; exact List.filter_sublist.nodup hdn
    exact (List.filter_sublist.map _).nodup h1
  · rcases h with h | h
    · exact absurd (List.mem_singleton.2 h) hx
    · cases h
  · have := fill_len (l := l) hdn
    have h2 := List.length_filter_le (fun p : NU => !decide (p.1 = v)) (fillR l (done.map Prod.fst))
    simp only [List.length_nil]; omega
/-- what a round finds -/
def nextN (lst : List ByteArray) (done : List NU) : List ByteArray := (done.filter fun p => decide (p.2 ∈ lst)).map Prod.fst
theorem nextN_yes {done : List NU} {p : NU} (h : p.2 ∈ lst) : nextN lst (done ++ [p]) = nextN lst done ++ [p.1] := by simp [nextN, h]
theorem nextN_no {done : List NU} {p : NU} (h : ¬ p.2 ∈ lst) : nextN lst (done ++ [p]) = nextN lst done := by simp [nextN, h]
theorem nextN_len (done : List NU) : (nextN lst done).length ≤ done.length := by unfold nextN; rw [List.length_map]; exact List.length_filter_le _ _
theorem nextN_mem {done : List NU} (hd : done.Perm R) {n : ByteArray} : n ∈ nextN lst done ↔ ∃ u, (n, u) ∈ R ∧ u ∈ lst := by
  unfold nextN
  rw [List.mem_map]
  constructor
  · rintro ⟨⟨m, u⟩, hp, rfl⟩
    have := List.mem_filter.1 hp
    exact ⟨u, hd.mem_iff.1 this.1, by simpa using this.2⟩
  · rintro ⟨u, h1, h2⟩
    exact ⟨(n, u), List.mem_filter.2 ⟨hd.mem_iff.2 h1, by simpa using h2⟩, rfl⟩
/-- what is left of the rest when some of the found are taken out -/
def restN (R : List NU) (more : List ByteArray) : List NU := R.filter fun p => !decide (p.1 ∈ more)
theorem restN_nil : restN R [] = R := by unfold restN; rw [List.filter_eq_self]; intro p _; simp
theorem restN_kn (h : (R.map Prod.fst).Nodup) (more : List ByteArray) : ((restN R more).map Prod.fst).Nodup := (List.filter_sublist.map _).nodup h
theorem restN_step {i : Nat} (hi : i < more.length) (h : (R.map Prod.fst).Nodup) : mdel (encNU (restN R (more.take i))) more[i] = encNU (restN R (more.take (i + 1))) := by
  rw [encNU_del (restN_kn h _)]
  unfold restN
  rw [List.filter_filter]
  congr 2
  funext p
  rw [← take_succ_of hi]
  simp only [List.mem_append, List.mem_singleton]
  by_cases h1 : p.1 = more[i] <;> by_cases h2 : p.1 ∈ more.take i <;> simp [h1, h2]
theorem kn_eq {n u u' : ByteArray} (h : (R.map Prod.fst).Nodup) (h1 : (n, u) ∈ R) (h2 : (n, u') ∈ R) : u = u' := by
  induction R with
  | nil => cases h1
  | cons p R ih =>
    rw [List.map_cons, List.nodup_cons] at h
    rcases List.mem_cons.1 h1 with h1 | h1
    · rcases List.mem_cons.1 h2 with h2 | h2
      · rw [← h1] at h2; exact (Prod.mk.inj h2).2.symm
      · exact absurd (List.mem_map_of_mem (f := Prod.fst) h2) (by rw [← h1] at h; exact h.1)
    · rcases List.mem_cons.1 h2 with h2 | h2
      · exact absurd (List.mem_map_of_mem (f := Prod.fst) h1) (by rw [← h2] at h; exact h.1)
      · exact ih h.2 h1 h2
theorem next_len {done : List NU} (hk : (R.map Prod.fst).Nodup) (hd : done.Perm R) : (nextN lst done).length + (restN R (nextN lst done)).length = R.length := by
  have h1 : (nextN lst done).length = R.countP (fun p => decide (p.2 ∈ lst)) := by
    unfold nextN
    rw [List.length_map, ← List.countP_eq_length_filter]
    exact hd.countP_eq _
  have h2 : restN R (nextN lst done) = R.filter (fun p => decide ¬ (decide (p.2 ∈ lst) = true)) := by
    unfold restN
    refine List.filter_congr fun p hp => ?_
    rw [Bool.eq_iff_iff]
    simp only [Bool.not_eq_true', decide_eq_false_iff_not, decide_eq_true_eq]
    refine not_congr ?_
    rw [nextN_mem hd]
    exact ⟨fun ⟨u, h3, h4⟩ => by rw [kn_eq hk hp h3]; exact h4, fun h => ⟨p.2, hp, h⟩⟩
  rw [h1, h2, ← List.countP_eq_length_filter]
  exact (List.length_eq_countP_add_countP (fun p : NU => decide (p.2 ∈ lst))).symm
theorem Bfs.step {done : List NU} (hv : (findP l v).isSome = true) (h : Bfs l v R lst out) (hd : done.Perm R) : Bfs l v (restN R (nextN lst done)) (nextN lst done) (out ++ nextN lst done) := by
  have hsub : ∀ {p : NU}, p ∈ restN R (nextN lst done) ↔ p ∈ R ∧ p.1 ∉ nextN lst done := fun {p} => by unfold restN; rw [List.mem_filter]; simp
  refine ⟨restN_kn h.kn _, fun n u => ?_, fun n hn => ?_, fun x hx => .inr (List.mem_append.2 (.inr hx)), fun x hx hnx n hm => ?_, ?_⟩
  · rw [hsub, h.rest, List.mem_append, not_or]
    simp only [and_assoc]
  · rcases List.mem_append.1 hn with hn | hn
    · exact h.ins n hn
    · obtain ⟨u, h1, h2⟩ := (nextN_mem hd).1 hn
      obtain ⟨⟨h3, h4⟩, h5, h6⟩ := (h.rest n u).1 h1
      have hup : upP l n ≠ nil8 := by rw [h3]; exact h4
      refine ⟨⟨hv, up_some hup, h5⟩, ?_⟩
      rcases h.lst' u h2 with rfl | hu
      · exact ⟨1, by unfold reachF; rw [h3]; simp [h4]⟩
      · obtain ⟨_, k, hk⟩ := h.ins u hu
        exact ⟨k + 1, by unfold reachF; rw [h3]; simp [h4, hk]⟩
  · obtain ⟨hm1, hm2⟩ := hsub.1 hm
    have hx' : x = v ∨ x ∈ out := by
      rcases hx with hx | hx
      · exact .inl hx
      · rcases List.mem_append.1 hx with hx | hx
        · exact .inr hx
        · exact absurd hx hnx
    by_cases hl : x ∈ lst
    · exact hm2 ((nextN_mem hd).2 ⟨x, hm1, hl⟩)
    · exact h.proc x hx' hl n hm1
  · have h1 := h.len
    have h2 := next_len (lst := lst) h.kn hd
    rw [List.length_append]; omega
theorem Bfs.over (h : Bfs l v R [] out) {n : ByteArray} : n ∈ out ↔ InsP l v n := by
  refine ⟨h.ins n, fun ⟨⟨_, hf, hnv⟩, k, hk⟩ => ?_⟩
  have key : ∀ (k : Nat) (n : ByteArray), n ≠ v → reachF l v k n = true → n ∈ out := by
    intro k
    induction k with
    | zero => intro n _ h; cases h
    | succ k ih =>
      intro n hn hr
      simp only [reachF, Bool.and_eq_true, Bool.not_eq_true', decide_eq_false_iff_not, Bool.or_eq_true, decide_eq_true_eq] at hr
      obtain ⟨h1, h2⟩ := hr
      refine Classical.byContradiction fun hc => ?_
      have hR := (h.rest n (upP l n)).2 ⟨⟨rfl, h1⟩, hn, hc⟩
      by_cases hv : upP l n = v
      · exact h.proc _ (.inl hv) (by simp) n hR
      · exact h.proc _ (.inr (ih _ hv (h2.resolve_left hv))) (by simp) n hR
  exact key k n hnv hk
theorem not_ins (h : findP l v = none) (n : ByteArray) : ¬ InsP l v n := fun ⟨⟨h1, _⟩, _⟩ => by rw [h] at h1; cases h1
end
end Go.Sx

/- Lives: what the steps of a run come to. -/
set_option linter.all false
namespace Go.Sx
open Go
section
variable {c : List Kind} {f : Fm} {st : List Part} {l L : List Evt} {p q : Part} {e : Evt} {d : Ivl} {day : Int} {i : Nat} {k : Int}
/-- parts, and those that are fitted -/
def cntS (st : List Part) : Nat := st.length + fitN st
theorem fitN_c (st : List Part) : fitN st = st.countP fun p => !decide (p.into = nil8) := by unfold fitN; rw [List.countP_eq_length_filter]
theorem fitN_set (st : List Part) (i : Nat) (p : Part) : fitN (st.set i p) ≤ fitN st + 1 := by
  rw [fitN_c, fitN_c]
  rcases Nat.lt_or_ge i st.length with h | h
  · rw [List.set_eq_take_append_cons_drop, if_pos h]
    have h2 : st.countP (fun p => !decide (p.into = nil8)) = (st.take i).countP (fun p => !decide (p.into = nil8)) + (st.drop i).countP (fun p => !decide (p.into = nil8)) := by rw [← List.countP_append, List.take_append_drop]
    have h3 : (st.drop (i + 1)).countP (fun p => !decide (p.into = nil8)) ≤ (st.drop i).countP (fun p => !decide (p.into = nil8)) := by
      rw [List.drop_eq_getElem_cons h, List.countP_cons]; omega
    rw [List.countP_append, List.countP_cons]
    split <;> omega
  · rw [List.set_eq_of_length_le h]; omega
theorem cnt_put (hi : Inc Part.name st) (h : (findP st q.name).isSome = true) : cntS (putL Part.name st q) ≤ cntS st + 1 := by
  have ha : atF Part.name st q.name = true := by rw [at_find hi]; exact h
  unfold cntS putL
  rw [if_pos ha, List.length_set]
  have := fitN_set st (posF Part.name st q.name) q
  omega
theorem cnt_new (hq : q.into = nil8) : cntS (putL Part.name st q) ≤ cntS st + 1 := by
  unfold putL
  split
  · unfold cntS
    rw [List.length_set]
    have := fitN_set st (posF Part.name st q.name) q
    omega
  · unfold cntS
    rw [fitN_c, fitN_c, List.countP_append, List.countP_cons, List.length_append, List.length_cons]
    have h2 : st.countP (fun p => !decide (p.into = nil8)) = (st.take (posF Part.name st q.name)).countP (fun p => !decide (p.into = nil8)) + (st.drop (posF Part.name st q.name)).countP (fun p => !decide (p.into = nil8)) := by rw [← List.countP_append, List.take_append_drop]
    have h3 : (st.take (posF Part.name st q.name)).length + (st.drop (posF Part.name st q.name)).length = st.length := by rw [← List.length_append, List.take_append_drop]
    simp only [hq, decide_true, Bool.not_true, Bool.false_eq_true, if_false]
    omega
/-- an event makes one part, or fits one, at most -/
theorem cnt_apply (h : (applyF c st e).2 = 0) : cntS (applyF c st e).1 ≤ cntS st + 1 := by
  have hi := (apply_inc h).1
  have hf : ∀ n, cntS (failR n).1 ≤ cntS st + 1 := fun n => by show cntS [] ≤ _; unfold cntS fitN; simp
  unfold applyF at h ⊢
  split
  · exact hf _
  · split
    · unfold applyMake
      split
      · exact hf _
      split
      · exact hf _
      split
      · exact hf _
      · exact cnt_new rfl
    · unfold applyRest
      split
      · exact hf _
      rename_i h2
      split
      · exact hf _
      have hs : (findP st e.part).isSome = true := (both_some h2).1
      obtain ⟨p0, hp0⟩ := Option.isSome_iff_exists.1 hs
      have hP : partP st e = p0 := by unfold partP; rw [hp0]; rfl
      have hn : p0.name = e.part := by simpa using List.find?_some hp0
      have hput : ∀ q : Part, q.name = p0.name → cntS (putR st q).1 ≤ cntS st + 1 := fun q hq => cnt_put hi (by rw [hq, hn]; exact hs)
      rw [hP]
      unfold applyOp applyFit applyRemove applyRun applyNote applyScrap
      repeat' split
      all_goals first
        | exact hf _
        | exact hput _ rfl
theorem cnt_use : cntS (useL st e d) = cntS st := by
  unfold cntS useL
  rw [fitN_c, fitN_c, List.length_map, List.countP_map]
  congr 1
  refine List.countP_congr fun p _ => ?_
  simp only [Function.comp]
  split <;> rfl
theorem use_sm (h : SmF st) : SmF (useL st e d) := fun p hp => by
  unfold useL at hp
  obtain ⟨q, hq, rfl⟩ := List.mem_map.1 hp
  have := h q hq
  split <;> exact this
/-- the course of lives -/
theorem runL_bad (h : (!validC c || !validFm f) = true) : runL f c l day = ([], -1, 1) := if_pos h
theorem runL_go (h : (!validC c || !validFm f) = false) : runL f c l day = runLGo f c [] 0 ((sortF (l.filter fun e => !decide (e.day > day))).drop 0) := by
  unfold runL; rw [if_neg (by rw [h]; decide)]; rfl
theorem goL_stop (hi : i < L.length) (h : ¬ (applyF c st L[i]).2 = 0) : runLGo f c st k (L.drop i) = ([], k, (applyF c st L[i]).2) := by
  rw [List.drop_eq_getElem_cons hi, runLGo, if_neg (by rw [applyL_code]; exact h), applyL_code]
theorem goL_plain (hi : i < L.length) (h : (applyF c st L[i]).2 = 0) (h4 : ¬ L[i].op = 4) : runLGo f c st k (L.drop i) = runLGo f c (applyF c st L[i]).1 (k + 1) (L.drop (i + 1)) := by
  rw [List.drop_eq_getElem_cons hi, runLGo, if_pos (by rw [applyL_code]; exact h)]
  unfold applyL
  rw [if_neg (fun hc => h4 hc.2)]
theorem goL_use (hi : i < L.length) (h : (applyF c st L[i]).2 = 0) (h4 : L[i].op = 4) : runLGo f c st k (L.drop i) = runLGo f c (useL (applyF c st L[i]).1 L[i] (damF f L[i].use)) (k + 1) (L.drop (i + 1)) := by
  rw [List.drop_eq_getElem_cons hi, runLGo, if_pos (by rw [applyL_code]; exact h)]
  unfold applyL
  rw [if_pos ⟨h, h4⟩]
theorem goL_end (hi : ¬ i < L.length) : runLGo f c st k (L.drop i) = (st, -1, 0) := by rw [List.drop_eq_nil_of_le (by omega)]; rfl
/-- up to a part -/
noncomputable def useUp (st : List Part) (e : Evt) (d : Ivl) (i : Nat) : List Part := (useL st e d).take i ++ st.drop i
theorem use_len : (useL st e d).length = st.length := by unfold useL; exact List.length_map ..
theorem useUp_len (i : Nat) : (useUp st e d i).length = st.length := by
  unfold useUp; rw [List.length_append, List.length_take, List.length_drop, use_len]; omega
theorem useUp_zero : useUp st e d 0 = st := by simp [useUp]
theorem useUp_all : useUp st e d st.length = useL st e d := by
  unfold useUp; rw [List.drop_length, List.append_nil, ← use_len (e := e) (d := d), List.take_length]
theorem useUp_at {i : Nat} (hi : i < st.length) : (useUp st e d i)[i]? = some st[i] := by
  unfold useUp
  rw [List.getElem?_append_right (by rw [List.length_take, use_len]; omega), List.length_take, use_len, Nat.min_eq_left (by omega), Nat.sub_self, List.getElem?_drop, Nat.add_zero]
  exact List.getElem?_eq_getElem hi
theorem useUp_succ {i : Nat} (hi : i < st.length) : useUp st e d (i + 1) = (useUp st e d i).set i ((useL st e d)[i]'(by rw [use_len]; exact hi)) := by
  unfold useUp
  have hl : ((useL st e d).take i).length = i := by rw [List.length_take, use_len]; omega
  rw [List.set_append_right _ _ (by omega), hl, Nat.sub_self, List.drop_eq_getElem_cons hi, List.set_cons_zero, ← take_succ_of (by rw [use_len]; exact hi), List.append_assoc]
  rfl
theorem use_yes' {i : Nat} (hi : i < st.length) {ns : List ByteArray} (hn : ∀ n, n ∈ ns ↔ InsP st e.part n) (h : st[i].name ∈ ns ++ [e.part]) : (useL st e d)[i]'(by rw [use_len]; exact hi) = addLife d e.use st[i] := by
  simp only [useL, List.getElem_map]
  rw [if_pos]
  rcases List.mem_append.1 h with h | h
  · exact .inr ((hn _).1 h)
  · exact .inl (List.mem_singleton.1 h)
theorem use_no' {i : Nat} (hi : i < st.length) {ns : List ByteArray} (hn : ∀ n, n ∈ ns ↔ InsP st e.part n) (h : ¬ st[i].name ∈ ns ++ [e.part]) : (useL st e d)[i]'(by rw [use_len]; exact hi) = st[i] := by
  simp only [useL, List.getElem_map]
  rw [if_neg]
  rintro (h1 | h1)
  · exact h (List.mem_append.2 (.inr (List.mem_singleton.2 h1)))
  · exact h (List.mem_append.2 (.inl ((hn _).2 h1)))
theorem useUp_no {i : Nat} (hi : i < st.length) {ns : List ByteArray} (hn : ∀ n, n ∈ ns ↔ InsP st e.part n) (h : ¬ st[i].name ∈ ns ++ [e.part]) : useUp st e d (i + 1) = useUp st e d i := by
  rw [useUp_succ hi, use_no' hi hn h]
  have h1 := useUp_at (e := e) (d := d) hi
  have hl : i < (useUp st e d i).length := by rw [useUp_len]; exact hi
  rw [List.getElem?_eq_getElem hl] at h1
  rw [← Option.some.inj h1]
  exact List.set_getElem_self hl
theorem run_pos (h : (applyF c st e).2 = 0) (h4 : e.op = 4) : 0 < st.length := by
  have h0 := h
  unfold applyF at h
  split at h
  · cases h
  · rw [if_neg (by omega)] at h
    unfold applyRest at h
    split at h
    · cases h
    · rename_i h2
      exact List.length_pos_of_mem (partP_mem (both_some h2).1)
end
/-! the range over an index -/
theorem ItS.Step.some {κ : Type} {enc : κ → Value} {kvs todo t' : List (κ × Value)} {S S' : ItS} {q : Option (κ × Value)} (h : ItS.Step enc kvs todo S q S' t') (hq : q.isSome = true) :
    ∃ p a b, todo = a ++ p :: b ∧ S'.Ok enc kvs ∧ S'.Todo enc (a ++ b) ∧ S'.At enc p ∧ q = .some p ∧ t' = a ++ b := by
  cases h with
  | over h => cases hq
  | come p a b S1 h h1 h2 h3 => exact ⟨p, a, b, h, h1, h2, h3, rfl, rfl⟩
theorem ItS.Step.none {κ : Type} {enc : κ → Value} {kvs todo t' : List (κ × Value)} {S S' : ItS} {q : Option (κ × Value)} (h : ItS.Step enc kvs todo S q S' t') (hq : q.isSome = false) : todo = [] ∧ q = .none ∧ S' = S := by
  cases h with
  | over h => exact ⟨h, rfl, rfl⟩
  | come p a b S1 h h1 h2 h3 => cases hq
theorem encNU_mid {todo : List NU} {a b : List (ByteArray × Value)} {p : ByteArray × Value} (h : encNU todo = a ++ p :: b) : ∃ n u a' b', todo = a' ++ (n, u) :: b' ∧ encNU a' = a ∧ encNU b' = b ∧ p = (n, .string u) := by
  unfold encNU at h
  obtain ⟨a', c', rfl, h2, h3⟩ := List.map_eq_append_iff.1 h
  obtain ⟨⟨n, u⟩, b', rfl, h4, h5⟩ := List.map_eq_cons_iff.1 h3
  exact ⟨n, u, a', b', rfl, h2, h5, h4.symm⟩
theorem ItS.Step.nu {R todo : List NU} {t' : List (ByteArray × Value)} {S S' : ItS} {q : Option (ByteArray × Value)} (h : ItS.Step Value.string (encNU R) (encNU todo) S q S' t') (hq : q.isSome = true) :
    ∃ (n u : ByteArray) (a b : List NU), todo = a ++ (n, u) :: b ∧ S'.Ok Value.string (encNU R) ∧ S'.Todo Value.string (encNU (a ++ b)) ∧ S'.At Value.string (n, .string u) ∧ q = .some (n, .string u) := by
  obtain ⟨p, a, b, h1, h2, h3, h4, h5, _⟩ := h.some hq
  obtain ⟨n, u, a', b', e1, e2, e3, e4⟩ := encNU_mid h1
  subst e4
  exact ⟨n, u, a', b', e1, h2, by rw [show encNU (a' ++ b') = encNU a' ++ encNU b' from List.map_append, e2, e3]; exact h3, h4, h5⟩
theorem ItS.Step.nuNone {R todo : List NU} {t' : List (ByteArray × Value)} {S S' : ItS} {q : Option (ByteArray × Value)} (h : ItS.Step Value.string (encNU R) (encNU todo) S q S' t') (hq : q.isSome = false) : todo = [] ∧ q = .none ∧ S' = S := by
  obtain ⟨h1, h2, h3⟩ := h.none hq
  exact ⟨by cases todo with | nil => rfl | cons p t => simp [encNU] at h1, h2, h3⟩
theorem perm_step {α : Type} {done todo a b kvs : List α} {p : α} (hP : (done ++ todo).Perm kvs) (h : todo = a ++ p :: b) : (done ++ [p] ++ (a ++ b)).Perm kvs := by
  subst h
  refine List.Perm.trans ?_ hP
  rw [List.append_assoc]
  refine List.Perm.append_left _ ?_
  exact (List.perm_middle (a := p) (l₁ := a) (l₂ := b)).symm
theorem perm_mem {α : Type} {done todo a b kvs : List α} {p : α} (hP : (done ++ todo).Perm kvs) (h : todo = a ++ p :: b) : p ∈ kvs := hP.mem_iff.1 (by rw [h]; simp)
theorem perm_new {done todo a b kvs : List (ByteArray × Value)} {p : ByteArray × Value} (hP : (done ++ todo).Perm kvs) (h : todo = a ++ p :: b) (hn : (kvs.map Prod.fst).Nodup) : p.1 ∉ done.map Prod.fst := fun hm => by
  have h1 := ((hP.map Prod.fst).nodup_iff).2 hn
  rw [List.map_append] at h1
  refine (List.nodup_append.1 h1).2.2 _ hm p.1 (List.mem_map_of_mem (by rw [h]; simp)) rfl
theorem fill_new {l : List Part} {ks : List ByteArray} {n : ByteArray} (h : n ∉ ks) : n ∉ (fillR l ks).map Prod.fst := fun hm => by
  rw [fill_fst] at hm; exact h (List.mem_filter.1 hm).1
theorem fill_mapY {l : List Part} {done : List (ByteArray × Value)} {p : ByteArray × Value} (h : upP l p.1 ≠ nil8) : fillR l ((done ++ [p]).map Prod.fst) = fillR l (done.map Prod.fst) ++ [(p.1, upP l p.1)] := by
  rw [List.map_append]; exact fill_yes h
theorem fill_mapN {l : List Part} {done : List (ByteArray × Value)} {p : ByteArray × Value} (h : upP l p.1 = nil8) : fillR l ((done ++ [p]).map Prod.fst) = fillR l (done.map Prod.fst) := by
  rw [List.map_append]; exact fill_no h
theorem fill_kn {l : List Part} {done kvs : List (ByteArray × Value)} (hn : (kvs.map Prod.fst).Nodup) (hd : done.Perm kvs) : ((fillR l (done.map Prod.fst)).map Prod.fst).Nodup := by
  rw [fill_fst]; exact List.filter_sublist.nodup (((hd.map _).nodup_iff).2 hn)
theorem flat_str {I : IMap} {ys : List Value} {m : List ByteArray} (h : Flat I ys m) : ys = (strCh m).flatten := by
  obtain ⟨xss, rfl, hC⟩ := FlatC.of h
  obtain rfl := str_of hC
  rfl
theorem set_at {xss : List (List Value)} {i : Nat} {c c' : List Value} (h : xss[i]? = some c) : (xss.set i c')[i]? = some c' := by
  have hi : i < xss.length := (List.getElem?_eq_some_iff.1 h).1
  rw [List.getElem?_set_self hi]
theorem chunk_at {I : IMap} {xss : List (List Value)} {l : List Part} {k : Nat} {p : Part} (hx : FlatC I xss l) (hk : l[k]? = some p) (rest : List (List Value)) : ∃ q, (xss ++ rest)[k]? = some (p.cells q) ∧ RdS I q p.props := by
  have hkl : k < l.length := (List.getElem?_eq_some_iff.1 hk).1
  obtain ⟨c, h1, h2⟩ := hx.at_ hkl
  rw [List.getElem?_eq_getElem hkl] at hk
  rw [Option.some.inj hk] at h2
  obtain ⟨q, rfl, hq⟩ := h2
  exact ⟨q, by rw [List.getElem?_append_left (List.getElem?_eq_some_iff.1 h1).1]; exact h1, hq⟩
/-! fields of the pieces of a block -/
section
variable {P : Program} {ρ : Option Nat} {n : Sz} {E : Ent} {I : IMap} {L : LL} {H : List Res} {Q : Exit → Act → World → Prop} {ops : Array Oper} {K : Act → World → Prop}
variable {d ty : Nat} {pos : String} {af : Array Edge} {x y : Operand} {xss : List (List Value)} {c : List Value} {g off tt t' k kk : Nat}
theorem cf_take (hU : Uk k xss) {i j : Nat} (hi : xss[i]? = some c) {vs : List Value} (hv : (c.drop j).take kk = vs) (hk : vs.length = kk) (hk0 : 0 < kk) : (xss.flatten.drop (i * k + j)).take kk = vs := by
  have h1 := flat_at hU hi
  have hc : c.length = k := hU c (List.mem_of_getElem? hi)
  have hjk : j + kk ≤ k := by
    have := congrArg List.length hv
    rw [List.length_take, List.length_drop] at this
    omega
  rw [← hv, ← h1, List.drop_take, List.take_take, List.drop_drop, Nat.min_eq_left (by omega)]
theorem v_ldcf (vs : List Value) (hm : Res.blk g t' xss.flatten ∈ H) (hU : Uk k xss) (ht : tyK P tt = some (true, kk)) (hx : ev L x = some (.pointer (some ⟨g, off, none⟩))) (i j : Nat) (ho : off = i * k + j) (hi : xss[i]? = some c) (hv : (c.drop j).take kk = vs) (hk : vs.length = kk) (hk0 : Nat.blt 0 kk = true) :
    OV P n E I L H ⟨some d, .load tt x, ty, pos, af, none⟩ (.agg vs.toArray) := v_ldp vs hm ht hx (by subst ho; exact cf_take hU hi hv hk (by simpa [Nat.blt_eq] using hk0)) hk
theorem v_ldc1 {v : Value} (hm : Res.blk g t' xss.flatten ∈ H) (hU : Uk k xss) (ht : tyK P tt = some (false, 1)) (hx : ev L x = some (.pointer (some ⟨g, off, none⟩))) (i j : Nat) (ho : off = i * k + j) (hi : xss[i]? = some c) (hv : c[j]? = some v) :
    OV P n E I L H ⟨some d, .load tt x, ty, pos, af, none⟩ v := v_ld hm ht hx (by
      subst ho
      have hj : j < c.length := (List.getElem?_eq_some_iff.1 hv).1
      have h1 := cf_take (kk := 1) hU hi (j := j) (vs := [v]) (by
        rw [List.drop_eq_getElem_cons hj]
        rw [List.getElem?_eq_getElem hj] at hv
        cases hv; rfl) rfl (by omega)
      have h2 := congrArg (·[0]?) h1
      simpa [List.getElem?_take, List.getElem?_drop] using h2)
theorem o_stcf {b : Bool} {v : Value} (vs c' : List Value) (hU : Uk k xss) (ht : tyK P tt = some (b, kk)) (hx : ev L x = some (.pointer (some ⟨g, off, none⟩))) (hy : ev L y = some v) (hv : v.cells = vs.toArray) (hk : vs.length = kk) (h1 : vs.all (·.oneCell') = true) (i j : Nat) (ho : off = i * k + j) (hi : xss[i]? = some c) (hjk : j + kk ≤ k) (hc : c.take j ++ (vs ++ c.drop (j + kk)) = c')
    (kk' : SX n E I L (.blk g t' (xss.set i c').flatten :: H) K) : SX n E I L (.blk g t' xss.flatten :: H) (one P ops Q ⟨none, .store tt x y, ty, pos, af, none⟩ K) := by
  subst ho
  have hil : i < xss.length := (List.getElem?_eq_some_iff.1 hi).1
  have hcl : c.length = k := hU c (List.mem_of_getElem? hi)
  have hc'l : c'.length = k := by
    rw [← hc, List.length_append, List.length_append, List.length_take, List.length_drop, hk]; omega
  have hspl : xss = xss.take i ++ c :: xss.drop (i + 1) := by
    have h2 : xss[i] = c := by rw [List.getElem?_eq_getElem hil] at hi; exact Option.some.inj hi
    rw [← h2, ← List.drop_eq_getElem_cons hil, List.take_append_drop]
  have hfl : xss.flatten = (xss.take i).flatten ++ (c ++ (xss.drop (i + 1)).flatten) := by
    conv => lhs; rw [hspl]
    simp
  have hpl : (xss.take i).flatten.length = i * k := by rw [flat_len (hU.take i), List.length_take, Nat.min_eq_left (by omega)]
  refine o_st vs _ ht hx hy hv hk ?_ h1 ?_ kk'
  · apply Nat.ble_eq_true_of_le
    rw [flat_len hU]
    have : (i + 1) * k ≤ xss.length * k := Nat.mul_le_mul_right _ hil
    rw [Nat.add_mul] at this
    omega
  · rw [List.set_eq_take_append_cons_drop, if_pos hil, hfl]
    rw [List.flatten_append, List.flatten_cons]
    have e1 : ((xss.take i).flatten ++ (c ++ (xss.drop (i + 1)).flatten)).take (i * k + j) = (xss.take i).flatten ++ c.take j := by
      rw [← hpl, List.take_length_add_append, List.take_append_of_le_length (by omega)]
    have e2 : ((xss.take i).flatten ++ (c ++ (xss.drop (i + 1)).flatten)).drop (i * k + j + kk) = c.drop (j + kk) ++ (xss.drop (i + 1)).flatten := by
      rw [← hpl, Nat.add_assoc, List.drop_length_add_append, List.drop_append_of_le_length (by omega)]
    rw [e1, e2, ← hc]
    simp
end
end Go.Sx

/- Loops with six to eight things that turn; meetings of ways with four to six. -/
set_option linter.all false
namespace Go.Sx
open Go
section
variable {P : Program} {ρ : Option Nat} {n : Sz} {E : Ent} {I I' : IMap} {L : LL} {H : List Res} {K : Act → World → Prop} {Q : Exit → Act → World → Prop} {N : Act → World → Prop}
variable {α β γ δ ε ζ η θ : Type}
def NextS8 (n : Sz) (E : Ent) (Ix : α → β → γ → δ → ε → ζ → η → θ → IMap) (Lx : α → β → γ → δ → ε → ζ → η → θ → LL) (Hx : α → β → γ → δ → ε → ζ → η → θ → List Res) (p : α → β → γ → δ → ε → ζ → η → θ → Prop) (μ : α → β → γ → δ → ε → ζ → η → θ → Nat) (x0 : α) (x1 : β) (x2 : γ) (x3 : δ) (x4 : ε) (x5 : ζ) (x6 : η) (x7 : θ) : Act → World → Prop :=
  fun a w => ∃ y0 y1 y2 y3 y4 y5 y6 y7, p y0 y1 y2 y3 y4 y5 y6 y7 ∧ μ y0 y1 y2 y3 y4 y5 y6 y7 < μ x0 x1 x2 x3 x4 x5 x6 x7 ∧ St n a (Lx y0 y1 y2 y3 y4 y5 y6 y7) ∧ Mem E (Ix y0 y1 y2 y3 y4 y5 y6 y7) (Hx y0 y1 y2 y3 y4 y5 y6 y7) w
theorem c_loop8 (a0 : α) (a1 : β) (a2 : γ) (a3 : δ) (a4 : ε) (a5 : ζ) (a6 : η) (a7 : θ) (Ix : α → β → γ → δ → ε → ζ → η → θ → IMap) (Lx : α → β → γ → δ → ε → ζ → η → θ → LL) (Hx : α → β → γ → δ → ε → ζ → η → θ → List Res) (p : α → β → γ → δ → ε → ζ → η → θ → Prop) (μ : α → β → γ → δ → ε → ζ → η → θ → Nat) {c : Code}
    (h0 : p a0 a1 a2 a3 a4 a5 a6 a7) (hI : Ix a0 a1 a2 a3 a4 a5 a6 a7 = I) (hL : Sub (Lx a0 a1 a2 a3 a4 a5 a6 a7) L) (hH : Hx a0 a1 a2 a3 a4 a5 a6 a7 = H)
    (round : ∀ x0 x1 x2 x3 x4 x5 x6 x7, p x0 x1 x2 x3 x4 x5 x6 x7 → SX n E (Ix x0 x1 x2 x3 x4 x5 x6 x7) (Lx x0 x1 x2 x3 x4 x5 x6 x7) (Hx x0 x1 x2 x3 x4 x5 x6 x7) (c.wq ρ P (Exit.then (NextS8 n E Ix Lx Hx p μ x0 x1 x2 x3 x4 x5 x6 x7) Q))) : SX n E I L H ((Code.loop c).wq ρ P Q) :=
  c_loop (α := α × β × γ × δ × ε × ζ × η × θ) (a0, a1, a2, a3, a4, a5, a6, a7) (fun q => Ix q.1 q.2.1 q.2.2.1 q.2.2.2.1 q.2.2.2.2.1 q.2.2.2.2.2.1 q.2.2.2.2.2.2.1 q.2.2.2.2.2.2.2) (fun q => Lx q.1 q.2.1 q.2.2.1 q.2.2.2.1 q.2.2.2.2.1 q.2.2.2.2.2.1 q.2.2.2.2.2.2.1 q.2.2.2.2.2.2.2) (fun q => Hx q.1 q.2.1 q.2.2.1 q.2.2.2.1 q.2.2.2.2.1 q.2.2.2.2.2.1 q.2.2.2.2.2.2.1 q.2.2.2.2.2.2.2) (fun q => p q.1 q.2.1 q.2.2.1 q.2.2.2.1 q.2.2.2.2.1 q.2.2.2.2.2.1 q.2.2.2.2.2.2.1 q.2.2.2.2.2.2.2) (fun q => μ q.1 q.2.1 q.2.2.1 q.2.2.2.1 q.2.2.2.2.1 q.2.2.2.2.2.1 q.2.2.2.2.2.2.1 q.2.2.2.2.2.2.2) h0 hI hL hH
    fun ⟨x0, x1, x2, x3, x4, x5, x6, x7⟩ hp => sx_mono (round x0 x1 x2 x3 x4 x5 x6 x7 hp) fun a w h => cwq_mono (fun e a w q => by
      cases e with
      | normal => obtain ⟨y0, y1, y2, y3, y4, y5, y6, y7, h1, h2, h3, h4⟩ := q; exact ⟨(y0, y1, y2, y3, y4, y5, y6, y7), h1, h2, h3, h4⟩
      | _ => exact q) h
theorem q_next8 {Ix : α → β → γ → δ → ε → ζ → η → θ → IMap} {Lx : α → β → γ → δ → ε → ζ → η → θ → LL} {Hx : α → β → γ → δ → ε → ζ → η → θ → List Res} {p : α → β → γ → δ → ε → ζ → η → θ → Prop} {μ : α → β → γ → δ → ε → ζ → η → θ → Nat} {x0 : α} {x1 : β} {x2 : γ} {x3 : δ} {x4 : ε} {x5 : ζ} {x6 : η} {x7 : θ} (y0 : α) (y1 : β) (y2 : γ) (y3 : δ) (y4 : ε) (y5 : ζ) (y6 : η) (y7 : θ) (hp : p y0 y1 y2 y3 y4 y5 y6 y7) (hμ : μ y0 y1 y2 y3 y4 y5 y6 y7 < μ x0 x1 x2 x3 x4 x5 x6 x7)
    (hI : Ix y0 y1 y2 y3 y4 y5 y6 y7 = I) (hL : Sub (Lx y0 y1 y2 y3 y4 y5 y6 y7) L) (hH : Hx y0 y1 y2 y3 y4 y5 y6 y7 = H) : SX n E I L H (NextS8 n E Ix Lx Hx p μ x0 x1 x2 x3 x4 x5 x6 x7) :=
  fun a w s m => ⟨y0, y1, y2, y3, y4, y5, y6, y7, hp, hμ, s.sub hL, by rw [hI, hH]; exact m⟩
def CutS4 (n : Sz) (E : Ent) (Ix : α → β → γ → δ → IMap) (Lx : α → β → γ → δ → LL) (Hx : α → β → γ → δ → List Res) (p : α → β → γ → δ → Prop) (a : Act) (w : World) : Prop := ∃ x0 x1 x2 x3, p x0 x1 x2 x3 ∧ St n a (Lx x0 x1 x2 x3) ∧ Mem E (Ix x0 x1 x2 x3) (Hx x0 x1 x2 x3) w
theorem c_cutx4 {Ix : α → β → γ → δ → IMap} {Lx : α → β → γ → δ → LL} {Hx : α → β → γ → δ → List Res} {p : α → β → γ → δ → Prop} {c : Code}
    (h1 : SX n E I L H (c.wq ρ P (Exit.then (CutS4 n E Ix Lx Hx p) Q))) (h2 : ∀ x0 x1 x2 x3, p x0 x1 x2 x3 → SX n E (Ix x0 x1 x2 x3) (Lx x0 x1 x2 x3) (Hx x0 x1 x2 x3) N) : SX n E I L H (c.wq ρ P (Exit.then N Q)) := fun a w s m =>
  cwq_mono (fun e a w q => by cases e <;> first | exact q | (obtain ⟨x0, x1, x2, x3, hp, hs, hm⟩ := q; exact h2 x0 x1 x2 x3 hp a w hs hm)) (h1 a w s m)
theorem q_cutx4 {Ix : α → β → γ → δ → IMap} {Lx : α → β → γ → δ → LL} {Hx : α → β → γ → δ → List Res} {p : α → β → γ → δ → Prop} (x0 : α) (x1 : β) (x2 : γ) (x3 : δ) (hp : p x0 x1 x2 x3) (hL : Sub (Lx x0 x1 x2 x3) L) (hH : Hx x0 x1 x2 x3 = H) (hI : Ix x0 x1 x2 x3 = I) :
    SX n E I L H (CutS4 n E Ix Lx Hx p) := fun _ _ s m => ⟨x0, x1, x2, x3, hp, s.sub hL, by rw [hH, hI]; exact m⟩
end
end Go.Sx

/- Walks, printed by a program out of the code of the functions: each theorem is a contract of one function. -/
namespace Go.Proofs.YthcefohbbfjjfaaGreat
open Go Go.Sx
set_option linter.all false
set_option maxRecDepth 20000
set_option maxHeartbeats 4000000
instance T.fld_29_0 : Has (fldK Tryz.prog 29 0) (0, true, 1) := ⟨by kernel_rfl⟩
instance T.fld_29_1 : Has (fldK Tryz.prog 29 1) (1, true, 3) := ⟨by kernel_rfl⟩
instance T.und_124 : Has (Tryz.prog.underlying 124) (.map 9 9) := ⟨by kernel_rfl⟩
theorem flInside (I : IMap) (v : Value) (l : List Part) (hv : RdS I v l) (s : ByteArray) (hN : fitN l ≤ 12) :
    FnX Tryz.prog 32 #[.agg #[v], .string s] I [] (fun u r => ∃ ns, r = .row u 9 1 ns.length (strCh ns).flatten ∧ (∀ n, n ∈ ns ↔ InsP l s n) ∧ ns.length ≤ 12) := by
 have hv0 := hv
 obtain ⟨A, c0, rfl, hA, hc, hm⟩ := hv
 refine enter Tryz.func32 Tryz.call32 rfl Tryz.ntmps32 rfl (fun w0 => ?_)
 refine go 3 ?_
 refine o_box _ rfl rfl rfl (fun g2 => ?_)
 refine go 7 ?_
 refine o_callX0 (flOf _ _ l hv0) rfl rfl (fun v20 s20 q20 => ?_)
 obtain ⟨m20, kvs, rfl, rfl, hIx, hnd⟩ := q20
 obtain ⟨z, b, hz, hb, hfs, hfn⟩ := hIx.look s
 refine go 1 ?_
 refine o_alloc he rfl (fun g5 => ?_)
 refine go 1 ?_
 refine o_stw _ he rfl rfl rfl rfl rfl rfl ?_
 refine go 8 ?_
 refine o_v rfl (v_get2 m1 (key_string he) he he (s) rfl rfl hz hb) ?_
 refine go 13 ?_
 refine cb rfl (fun h29 p29 => ?_) (fun h29 p29 => ?_)
 ·refine go 7 ?_
  refine fin1 rfl rfl ?_
  refine sx_drop ?_
  refine sx_drop ?_
  refine sx_drop ?_
  refine sx_nilrow 9 1 ?_
  exact q_x ⟨[], rfl, fun n => ⟨fun h => (by cases h), fun h => absurd h (not_ins (hfn (by simpa using h29)) n)⟩, Nat.zero_le _⟩
 ·have hsome : (findP l s).isSome = true := by
    obtain ⟨i, hi, _, hF⟩ := hfs (by simpa using h29)
    rw [hF]; rfl
  refine go 5 ?_
  refine o_map0 (Value.string) he rfl (fun r30 => ?_)
  refine go 7 ?_
  refine bring2 ?_
  refine sx_openmap (fun S0 hO0 hT0 hS0 => ?_)
  refine go 2 ?_
  refine o_range hS0 he rfl rfl (fun i33 => ?_)
  refine go 3 ?_
  refine bring4 ?_
  refine sx_drop ?_
  refine c_loop3 (S0) (kvs) ([]) (fun S todo done => I)
   (fun S todo done => [(1, .string s), (5, .pointer (some ⟨g5, 0, none⟩)), (8, .map (some r30)), (33, .pointer (some ⟨i33, 0, none⟩))])
   (fun S todo done => [.any i33 (S.it m20), .any m20 S.mp, .mp r30 (emap Value.string (encNU (fillR l (done.map Prod.fst)))), .blk g5 121 [.slice A l.length c0, .map (some m20)]])
   (fun S todo done => S.Ok Value.string kvs ∧ S.Todo Value.string todo ∧ (done ++ todo).Perm kvs)
   (fun S todo done => todo.length) ⟨hO0, hT0, .refl _⟩ rfl sb rfl ?_
  intro S todo done ⟨hO, hT, hP⟩
  refine go 3 ?_
  refine bring1 ?_
  refine bring1 ?_
  refine o_next hO hT rfl rfl (fun q34 S34 t34 hst => ?_)
  refine o_v rfl (v_extract rfl (nextA_0 _ _)) ?_
  refine go 3 ?_
  refine cb rfl (fun h35 p35 => ?_) (fun h35 p35 => ?_)
  ·obtain ⟨p, a, b, htd, hO1, hT1, hA1, rfl, rfl⟩ := hst.some h35
   have hpk := perm_mem hP htd
   have hpn := perm_new hP htd hnd
   obtain ⟨i, hi, hpv, hF⟩ := hIx.mem hnd hpk
   have hup : upP l p.1 = l[i].into := by unfold upP; rw [hF]; rfl
   refine go 5 ?_
   refine o_v rfl (v_entry m0 m1 hO1 hA1 rfl) ?_
   refine go 1 ?_
   refine o_v rfl (OV.cast (u := .int .i64 ((i : Nat) : Int)) (v_extract rfl rfl) hpv) ?_
   refine go 9 ?_
   obtain ⟨b42, o42, w42, e42, c42, r42⟩ := RdA.at_ hA (i := i) hi
   obtain ⟨q42, rfl, B42, d42, rfl, hB42, hd42, hm42⟩ := r42
   refine o_v rfl (v_idx he rfl rfl e42 (i) rfl hi) ?_
   refine go 1 ?_
   refine o_v rfl (OV.cast (u := .string (upP l p.1)) (v_ldI he rfl (c42 2 _ rfl)) (congrArg Value.string hup.symm)) ?_
   refine go 9 ?_
   refine cb rfl (fun h46 p46 => ?_) (fun h46 p46 => ?_)
   ·refine go 5 ?_
    refine bring2 ?_
    refine o_mapPut (encNU ((fillR l (done.map Prod.fst)) ++ [(p.1, upP l p.1)])) (key_string he) he (p.1) rfl rfl rfl (encNU_put (fill_new hpn)) ?_
    refine go 3 ?_
    refine bring3 ?_
    refine bring1 ?_
    refine bring3 ?_
    refine bring3 ?_
    exact q_next3 (S34) (a ++ b) (done ++ [p]) ⟨hO1, hT1, perm_step hP htd⟩ (by rw [htd]; simp) rfl sb (by rw [fill_mapY p46])
   ·refine go 3 ?_
    exact q_next3 (S34) (a ++ b) (done ++ [p]) ⟨hO1, hT1, perm_step hP htd⟩ (by rw [htd]; simp) rfl sb (by rw [fill_mapN (by simpa using h46)])
  ·obtain ⟨rfl, rfl, rfl⟩ := hst.none h35
   have hdp : done.Perm kvs := by simpa using hP
   refine go 10 ?_
   refine bring2 ?_
   refine o_mapDel (key_string he) he s rfl rfl ?_
   rw [encNU_del (fill_kn hnd hdp)]
   have hB0 := Bfs.start (v := s) hIx hnd hdp
   refine go 4 ?_
   refine sx_nilrow 9 1 ?_
   refine go 8 ?_
   refine o_buildSlice he he rfl rfl rfl rfl rfl rfl rfl (fun v53 => ?_)
   refine sx_pubrow (l := [s]) rfl rfl ((.one rfl)) (fun I53 j53 R53 => ?_)
   have R53s := R53
   obtain ⟨A53, c53, rfl, _, _, _⟩ := R53s
   refine go 4 ?_
   refine bring2 ?_
   refine sx_drop ?_
   refine bring2 ?_
   refine sx_drop ?_
   refine bring2 ?_
   refine sx_drop ?_
   refine c_loop8 (_) ([s]) ([]) (A53) (c53) (_) ([]) (I53) (fun R lst out A1 c1 v12 xs J => J)
    (fun R lst out A1 c1 v12 xs J => [(8, .map (some r30)), (12, v12), (13, .slice A1 lst.length c1)])
    (fun R lst out A1 c1 v12 xs J => [.row v12 9 1 out.length xs, .mp r30 (emap Value.string (encNU R))])
    (fun R lst out A1 c1 v12 xs J => RdS J (.slice A1 lst.length c1) lst ∧ Flat J xs out ∧ Bfs l s R lst out)
    (fun R lst out A1 c1 v12 xs J => R.length + R.length + min lst.length 1) ⟨R53, .nil, hB0⟩ rfl sb rfl ?_
   intro R lst out A1 c1 v12 xs J ⟨hL, hFo, hB⟩
   have hlen := hB.len
   refine go 8 ?_
   refine cb rfl (fun h56 p56 => ?_) (fun h56 p56 => ?_)
   ·refine go 5 ?_
    refine sx_nilrow 9 1 ?_
    refine go 6 ?_
    refine bring2 ?_
    refine sx_openmap (fun S0 hO0 hT0 hS0 => ?_)
    refine go 2 ?_
    refine o_range hS0 he rfl rfl (fun i58 => ?_)
    refine go 3 ?_
    refine c_loop5 (S0) (R) ([]) (_) ([]) (fun S todo done v14 ys => J)
     (fun S todo done v14 ys => [(8, .map (some r30)), (12, v12), (13, .slice A1 lst.length c1), (14, v14), (58, .pointer (some ⟨i58, 0, none⟩))])
     (fun S todo done v14 ys => [.any i58 (S.it r30), .any r30 S.mp, .row v14 9 1 (nextN lst done).length ys, .row v12 9 1 out.length xs])
     (fun S todo done v14 ys => S.Ok Value.string (encNU R) ∧ S.Todo Value.string (encNU todo) ∧ (done ++ todo).Perm R ∧ Flat J ys (nextN lst done))
     (fun S todo done v14 ys => todo.length) ⟨hO0, hT0, .refl _, .nil⟩ rfl sb rfl ?_
    intro S todo done v14 ys ⟨hO, hT, hP, hFy⟩
    have hdl := hP.length_eq
    rw [List.length_append] at hdl
    have hnl := nextN_len (lst := lst) done
    refine go 3 ?_
    refine bring1 ?_
    refine bring1 ?_
    refine o_next hO hT rfl rfl (fun q59 S59 t59 hst => ?_)
    refine o_v rfl (v_extract rfl (nextA_0 _ _)) ?_
    refine go 3 ?_
    refine cb rfl (fun h60 p60 => ?_) (fun h60 p60 => ?_)
    ·obtain ⟨n, u, a, b, htd, hO1, hT1, hA1, rfl⟩ := hst.nu h60
     refine go 5 ?_
     refine o_v rfl (v_entry m0 m1 hO1 hA1 rfl) ?_
     refine go 11 ?_
     refine o_callV (contains_string _ _ lst hL u) rfl rfl ?_
     refine go 2 ?_
     refine cb rfl (fun h66 p66 => ?_) (fun h66 p66 => ?_)
     ·refine go 4 ?_
      refine o_buildSlice he he rfl rfl rfl rfl rfl rfl rfl (fun v69 => ?_)
      refine go 1 ?_
      refine bring3 ?_
      refine o_appendO he he rfl rfl rfl rfl rfl (by omega) (by omega) rfl (fun v70 => ?_)
      refine go 4 ?_
      refine bring1 ?_
      refine sx_drop ?_
      refine bring3 ?_
      refine bring1 ?_
      refine bring3 ?_
      refine bring3 ?_
      exact q_next5 (S59) (a ++ b) (done ++ [(n, u)]) (_) (_) ⟨hO1, hT1, perm_step hP htd, by rw [nextN_yes (p := (n, u)) p66]; exact hFy.append (.one rfl)⟩ (by rw [htd]; simp) rfl sb (by rw [nextN_yes (p := (n, u)) p66, List.length_append]; rfl)
     ·refine go 3 ?_
      exact q_next5 (S59) (a ++ b) (done ++ [(n, u)]) (_) (_) ⟨hO1, hT1, perm_step hP htd, by rw [nextN_no (p := (n, u)) p66]; exact hFy⟩ (by rw [htd]; simp) rfl sb (by rw [nextN_no (p := (n, u)) p66])
    ·obtain ⟨rfl, rfl, rfl⟩ := hst.nuNone h60
     have hdp : done.Perm R := by simpa using hP
     refine bring1 ?_
     refine sx_shutmap hO ?_
     refine go 8 ?_
     refine bring2 ?_
     refine sx_pubrow (l := (nextN lst done)) rfl rfl (hFy) (fun I71 j71 R71 => ?_)
     have hFo := hFo.le j71
     have R71s := R71
     obtain ⟨A14, c14, rfl, hA71, _, _⟩ := R71s
     refine go 6 ?_
     refine bring1 ?_
     refine sx_drop ?_
     refine c_loop (α := Nat) 0 (fun i => I71)
      (fun i => [(8, .map (some r30)), (12, v12), (14, .slice A14 (nextN lst done).length c14), (71, .slice A14 (nextN lst done).length c14), (72, .int .i64 (((nextN lst done).length : Nat) : Int)), (73, .int .i64 ((i : Nat) : Int))])
      (fun i => [.mp r30 (emap Value.string (encNU (restN R ((nextN lst done).take i)))), .row v12 9 1 out.length xs])
      (fun i => i ≤ (nextN lst done).length)
      (fun i => (nextN lst done).length - i) (Nat.zero_le _) rfl sb (by rw [List.take_zero, restN_nil]) ?_
     intro i hi
     refine go 6 ?_
     refine cb rfl (fun h74 p74 => ?_) (fun h74 p74 => ?_)
     ·have hlt : i < (nextN lst done).length := by omega
      refine go 6 ?_
      obtain ⟨b75, o75, w75, e75, c75, r75⟩ := RdA.at_ hA71 (i := i) (by omega)
      obtain rfl := r75
      refine o_v rfl (v_idx he rfl rfl e75 (i) (by omega) (by omega)) ?_
      refine o_v rfl (v_ldI he rfl (c75 0 _ rfl)) ?_
      refine go 7 ?_
      refine o_mapDel (key_string he) he ((nextN lst done)[i]) rfl rfl ?_
      rw [restN_step hlt hB.kn]
      refine go 8 ?_
      exact q_next (i + 1) (by omega) (by omega) rfl sb rfl
     ·obtain rfl : i = (nextN lst done).length := by omega
      rw [List.take_length]
      refine go 10 ?_
      refine bring1 ?_
      refine o_appendR (R71) rfl he he rfl rfl rfl rfl (by omega) (by omega) rfl (fun v82 x82 f82 => ?_)
      refine go 9 ?_
      exact q_next8 (restN R (nextN lst done)) ((nextN lst done)) (out ++ (nextN lst done)) (A14) (c14) (_) (_) (I71) ⟨R71, hFo.append f82, hB.step hsome hdp⟩ (by have := next_len (lst := lst) hB.kn hdp; omega) rfl sb (by rw [List.length_append])
   ·obtain rfl : lst = [] := List.eq_nil_of_length_eq_zero (by omega)
    refine go 9 ?_
    refine o_callX1 (sortRow0 _ _ out xs hFo (by omega)) rfl rfl (fun v85 s85 q85 => ?_)
    obtain ⟨rfl, m, ys, hpm, hFm, rfl⟩ := q85
    refine go 9 ?_
    refine fin1 rfl rfl ?_
    refine bring1 ?_
    refine sx_drop ?_
    exact q_x ⟨m, by rw [hpm.1, flat_str hFm], fun n => (hpm.2 n).trans hB.over, by have := hpm.1; omega⟩

theorem lifeAdd (I : IMap) {xss : List (List Value)} (g t i : Nat) (hU : Uk 14 xss) (p : Part) (q : Value) (hi : xss[i]? = some (p.cells q)) (u : Use) (dd : Ivl) (off : Nat) (ho : off = i * 14 + 8) :
    FnM Tryz.prog 43 #[.pointer (some ⟨g, off, none⟩), .agg u.cells.toArray, .agg dd.cells.toArray] I (.blk g t xss.flatten) (.blk g t (xss.set i ((addLife dd u p).cells q)).flatten) := by
 refine enter Tryz.func43 Tryz.call43 rfl Tryz.ntmps43 rfl (fun w0 => ?_)
 refine go 3 ?_
 refine o_box _ rfl rfl rfl (fun g4 => ?_)
 refine go 1 ?_
 refine o_box _ rfl rfl rfl (fun g5 => ?_)
 refine go 2 ?_
 refine bring2 ?_
 refine d_start1 T.mixed ?_
 refine d_tv 0 rfl rfl (by kernel_rfl) rfl (.cons _ (.refl _)) rfl (v_move rfl) ?_
 refine d_tv 1 rfl rfl (by kernel_rfl) rfl (.cons _ (.refl _)) rfl (v_move rfl) ?_
 refine d_tv 2 rfl rfl (by kernel_rfl) rfl (.cons _ (.refl _)) rfl (v_move rfl) ?_
 refine d_tv 3 rfl rfl (by kernel_rfl) rfl (.cons _ (.refl _)) rfl (v_move rfl) ?_
 refine d_tv 4 rfl rfl (by kernel_rfl) rfl (.cons _ (.refl _)) rfl (v_nilCheck rfl) ?_
 refine d_tv 5 rfl rfl (by kernel_rfl) rfl (.cons _ (.refl _)) rfl (v_fieldAddr he rfl) ?_
 refine d_tv 7 rfl rfl (by kernel_rfl) rfl (.cons _ (.refl _)) rfl (v_fieldAddr he rfl) ?_
 refine d_tv 8 rfl rfl (by kernel_rfl) rfl (.cons _ (.refl _)) rfl (v_ldp (u.km.cells) m1 he rfl rfl rfl) ?_
 refine d_tv 10 rfl rfl (by kernel_rfl) rfl (.cons _ (.refl _)) rfl (v_move rfl) ?_
 refine d_tv 11 rfl rfl (by kernel_rfl) rfl (.cons _ (.refl _)) rfl (v_nilCheck rfl) ?_
 refine d_tv 12 rfl rfl (by kernel_rfl) rfl (.cons _ (.refl _)) rfl (v_fieldAddr he rfl) ?_
 refine d_tv 14 rfl rfl (by kernel_rfl) rfl (.cons _ (.refl _)) rfl (v_fieldAddr he rfl) ?_
 refine d_tv 15 rfl rfl (by kernel_rfl) rfl (.cons _ (.refl _)) rfl (v_ldp (u.cycles.cells) m1 he rfl rfl rfl) ?_
 refine d_tv 17 rfl rfl (by kernel_rfl) rfl (.cons _ (.refl _)) rfl (v_move rfl) ?_
 refine d_tv 18 rfl rfl (by kernel_rfl) rfl (.cons _ (.refl _)) rfl (v_nilCheck rfl) ?_
 refine d_tv 19 rfl rfl (by kernel_rfl) rfl (.cons _ (.refl _)) rfl (v_fieldAddr he rfl) ?_
 refine d_tv 21 rfl rfl (by kernel_rfl) rfl (.cons _ (.refl _)) rfl (v_ldw m0 he rfl rfl) ?_
 refine d_three 6 13 20 (by kernel_rfl) rfl rfl rfl ?_ ?_ ?_
 ·refine o_val rfl (v_ldcf (p.life.km.cells) m0 hU he rfl (i) 8 (by omega) hi rfl rfl rfl) ?_
  refine d_on (fun _ m => m.keeps (.cons _ (.refl _))) ?_
  refine d_three 9 13 20 (by kernel_rfl) rfl rfl rfl ?_ ?_ ?_
  ·refine o_callV (ivAdd _ p.life.km u.km) rfl rfl ?_
   refine d_on (fun _ m => m.keeps (.cons _ (.refl _))) ?_
   refine d_two 13 20 (by kernel_rfl) rfl rfl ?_ ?_
   ·refine o_val rfl (v_ldcf (p.life.cycles.cells) m0 hU he rfl (i) 10 (by omega) hi rfl rfl rfl) ?_
    refine d_on (fun _ m => m.keeps (.cons _ (.refl _))) ?_
    refine d_two 16 20 (by kernel_rfl) rfl rfl ?_ ?_
    ·refine o_callV (ivAdd _ p.life.cycles u.cycles) rfl rfl ?_
     refine d_on (fun _ m => m.keeps (.cons _ (.refl _))) ?_
     refine d_one 20 (by kernel_rfl) rfl ?_
     refine o_val rfl (v_ldcf (p.life.damage.cells) m0 hU he rfl (i) 12 (by omega) hi rfl rfl rfl) ?_
     refine d_on (fun _ m => m.keeps (.cons _ (.refl _))) ?_
     refine d_one 22 (by kernel_rfl) rfl ?_
     refine o_callV (ivAdd _ p.life.damage dd) rfl rfl ?_
     refine d_on (fun _ m => m.keeps (.cons _ (.refl _))) ?_
     refine d_tv 23 rfl rfl (by kernel_rfl) rfl (.cons _ (.refl _)) rfl (v_nilCheck rfl) ?_
     refine d_tv 24 rfl rfl (by kernel_rfl) rfl (.cons _ (.refl _)) rfl (v_fieldAddr he rfl) ?_
     refine d_one 25 (by kernel_rfl) rfl ?_
     refine o_stcf _ _ (by first | exact hU | exact hU.set rfl _ | exact (hU.set rfl _).set rfl _) he rfl rfl rfl rfl rfl (i) 8 (by omega) (by first | exact hi | exact set_at hi | exact set_at (set_at hi)) (by decide) rfl ?_
     refine d_on (fun _ m => m.keeps (.cons _ (.refl _))) ?_
     refine d_tv 26 rfl rfl (by kernel_rfl) rfl (.cons _ (.refl _)) rfl (v_nilCheck rfl) ?_
     refine d_tv 27 rfl rfl (by kernel_rfl) rfl (.cons _ (.refl _)) rfl (v_fieldAddr he rfl) ?_
     refine d_one 28 (by kernel_rfl) rfl ?_
     refine o_stcf _ _ (by first | exact hU | exact hU.set rfl _ | exact (hU.set rfl _).set rfl _) he rfl rfl rfl rfl rfl (i) 10 (by omega) (by first | exact hi | exact set_at hi | exact set_at (set_at hi)) (by decide) rfl ?_
     refine d_on (fun _ m => m.keeps (.cons _ (.refl _))) ?_
     refine d_tv 29 rfl rfl (by kernel_rfl) rfl (.cons _ (.refl _)) rfl (v_nilCheck rfl) ?_
     refine d_tv 30 rfl rfl (by kernel_rfl) rfl (.cons _ (.refl _)) rfl (v_fieldAddr he rfl) ?_
     refine d_one 31 (by kernel_rfl) rfl ?_
     refine o_stcf _ _ (by first | exact hU | exact hU.set rfl _ | exact (hU.set rfl _).set rfl _) he rfl rfl rfl rfl rfl (i) 12 (by omega) (by first | exact hi | exact set_at hi | exact set_at (set_at hi)) (by decide) rfl ?_
     refine d_on (fun _ m => m.keeps (.cons _ (.refl _))) ?_
     refine d_done (by kernel_rfl) ?_
     refine end0 rfl ?_
     refine bring1 ?_
     refine sx_drop ?_
     refine bring1 ?_
     refine sx_drop ?_
     exact q_m' (by rw [List.set_set, List.set_set]; rfl)
    ·refine o_val rfl (v_ldcf (p.life.damage.cells) m0 hU he rfl (i) 12 (by omega) hi rfl rfl rfl) ?_
     refine d_on (fun _ m => m.keeps (.cons _ (.refl _))) ?_
     refine d_one 16 (by kernel_rfl) rfl ?_
     refine o_callV (ivAdd _ p.life.cycles u.cycles) rfl rfl ?_
     refine d_on (fun _ m => m.keeps (.cons _ (.refl _))) ?_
     refine d_one 22 (by kernel_rfl) rfl ?_
     refine o_callV (ivAdd _ p.life.damage dd) rfl rfl ?_
     refine d_on (fun _ m => m.keeps (.cons _ (.refl _))) ?_
     refine d_tv 23 rfl rfl (by kernel_rfl) rfl (.cons _ (.refl _)) rfl (v_nilCheck rfl) ?_
     refine d_tv 24 rfl rfl (by kernel_rfl) rfl (.cons _ (.refl _)) rfl (v_fieldAddr he rfl) ?_
     refine d_one 25 (by kernel_rfl) rfl ?_
     refine o_stcf _ _ (by first | exact hU | exact hU.set rfl _ | exact (hU.set rfl _).set rfl _) he rfl rfl rfl rfl rfl (i) 8 (by omega) (by first | exact hi | exact set_at hi | exact set_at (set_at hi)) (by decide) rfl ?_
     refine d_on (fun _ m => m.keeps (.cons _ (.refl _))) ?_
     refine d_tv 26 rfl rfl (by kernel_rfl) rfl (.cons _ (.refl _)) rfl (v_nilCheck rfl) ?_
     refine d_tv 27 rfl rfl (by kernel_rfl) rfl (.cons _ (.refl _)) rfl (v_fieldAddr he rfl) ?_
     refine d_one 28 (by kernel_rfl) rfl ?_
     refine o_stcf _ _ (by first | exact hU | exact hU.set rfl _ | exact (hU.set rfl _).set rfl _) he rfl rfl rfl rfl rfl (i) 10 (by omega) (by first | exact hi | exact set_at hi | exact set_at (set_at hi)) (by decide) rfl ?_
     refine d_on (fun _ m => m.keeps (.cons _ (.refl _))) ?_
     refine d_tv 29 rfl rfl (by kernel_rfl) rfl (.cons _ (.refl _)) rfl (v_nilCheck rfl) ?_
     refine d_tv 30 rfl rfl (by kernel_rfl) rfl (.cons _ (.refl _)) rfl (v_fieldAddr he rfl) ?_
     refine d_one 31 (by kernel_rfl) rfl ?_
     refine o_stcf _ _ (by first | exact hU | exact hU.set rfl _ | exact (hU.set rfl _).set rfl _) he rfl rfl rfl rfl rfl (i) 12 (by omega) (by first | exact hi | exact set_at hi | exact set_at (set_at hi)) (by decide) rfl ?_
     refine d_on (fun _ m => m.keeps (.cons _ (.refl _))) ?_
     refine d_done (by kernel_rfl) ?_
     refine end0 rfl ?_
     refine bring1 ?_
     refine sx_drop ?_
     refine bring1 ?_
     refine sx_drop ?_
     exact q_m' (by rw [List.set_set, List.set_set]; rfl)
   ·refine o_val rfl (v_ldcf (p.life.damage.cells) m0 hU he rfl (i) 12 (by omega) hi rfl rfl rfl) ?_
    refine d_on (fun _ m => m.keeps (.cons _ (.refl _))) ?_
    refine d_one 13 (by kernel_rfl) rfl ?_
    refine o_val rfl (v_ldcf (p.life.cycles.cells) m0 hU he rfl (i) 10 (by omega) hi rfl rfl rfl) ?_
    refine d_on (fun _ m => m.keeps (.cons _ (.refl _))) ?_
    refine d_one 16 (by kernel_rfl) rfl ?_
    refine o_callV (ivAdd _ p.life.cycles u.cycles) rfl rfl ?_
    refine d_on (fun _ m => m.keeps (.cons _ (.refl _))) ?_
    refine d_one 22 (by kernel_rfl) rfl ?_
    refine o_callV (ivAdd _ p.life.damage dd) rfl rfl ?_
    refine d_on (fun _ m => m.keeps (.cons _ (.refl _))) ?_
    refine d_tv 23 rfl rfl (by kernel_rfl) rfl (.cons _ (.refl _)) rfl (v_nilCheck rfl) ?_
    refine d_tv 24 rfl rfl (by kernel_rfl) rfl (.cons _ (.refl _)) rfl (v_fieldAddr he rfl) ?_
    refine d_one 25 (by kernel_rfl) rfl ?_
    refine o_stcf _ _ (by first | exact hU | exact hU.set rfl _ | exact (hU.set rfl _).set rfl _) he rfl rfl rfl rfl rfl (i) 8 (by omega) (by first | exact hi | exact set_at hi | exact set_at (set_at hi)) (by decide) rfl ?_
    refine d_on (fun _ m => m.keeps (.cons _ (.refl _))) ?_
    refine d_tv 26 rfl rfl (by kernel_rfl) rfl (.cons _ (.refl _)) rfl (v_nilCheck rfl) ?_
    refine d_tv 27 rfl rfl (by kernel_rfl) rfl (.cons _ (.refl _)) rfl (v_fieldAddr he rfl) ?_
    refine d_one 28 (by kernel_rfl) rfl ?_
    refine o_stcf _ _ (by first | exact hU | exact hU.set rfl _ | exact (hU.set rfl _).set rfl _) he rfl rfl rfl rfl rfl (i) 10 (by omega) (by first | exact hi | exact set_at hi | exact set_at (set_at hi)) (by decide) rfl ?_
    refine d_on (fun _ m => m.keeps (.cons _ (.refl _))) ?_
    refine d_tv 29 rfl rfl (by kernel_rfl) rfl (.cons _ (.refl _)) rfl (v_nilCheck rfl) ?_
    refine d_tv 30 rfl rfl (by kernel_rfl) rfl (.cons _ (.refl _)) rfl (v_fieldAddr he rfl) ?_
    refine d_one 31 (by kernel_rfl) rfl ?_
    refine o_stcf _ _ (by first | exact hU | exact hU.set rfl _ | exact (hU.set rfl _).set rfl _) he rfl rfl rfl rfl rfl (i) 12 (by omega) (by first | exact hi | exact set_at hi | exact set_at (set_at hi)) (by decide) rfl ?_
    refine d_on (fun _ m => m.keeps (.cons _ (.refl _))) ?_
    refine d_done (by kernel_rfl) ?_
    refine end0 rfl ?_
    refine bring1 ?_
    refine sx_drop ?_
    refine bring1 ?_
    refine sx_drop ?_
    exact q_m' (by rw [List.set_set, List.set_set]; rfl)
  ·refine o_val rfl (v_ldcf (p.life.cycles.cells) m0 hU he rfl (i) 10 (by omega) hi rfl rfl rfl) ?_
   refine d_on (fun _ m => m.keeps (.cons _ (.refl _))) ?_
   refine d_two 9 20 (by kernel_rfl) rfl rfl ?_ ?_
   ·refine o_callV (ivAdd _ p.life.km u.km) rfl rfl ?_
    refine d_on (fun _ m => m.keeps (.cons _ (.refl _))) ?_
    refine d_two 16 20 (by kernel_rfl) rfl rfl ?_ ?_
    ·refine o_callV (ivAdd _ p.life.cycles u.cycles) rfl rfl ?_
     refine d_on (fun _ m => m.keeps (.cons _ (.refl _))) ?_
     refine d_one 20 (by kernel_rfl) rfl ?_
     refine o_val rfl (v_ldcf (p.life.damage.cells) m0 hU he rfl (i) 12 (by omega) hi rfl rfl rfl) ?_
     refine d_on (fun _ m => m.keeps (.cons _ (.refl _))) ?_
     refine d_one 22 (by kernel_rfl) rfl ?_
     refine o_callV (ivAdd _ p.life.damage dd) rfl rfl ?_
     refine d_on (fun _ m => m.keeps (.cons _ (.refl _))) ?_
     refine d_tv 23 rfl rfl (by kernel_rfl) rfl (.cons _ (.refl _)) rfl (v_nilCheck rfl) ?_
     refine d_tv 24 rfl rfl (by kernel_rfl) rfl (.cons _ (.refl _)) rfl (v_fieldAddr he rfl) ?_
     refine d_one 25 (by kernel_rfl) rfl ?_
     refine o_stcf _ _ (by first | exact hU | exact hU.set rfl _ | exact (hU.set rfl _).set rfl _) he rfl rfl rfl rfl rfl (i) 8 (by omega) (by first | exact hi | exact set_at hi | exact set_at (set_at hi)) (by decide) rfl ?_
     refine d_on (fun _ m => m.keeps (.cons _ (.refl _))) ?_
     refine d_tv 26 rfl rfl (by kernel_rfl) rfl (.cons _ (.refl _)) rfl (v_nilCheck rfl) ?_
     refine d_tv 27 rfl rfl (by kernel_rfl) rfl (.cons _ (.refl _)) rfl (v_fieldAddr he rfl) ?_
     refine d_one 28 (by kernel_rfl) rfl ?_
     refine o_stcf _ _ (by first | exact hU | exact hU.set rfl _ | exact (hU.set rfl _).set rfl _) he rfl rfl rfl rfl rfl (i) 10 (by omega) (by first | exact hi | exact set_at hi | exact set_at (set_at hi)) (by decide) rfl ?_
     refine d_on (fun _ m => m.keeps (.cons _ (.refl _))) ?_
     refine d_tv 29 rfl rfl (by kernel_rfl) rfl (.cons _ (.refl _)) rfl (v_nilCheck rfl) ?_
     refine d_tv 30 rfl rfl (by kernel_rfl) rfl (.cons _ (.refl _)) rfl (v_fieldAddr he rfl) ?_
     refine d_one 31 (by kernel_rfl) rfl ?_
     refine o_stcf _ _ (by first | exact hU | exact hU.set rfl _ | exact (hU.set rfl _).set rfl _) he rfl rfl rfl rfl rfl (i) 12 (by omega) (by first | exact hi | exact set_at hi | exact set_at (set_at hi)) (by decide) rfl ?_
     refine d_on (fun _ m => m.keeps (.cons _ (.refl _))) ?_
     refine d_done (by kernel_rfl) ?_
     refine end0 rfl ?_
     refine bring1 ?_
     refine sx_drop ?_
     refine bring1 ?_
     refine sx_drop ?_
     exact q_m' (by rw [List.set_set, List.set_set]; rfl)
    ·refine o_val rfl (v_ldcf (p.life.damage.cells) m0 hU he rfl (i) 12 (by omega) hi rfl rfl rfl) ?_
     refine d_on (fun _ m => m.keeps (.cons _ (.refl _))) ?_
     refine d_one 16 (by kernel_rfl) rfl ?_
     refine o_callV (ivAdd _ p.life.cycles u.cycles) rfl rfl ?_
     refine d_on (fun _ m => m.keeps (.cons _ (.refl _))) ?_
     refine d_one 22 (by kernel_rfl) rfl ?_
     refine o_callV (ivAdd _ p.life.damage dd) rfl rfl ?_
     refine d_on (fun _ m => m.keeps (.cons _ (.refl _))) ?_
     refine d_tv 23 rfl rfl (by kernel_rfl) rfl (.cons _ (.refl _)) rfl (v_nilCheck rfl) ?_
     refine d_tv 24 rfl rfl (by kernel_rfl) rfl (.cons _ (.refl _)) rfl (v_fieldAddr he rfl) ?_
     refine d_one 25 (by kernel_rfl) rfl ?_
     refine o_stcf _ _ (by first | exact hU | exact hU.set rfl _ | exact (hU.set rfl _).set rfl _) he rfl rfl rfl rfl rfl (i) 8 (by omega) (by first | exact hi | exact set_at hi | exact set_at (set_at hi)) (by decide) rfl ?_
     refine d_on (fun _ m => m.keeps (.cons _ (.refl _))) ?_
     refine d_tv 26 rfl rfl (by kernel_rfl) rfl (.cons _ (.refl _)) rfl (v_nilCheck rfl) ?_
     refine d_tv 27 rfl rfl (by kernel_rfl) rfl (.cons _ (.refl _)) rfl (v_fieldAddr he rfl) ?_
     refine d_one 28 (by kernel_rfl) rfl ?_
     refine o_stcf _ _ (by first | exact hU | exact hU.set rfl _ | exact (hU.set rfl _).set rfl _) he rfl rfl rfl rfl rfl (i) 10 (by omega) (by first | exact hi | exact set_at hi | exact set_at (set_at hi)) (by decide) rfl ?_
     refine d_on (fun _ m => m.keeps (.cons _ (.refl _))) ?_
     refine d_tv 29 rfl rfl (by kernel_rfl) rfl (.cons _ (.refl _)) rfl (v_nilCheck rfl) ?_
     refine d_tv 30 rfl rfl (by kernel_rfl) rfl (.cons _ (.refl _)) rfl (v_fieldAddr he rfl) ?_
     refine d_one 31 (by kernel_rfl) rfl ?_
     refine o_stcf _ _ (by first | exact hU | exact hU.set rfl _ | exact (hU.set rfl _).set rfl _) he rfl rfl rfl rfl rfl (i) 12 (by omega) (by first | exact hi | exact set_at hi | exact set_at (set_at hi)) (by decide) rfl ?_
     refine d_on (fun _ m => m.keeps (.cons _ (.refl _))) ?_
     refine d_done (by kernel_rfl) ?_
     refine end0 rfl ?_
     refine bring1 ?_
     refine sx_drop ?_
     refine bring1 ?_
     refine sx_drop ?_
     exact q_m' (by rw [List.set_set, List.set_set]; rfl)
   ·refine o_val rfl (v_ldcf (p.life.damage.cells) m0 hU he rfl (i) 12 (by omega) hi rfl rfl rfl) ?_
    refine d_on (fun _ m => m.keeps (.cons _ (.refl _))) ?_
    refine d_one 9 (by kernel_rfl) rfl ?_
    refine o_callV (ivAdd _ p.life.km u.km) rfl rfl ?_
    refine d_on (fun _ m => m.keeps (.cons _ (.refl _))) ?_
    refine d_one 16 (by kernel_rfl) rfl ?_
    refine o_callV (ivAdd _ p.life.cycles u.cycles) rfl rfl ?_
    refine d_on (fun _ m => m.keeps (.cons _ (.refl _))) ?_
    refine d_one 22 (by kernel_rfl) rfl ?_
    refine o_callV (ivAdd _ p.life.damage dd) rfl rfl ?_
    refine d_on (fun _ m => m.keeps (.cons _ (.refl _))) ?_
    refine d_tv 23 rfl rfl (by kernel_rfl) rfl (.cons _ (.refl _)) rfl (v_nilCheck rfl) ?_
    refine d_tv 24 rfl rfl (by kernel_rfl) rfl (.cons _ (.refl _)) rfl (v_fieldAddr he rfl) ?_
    refine d_one 25 (by kernel_rfl) rfl ?_
    refine o_stcf _ _ (by first | exact hU | exact hU.set rfl _ | exact (hU.set rfl _).set rfl _) he rfl rfl rfl rfl rfl (i) 8 (by omega) (by first | exact hi | exact set_at hi | exact set_at (set_at hi)) (by decide) rfl ?_
    refine d_on (fun _ m => m.keeps (.cons _ (.refl _))) ?_
    refine d_tv 26 rfl rfl (by kernel_rfl) rfl (.cons _ (.refl _)) rfl (v_nilCheck rfl) ?_
    refine d_tv 27 rfl rfl (by kernel_rfl) rfl (.cons _ (.refl _)) rfl (v_fieldAddr he rfl) ?_
    refine d_one 28 (by kernel_rfl) rfl ?_
    refine o_stcf _ _ (by first | exact hU | exact hU.set rfl _ | exact (hU.set rfl _).set rfl _) he rfl rfl rfl rfl rfl (i) 10 (by omega) (by first | exact hi | exact set_at hi | exact set_at (set_at hi)) (by decide) rfl ?_
    refine d_on (fun _ m => m.keeps (.cons _ (.refl _))) ?_
    refine d_tv 29 rfl rfl (by kernel_rfl) rfl (.cons _ (.refl _)) rfl (v_nilCheck rfl) ?_
    refine d_tv 30 rfl rfl (by kernel_rfl) rfl (.cons _ (.refl _)) rfl (v_fieldAddr he rfl) ?_
    refine d_one 31 (by kernel_rfl) rfl ?_
    refine o_stcf _ _ (by first | exact hU | exact hU.set rfl _ | exact (hU.set rfl _).set rfl _) he rfl rfl rfl rfl rfl (i) 12 (by omega) (by first | exact hi | exact set_at hi | exact set_at (set_at hi)) (by decide) rfl ?_
    refine d_on (fun _ m => m.keeps (.cons _ (.refl _))) ?_
    refine d_done (by kernel_rfl) ?_
    refine end0 rfl ?_
    refine bring1 ?_
    refine sx_drop ?_
    refine bring1 ?_
    refine sx_drop ?_
    exact q_m' (by rw [List.set_set, List.set_set]; rfl)
  ·refine o_val rfl (v_ldcf (p.life.damage.cells) m0 hU he rfl (i) 12 (by omega) hi rfl rfl rfl) ?_
   refine d_on (fun _ m => m.keeps (.cons _ (.refl _))) ?_
   refine d_two 9 13 (by kernel_rfl) rfl rfl ?_ ?_
   ·refine o_callV (ivAdd _ p.life.km u.km) rfl rfl ?_
    refine d_on (fun _ m => m.keeps (.cons _ (.refl _))) ?_
    refine d_one 13 (by kernel_rfl) rfl ?_
    refine o_val rfl (v_ldcf (p.life.cycles.cells) m0 hU he rfl (i) 10 (by omega) hi rfl rfl rfl) ?_
    refine d_on (fun _ m => m.keeps (.cons _ (.refl _))) ?_
    refine d_one 16 (by kernel_rfl) rfl ?_
    refine o_callV (ivAdd _ p.life.cycles u.cycles) rfl rfl ?_
    refine d_on (fun _ m => m.keeps (.cons _ (.refl _))) ?_
    refine d_one 22 (by kernel_rfl) rfl ?_
    refine o_callV (ivAdd _ p.life.damage dd) rfl rfl ?_
    refine d_on (fun _ m => m.keeps (.cons _ (.refl _))) ?_
    refine d_tv 23 rfl rfl (by kernel_rfl) rfl (.cons _ (.refl _)) rfl (v_nilCheck rfl) ?_
    refine d_tv 24 rfl rfl (by kernel_rfl) rfl (.cons _ (.refl _)) rfl (v_fieldAddr he rfl) ?_
    refine d_one 25 (by kernel_rfl) rfl ?_
    refine o_stcf _ _ (by first | exact hU | exact hU.set rfl _ | exact (hU.set rfl _).set rfl _) he rfl rfl rfl rfl rfl (i) 8 (by omega) (by first | exact hi | exact set_at hi | exact set_at (set_at hi)) (by decide) rfl ?_
    refine d_on (fun _ m => m.keeps (.cons _ (.refl _))) ?_
    refine d_tv 26 rfl rfl (by kernel_rfl) rfl (.cons _ (.refl _)) rfl (v_nilCheck rfl) ?_
    refine d_tv 27 rfl rfl (by kernel_rfl) rfl (.cons _ (.refl _)) rfl (v_fieldAddr he rfl) ?_
    refine d_one 28 (by kernel_rfl) rfl ?_
    refine o_stcf _ _ (by first | exact hU | exact hU.set rfl _ | exact (hU.set rfl _).set rfl _) he rfl rfl rfl rfl rfl (i) 10 (by omega) (by first | exact hi | exact set_at hi | exact set_at (set_at hi)) (by decide) rfl ?_
    refine d_on (fun _ m => m.keeps (.cons _ (.refl _))) ?_
    refine d_tv 29 rfl rfl (by kernel_rfl) rfl (.cons _ (.refl _)) rfl (v_nilCheck rfl) ?_
    refine d_tv 30 rfl rfl (by kernel_rfl) rfl (.cons _ (.refl _)) rfl (v_fieldAddr he rfl) ?_
    refine d_one 31 (by kernel_rfl) rfl ?_
    refine o_stcf _ _ (by first | exact hU | exact hU.set rfl _ | exact (hU.set rfl _).set rfl _) he rfl rfl rfl rfl rfl (i) 12 (by omega) (by first | exact hi | exact set_at hi | exact set_at (set_at hi)) (by decide) rfl ?_
    refine d_on (fun _ m => m.keeps (.cons _ (.refl _))) ?_
    refine d_done (by kernel_rfl) ?_
    refine end0 rfl ?_
    refine bring1 ?_
    refine sx_drop ?_
    refine bring1 ?_
    refine sx_drop ?_
    exact q_m' (by rw [List.set_set, List.set_set]; rfl)
   ·refine o_val rfl (v_ldcf (p.life.cycles.cells) m0 hU he rfl (i) 10 (by omega) hi rfl rfl rfl) ?_
    refine d_on (fun _ m => m.keeps (.cons _ (.refl _))) ?_
    refine d_one 9 (by kernel_rfl) rfl ?_
    refine o_callV (ivAdd _ p.life.km u.km) rfl rfl ?_
    refine d_on (fun _ m => m.keeps (.cons _ (.refl _))) ?_
    refine d_one 16 (by kernel_rfl) rfl ?_
    refine o_callV (ivAdd _ p.life.cycles u.cycles) rfl rfl ?_
    refine d_on (fun _ m => m.keeps (.cons _ (.refl _))) ?_
    refine d_one 22 (by kernel_rfl) rfl ?_
    refine o_callV (ivAdd _ p.life.damage dd) rfl rfl ?_
    refine d_on (fun _ m => m.keeps (.cons _ (.refl _))) ?_
    refine d_tv 23 rfl rfl (by kernel_rfl) rfl (.cons _ (.refl _)) rfl (v_nilCheck rfl) ?_
    refine d_tv 24 rfl rfl (by kernel_rfl) rfl (.cons _ (.refl _)) rfl (v_fieldAddr he rfl) ?_
    refine d_one 25 (by kernel_rfl) rfl ?_
    refine o_stcf _ _ (by first | exact hU | exact hU.set rfl _ | exact (hU.set rfl _).set rfl _) he rfl rfl rfl rfl rfl (i) 8 (by omega) (by first | exact hi | exact set_at hi | exact set_at (set_at hi)) (by decide) rfl ?_
    refine d_on (fun _ m => m.keeps (.cons _ (.refl _))) ?_
    refine d_tv 26 rfl rfl (by kernel_rfl) rfl (.cons _ (.refl _)) rfl (v_nilCheck rfl) ?_
    refine d_tv 27 rfl rfl (by kernel_rfl) rfl (.cons _ (.refl _)) rfl (v_fieldAddr he rfl) ?_
    refine d_one 28 (by kernel_rfl) rfl ?_
    refine o_stcf _ _ (by first | exact hU | exact hU.set rfl _ | exact (hU.set rfl _).set rfl _) he rfl rfl rfl rfl rfl (i) 10 (by omega) (by first | exact hi | exact set_at hi | exact set_at (set_at hi)) (by decide) rfl ?_
    refine d_on (fun _ m => m.keeps (.cons _ (.refl _))) ?_
    refine d_tv 29 rfl rfl (by kernel_rfl) rfl (.cons _ (.refl _)) rfl (v_nilCheck rfl) ?_
    refine d_tv 30 rfl rfl (by kernel_rfl) rfl (.cons _ (.refl _)) rfl (v_fieldAddr he rfl) ?_
    refine d_one 31 (by kernel_rfl) rfl ?_
    refine o_stcf _ _ (by first | exact hU | exact hU.set rfl _ | exact (hU.set rfl _).set rfl _) he rfl rfl rfl rfl rfl (i) 12 (by omega) (by first | exact hi | exact set_at hi | exact set_at (set_at hi)) (by decide) rfl ?_
    refine d_on (fun _ m => m.keeps (.cons _ (.refl _))) ?_
    refine d_done (by kernel_rfl) ?_
    refine end0 rfl ?_
    refine bring1 ?_
    refine sx_drop ?_
    refine bring1 ?_
    refine sx_drop ?_
    exact q_m' (by rw [List.set_set, List.set_set]; rfl)
 ·refine o_val rfl (v_ldcf (p.life.cycles.cells) m0 hU he rfl (i) 10 (by omega) hi rfl rfl rfl) ?_
  refine d_on (fun _ m => m.keeps (.cons _ (.refl _))) ?_
  refine d_two 6 20 (by kernel_rfl) rfl rfl ?_ ?_
  ·refine o_val rfl (v_ldcf (p.life.km.cells) m0 hU he rfl (i) 8 (by omega) hi rfl rfl rfl) ?_
   refine d_on (fun _ m => m.keeps (.cons _ (.refl _))) ?_
   refine d_two 9 20 (by kernel_rfl) rfl rfl ?_ ?_
   ·refine o_callV (ivAdd _ p.life.km u.km) rfl rfl ?_
    refine d_on (fun _ m => m.keeps (.cons _ (.refl _))) ?_
    refine d_two 16 20 (by kernel_rfl) rfl rfl ?_ ?_
    ·refine o_callV (ivAdd _ p.life.cycles u.cycles) rfl rfl ?_
     refine d_on (fun _ m => m.keeps (.cons _ (.refl _))) ?_
     refine d_one 20 (by kernel_rfl) rfl ?_
     refine o_val rfl (v_ldcf (p.life.damage.cells) m0 hU he rfl (i) 12 (by omega) hi rfl rfl rfl) ?_
     refine d_on (fun _ m => m.keeps (.cons _ (.refl _))) ?_
     refine d_one 22 (by kernel_rfl) rfl ?_
     refine o_callV (ivAdd _ p.life.damage dd) rfl rfl ?_
     refine d_on (fun _ m => m.keeps (.cons _ (.refl _))) ?_
     refine d_tv 23 rfl rfl (by kernel_rfl) rfl (.cons _ (.refl _)) rfl (v_nilCheck rfl) ?_
     refine d_tv 24 rfl rfl (by kernel_rfl) rfl (.cons _ (.refl _)) rfl (v_fieldAddr he rfl) ?_
     refine d_one 25 (by kernel_rfl) rfl ?_
     refine o_stcf _ _ (by first | exact hU | exact hU.set rfl _ | exact (hU.set rfl _).set rfl _) he rfl rfl rfl rfl rfl (i) 8 (by omega) (by first | exact hi | exact set_at hi | exact set_at (set_at hi)) (by decide) rfl ?_
     refine d_on (fun _ m => m.keeps (.cons _ (.refl _))) ?_
     refine d_tv 26 rfl rfl (by kernel_rfl) rfl (.cons _ (.refl _)) rfl (v_nilCheck rfl) ?_
     refine d_tv 27 rfl rfl (by kernel_rfl) rfl (.cons _ (.refl _)) rfl (v_fieldAddr he rfl) ?_
     refine d_one 28 (by kernel_rfl) rfl ?_
     refine o_stcf _ _ (by first | exact hU | exact hU.set rfl _ | exact (hU.set rfl _).set rfl _) he rfl rfl rfl rfl rfl (i) 10 (by omega) (by first | exact hi | exact set_at hi | exact set_at (set_at hi)) (by decide) rfl ?_
     refine d_on (fun _ m => m.keeps (.cons _ (.refl _))) ?_
     refine d_tv 29 rfl rfl (by kernel_rfl) rfl (.cons _ (.refl _)) rfl (v_nilCheck rfl) ?_
     refine d_tv 30 rfl rfl (by kernel_rfl) rfl (.cons _ (.refl _)) rfl (v_fieldAddr he rfl) ?_
     refine d_one 31 (by kernel_rfl) rfl ?_
     refine o_stcf _ _ (by first | exact hU | exact hU.set rfl _ | exact (hU.set rfl _).set rfl _) he rfl rfl rfl rfl rfl (i) 12 (by omega) (by first | exact hi | exact set_at hi | exact set_at (set_at hi)) (by decide) rfl ?_
     refine d_on (fun _ m => m.keeps (.cons _ (.refl _))) ?_
     refine d_done (by kernel_rfl) ?_
     refine end0 rfl ?_
     refine bring1 ?_
     refine sx_drop ?_
     refine bring1 ?_
     refine sx_drop ?_
     exact q_m' (by rw [List.set_set, List.set_set]; rfl)
    ·refine o_val rfl (v_ldcf (p.life.damage.cells) m0 hU he rfl (i) 12 (by omega) hi rfl rfl rfl) ?_
     refine d_on (fun _ m => m.keeps (.cons _ (.refl _))) ?_
     refine d_one 16 (by kernel_rfl) rfl ?_
     refine o_callV (ivAdd _ p.life.cycles u.cycles) rfl rfl ?_
     refine d_on (fun _ m => m.keeps (.cons _ (.refl _))) ?_
     refine d_one 22 (by kernel_rfl) rfl ?_
     refine o_callV (ivAdd _ p.life.damage dd) rfl rfl ?_
     refine d_on (fun _ m => m.keeps (.cons _ (.refl _))) ?_
     refine d_tv 23 rfl rfl (by kernel_rfl) rfl (.cons _ (.refl _)) rfl (v_nilCheck rfl) ?_
     refine d_tv 24 rfl rfl (by kernel_rfl) rfl (.cons _ (.refl _)) rfl (v_fieldAddr he rfl) ?_
     refine d_one 25 (by kernel_rfl) rfl ?_
     refine o_stcf _ _ (by first | exact hU | exact hU.set rfl _ | exact (hU.set rfl _).set rfl _) he rfl rfl rfl rfl rfl (i) 8 (by omega) (by first | exact hi | exact set_at hi | exact set_at (set_at hi)) (by decide) rfl ?_
     refine d_on (fun _ m => m.keeps (.cons _ (.refl _))) ?_
     refine d_tv 26 rfl rfl (by kernel_rfl) rfl (.cons _ (.refl _)) rfl (v_nilCheck rfl) ?_
     refine d_tv 27 rfl rfl (by kernel_rfl) rfl (.cons _ (.refl _)) rfl (v_fieldAddr he rfl) ?_
     refine d_one 28 (by kernel_rfl) rfl ?_
     refine o_stcf _ _ (by first | exact hU | exact hU.set rfl _ | exact (hU.set rfl _).set rfl _) he rfl rfl rfl rfl rfl (i) 10 (by omega) (by first | exact hi | exact set_at hi | exact set_at (set_at hi)) (by decide) rfl ?_
     refine d_on (fun _ m => m.keeps (.cons _ (.refl _))) ?_
     refine d_tv 29 rfl rfl (by kernel_rfl) rfl (.cons _ (.refl _)) rfl (v_nilCheck rfl) ?_
     refine d_tv 30 rfl rfl (by kernel_rfl) rfl (.cons _ (.refl _)) rfl (v_fieldAddr he rfl) ?_
     refine d_one 31 (by kernel_rfl) rfl ?_
     refine o_stcf _ _ (by first | exact hU | exact hU.set rfl _ | exact (hU.set rfl _).set rfl _) he rfl rfl rfl rfl rfl (i) 12 (by omega) (by first | exact hi | exact set_at hi | exact set_at (set_at hi)) (by decide) rfl ?_
     refine d_on (fun _ m => m.keeps (.cons _ (.refl _))) ?_
     refine d_done (by kernel_rfl) ?_
     refine end0 rfl ?_
     refine bring1 ?_
     refine sx_drop ?_
     refine bring1 ?_
     refine sx_drop ?_
     exact q_m' (by rw [List.set_set, List.set_set]; rfl)
   ·refine o_val rfl (v_ldcf (p.life.damage.cells) m0 hU he rfl (i) 12 (by omega) hi rfl rfl rfl) ?_
    refine d_on (fun _ m => m.keeps (.cons _ (.refl _))) ?_
    refine d_one 9 (by kernel_rfl) rfl ?_
    refine o_callV (ivAdd _ p.life.km u.km) rfl rfl ?_
    refine d_on (fun _ m => m.keeps (.cons _ (.refl _))) ?_
    refine d_one 16 (by kernel_rfl) rfl ?_
    refine o_callV (ivAdd _ p.life.cycles u.cycles) rfl rfl ?_
    refine d_on (fun _ m => m.keeps (.cons _ (.refl _))) ?_
    refine d_one 22 (by kernel_rfl) rfl ?_
    refine o_callV (ivAdd _ p.life.damage dd) rfl rfl ?_
    refine d_on (fun _ m => m.keeps (.cons _ (.refl _))) ?_
    refine d_tv 23 rfl rfl (by kernel_rfl) rfl (.cons _ (.refl _)) rfl (v_nilCheck rfl) ?_
    refine d_tv 24 rfl rfl (by kernel_rfl) rfl (.cons _ (.refl _)) rfl (v_fieldAddr he rfl) ?_
    refine d_one 25 (by kernel_rfl) rfl ?_
    refine o_stcf _ _ (by first | exact hU | exact hU.set rfl _ | exact (hU.set rfl _).set rfl _) he rfl rfl rfl rfl rfl (i) 8 (by omega) (by first | exact hi | exact set_at hi | exact set_at (set_at hi)) (by decide) rfl ?_
    refine d_on (fun _ m => m.keeps (.cons _ (.refl _))) ?_
    refine d_tv 26 rfl rfl (by kernel_rfl) rfl (.cons _ (.refl _)) rfl (v_nilCheck rfl) ?_
    refine d_tv 27 rfl rfl (by kernel_rfl) rfl (.cons _ (.refl _)) rfl (v_fieldAddr he rfl) ?_
    refine d_one 28 (by kernel_rfl) rfl ?_
    refine o_stcf _ _ (by first | exact hU | exact hU.set rfl _ | exact (hU.set rfl _).set rfl _) he rfl rfl rfl rfl rfl (i) 10 (by omega) (by first | exact hi | exact set_at hi | exact set_at (set_at hi)) (by decide) rfl ?_
    refine d_on (fun _ m => m.keeps (.cons _ (.refl _))) ?_
    refine d_tv 29 rfl rfl (by kernel_rfl) rfl (.cons _ (.refl _)) rfl (v_nilCheck rfl) ?_
    refine d_tv 30 rfl rfl (by kernel_rfl) rfl (.cons _ (.refl _)) rfl (v_fieldAddr he rfl) ?_
    refine d_one 31 (by kernel_rfl) rfl ?_
    refine o_stcf _ _ (by first | exact hU | exact hU.set rfl _ | exact (hU.set rfl _).set rfl _) he rfl rfl rfl rfl rfl (i) 12 (by omega) (by first | exact hi | exact set_at hi | exact set_at (set_at hi)) (by decide) rfl ?_
    refine d_on (fun _ m => m.keeps (.cons _ (.refl _))) ?_
    refine d_done (by kernel_rfl) ?_
    refine end0 rfl ?_
    refine bring1 ?_
    refine sx_drop ?_
    refine bring1 ?_
    refine sx_drop ?_
    exact q_m' (by rw [List.set_set, List.set_set]; rfl)
  ·refine o_val rfl (v_ldcf (p.life.damage.cells) m0 hU he rfl (i) 12 (by omega) hi rfl rfl rfl) ?_
   refine d_on (fun _ m => m.keeps (.cons _ (.refl _))) ?_
   refine d_one 6 (by kernel_rfl) rfl ?_
   refine o_val rfl (v_ldcf (p.life.km.cells) m0 hU he rfl (i) 8 (by omega) hi rfl rfl rfl) ?_
   refine d_on (fun _ m => m.keeps (.cons _ (.refl _))) ?_
   refine d_one 9 (by kernel_rfl) rfl ?_
   refine o_callV (ivAdd _ p.life.km u.km) rfl rfl ?_
   refine d_on (fun _ m => m.keeps (.cons _ (.refl _))) ?_
   refine d_one 16 (by kernel_rfl) rfl ?_
   refine o_callV (ivAdd _ p.life.cycles u.cycles) rfl rfl ?_
   refine d_on (fun _ m => m.keeps (.cons _ (.refl _))) ?_
   refine d_one 22 (by kernel_rfl) rfl ?_
   refine o_callV (ivAdd _ p.life.damage dd) rfl rfl ?_
   refine d_on (fun _ m => m.keeps (.cons _ (.refl _))) ?_
   refine d_tv 23 rfl rfl (by kernel_rfl) rfl (.cons _ (.refl _)) rfl (v_nilCheck rfl) ?_
   refine d_tv 24 rfl rfl (by kernel_rfl) rfl (.cons _ (.refl _)) rfl (v_fieldAddr he rfl) ?_
   refine d_one 25 (by kernel_rfl) rfl ?_
   refine o_stcf _ _ (by first | exact hU | exact hU.set rfl _ | exact (hU.set rfl _).set rfl _) he rfl rfl rfl rfl rfl (i) 8 (by omega) (by first | exact hi | exact set_at hi | exact set_at (set_at hi)) (by decide) rfl ?_
   refine d_on (fun _ m => m.keeps (.cons _ (.refl _))) ?_
   refine d_tv 26 rfl rfl (by kernel_rfl) rfl (.cons _ (.refl _)) rfl (v_nilCheck rfl) ?_
   refine d_tv 27 rfl rfl (by kernel_rfl) rfl (.cons _ (.refl _)) rfl (v_fieldAddr he rfl) ?_
   refine d_one 28 (by kernel_rfl) rfl ?_
   refine o_stcf _ _ (by first | exact hU | exact hU.set rfl _ | exact (hU.set rfl _).set rfl _) he rfl rfl rfl rfl rfl (i) 10 (by omega) (by first | exact hi | exact set_at hi | exact set_at (set_at hi)) (by decide) rfl ?_
   refine d_on (fun _ m => m.keeps (.cons _ (.refl _))) ?_
   refine d_tv 29 rfl rfl (by kernel_rfl) rfl (.cons _ (.refl _)) rfl (v_nilCheck rfl) ?_
   refine d_tv 30 rfl rfl (by kernel_rfl) rfl (.cons _ (.refl _)) rfl (v_fieldAddr he rfl) ?_
   refine d_one 31 (by kernel_rfl) rfl ?_
   refine o_stcf _ _ (by first | exact hU | exact hU.set rfl _ | exact (hU.set rfl _).set rfl _) he rfl rfl rfl rfl rfl (i) 12 (by omega) (by first | exact hi | exact set_at hi | exact set_at (set_at hi)) (by decide) rfl ?_
   refine d_on (fun _ m => m.keeps (.cons _ (.refl _))) ?_
   refine d_done (by kernel_rfl) ?_
   refine end0 rfl ?_
   refine bring1 ?_
   refine sx_drop ?_
   refine bring1 ?_
   refine sx_drop ?_
   exact q_m' (by rw [List.set_set, List.set_set]; rfl)
 ·refine o_val rfl (v_ldcf (p.life.damage.cells) m0 hU he rfl (i) 12 (by omega) hi rfl rfl rfl) ?_
  refine d_on (fun _ m => m.keeps (.cons _ (.refl _))) ?_
  refine d_two 6 13 (by kernel_rfl) rfl rfl ?_ ?_
  ·refine o_val rfl (v_ldcf (p.life.km.cells) m0 hU he rfl (i) 8 (by omega) hi rfl rfl rfl) ?_
   refine d_on (fun _ m => m.keeps (.cons _ (.refl _))) ?_
   refine d_two 9 13 (by kernel_rfl) rfl rfl ?_ ?_
   ·refine o_callV (ivAdd _ p.life.km u.km) rfl rfl ?_
    refine d_on (fun _ m => m.keeps (.cons _ (.refl _))) ?_
    refine d_one 13 (by kernel_rfl) rfl ?_
    refine o_val rfl (v_ldcf (p.life.cycles.cells) m0 hU he rfl (i) 10 (by omega) hi rfl rfl rfl) ?_
    refine d_on (fun _ m => m.keeps (.cons _ (.refl _))) ?_
    refine d_one 16 (by kernel_rfl) rfl ?_
    refine o_callV (ivAdd _ p.life.cycles u.cycles) rfl rfl ?_
    refine d_on (fun _ m => m.keeps (.cons _ (.refl _))) ?_
    refine d_one 22 (by kernel_rfl) rfl ?_
    refine o_callV (ivAdd _ p.life.damage dd) rfl rfl ?_
    refine d_on (fun _ m => m.keeps (.cons _ (.refl _))) ?_
    refine d_tv 23 rfl rfl (by kernel_rfl) rfl (.cons _ (.refl _)) rfl (v_nilCheck rfl) ?_
    refine d_tv 24 rfl rfl (by kernel_rfl) rfl (.cons _ (.refl _)) rfl (v_fieldAddr he rfl) ?_
    refine d_one 25 (by kernel_rfl) rfl ?_
    refine o_stcf _ _ (by first | exact hU | exact hU.set rfl _ | exact (hU.set rfl _).set rfl _) he rfl rfl rfl rfl rfl (i) 8 (by omega) (by first | exact hi | exact set_at hi | exact set_at (set_at hi)) (by decide) rfl ?_
    refine d_on (fun _ m => m.keeps (.cons _ (.refl _))) ?_
    refine d_tv 26 rfl rfl (by kernel_rfl) rfl (.cons _ (.refl _)) rfl (v_nilCheck rfl) ?_
    refine d_tv 27 rfl rfl (by kernel_rfl) rfl (.cons _ (.refl _)) rfl (v_fieldAddr he rfl) ?_
    refine d_one 28 (by kernel_rfl) rfl ?_
    refine o_stcf _ _ (by first | exact hU | exact hU.set rfl _ | exact (hU.set rfl _).set rfl _) he rfl rfl rfl rfl rfl (i) 10 (by omega) (by first | exact hi | exact set_at hi | exact set_at (set_at hi)) (by decide) rfl ?_
    refine d_on (fun _ m => m.keeps (.cons _ (.refl _))) ?_
    refine d_tv 29 rfl rfl (by kernel_rfl) rfl (.cons _ (.refl _)) rfl (v_nilCheck rfl) ?_
    refine d_tv 30 rfl rfl (by kernel_rfl) rfl (.cons _ (.refl _)) rfl (v_fieldAddr he rfl) ?_
    refine d_one 31 (by kernel_rfl) rfl ?_
    refine o_stcf _ _ (by first | exact hU | exact hU.set rfl _ | exact (hU.set rfl _).set rfl _) he rfl rfl rfl rfl rfl (i) 12 (by omega) (by first | exact hi | exact set_at hi | exact set_at (set_at hi)) (by decide) rfl ?_
    refine d_on (fun _ m => m.keeps (.cons _ (.refl _))) ?_
    refine d_done (by kernel_rfl) ?_
    refine end0 rfl ?_
    refine bring1 ?_
    refine sx_drop ?_
    refine bring1 ?_
    refine sx_drop ?_
    exact q_m' (by rw [List.set_set, List.set_set]; rfl)
   ·refine o_val rfl (v_ldcf (p.life.cycles.cells) m0 hU he rfl (i) 10 (by omega) hi rfl rfl rfl) ?_
    refine d_on (fun _ m => m.keeps (.cons _ (.refl _))) ?_
    refine d_one 9 (by kernel_rfl) rfl ?_
    refine o_callV (ivAdd _ p.life.km u.km) rfl rfl ?_
    refine d_on (fun _ m => m.keeps (.cons _ (.refl _))) ?_
    refine d_one 16 (by kernel_rfl) rfl ?_
    refine o_callV (ivAdd _ p.life.cycles u.cycles) rfl rfl ?_
    refine d_on (fun _ m => m.keeps (.cons _ (.refl _))) ?_
    refine d_one 22 (by kernel_rfl) rfl ?_
    refine o_callV (ivAdd _ p.life.damage dd) rfl rfl ?_
    refine d_on (fun _ m => m.keeps (.cons _ (.refl _))) ?_
    refine d_tv 23 rfl rfl (by kernel_rfl) rfl (.cons _ (.refl _)) rfl (v_nilCheck rfl) ?_
    refine d_tv 24 rfl rfl (by kernel_rfl) rfl (.cons _ (.refl _)) rfl (v_fieldAddr he rfl) ?_
    refine d_one 25 (by kernel_rfl) rfl ?_
    refine o_stcf _ _ (by first | exact hU | exact hU.set rfl _ | exact (hU.set rfl _).set rfl _) he rfl rfl rfl rfl rfl (i) 8 (by omega) (by first | exact hi | exact set_at hi | exact set_at (set_at hi)) (by decide) rfl ?_
    refine d_on (fun _ m => m.keeps (.cons _ (.refl _))) ?_
    refine d_tv 26 rfl rfl (by kernel_rfl) rfl (.cons _ (.refl _)) rfl (v_nilCheck rfl) ?_
    refine d_tv 27 rfl rfl (by kernel_rfl) rfl (.cons _ (.refl _)) rfl (v_fieldAddr he rfl) ?_
    refine d_one 28 (by kernel_rfl) rfl ?_
    refine o_stcf _ _ (by first | exact hU | exact hU.set rfl _ | exact (hU.set rfl _).set rfl _) he rfl rfl rfl rfl rfl (i) 10 (by omega) (by first | exact hi | exact set_at hi | exact set_at (set_at hi)) (by decide) rfl ?_
    refine d_on (fun _ m => m.keeps (.cons _ (.refl _))) ?_
    refine d_tv 29 rfl rfl (by kernel_rfl) rfl (.cons _ (.refl _)) rfl (v_nilCheck rfl) ?_
    refine d_tv 30 rfl rfl (by kernel_rfl) rfl (.cons _ (.refl _)) rfl (v_fieldAddr he rfl) ?_
    refine d_one 31 (by kernel_rfl) rfl ?_
    refine o_stcf _ _ (by first | exact hU | exact hU.set rfl _ | exact (hU.set rfl _).set rfl _) he rfl rfl rfl rfl rfl (i) 12 (by omega) (by first | exact hi | exact set_at hi | exact set_at (set_at hi)) (by decide) rfl ?_
    refine d_on (fun _ m => m.keeps (.cons _ (.refl _))) ?_
    refine d_done (by kernel_rfl) ?_
    refine end0 rfl ?_
    refine bring1 ?_
    refine sx_drop ?_
    refine bring1 ?_
    refine sx_drop ?_
    exact q_m' (by rw [List.set_set, List.set_set]; rfl)
  ·refine o_val rfl (v_ldcf (p.life.cycles.cells) m0 hU he rfl (i) 10 (by omega) hi rfl rfl rfl) ?_
   refine d_on (fun _ m => m.keeps (.cons _ (.refl _))) ?_
   refine d_one 6 (by kernel_rfl) rfl ?_
   refine o_val rfl (v_ldcf (p.life.km.cells) m0 hU he rfl (i) 8 (by omega) hi rfl rfl rfl) ?_
   refine d_on (fun _ m => m.keeps (.cons _ (.refl _))) ?_
   refine d_one 9 (by kernel_rfl) rfl ?_
   refine o_callV (ivAdd _ p.life.km u.km) rfl rfl ?_
   refine d_on (fun _ m => m.keeps (.cons _ (.refl _))) ?_
   refine d_one 16 (by kernel_rfl) rfl ?_
   refine o_callV (ivAdd _ p.life.cycles u.cycles) rfl rfl ?_
   refine d_on (fun _ m => m.keeps (.cons _ (.refl _))) ?_
   refine d_one 22 (by kernel_rfl) rfl ?_
   refine o_callV (ivAdd _ p.life.damage dd) rfl rfl ?_
   refine d_on (fun _ m => m.keeps (.cons _ (.refl _))) ?_
   refine d_tv 23 rfl rfl (by kernel_rfl) rfl (.cons _ (.refl _)) rfl (v_nilCheck rfl) ?_
   refine d_tv 24 rfl rfl (by kernel_rfl) rfl (.cons _ (.refl _)) rfl (v_fieldAddr he rfl) ?_
   refine d_one 25 (by kernel_rfl) rfl ?_
   refine o_stcf _ _ (by first | exact hU | exact hU.set rfl _ | exact (hU.set rfl _).set rfl _) he rfl rfl rfl rfl rfl (i) 8 (by omega) (by first | exact hi | exact set_at hi | exact set_at (set_at hi)) (by decide) rfl ?_
   refine d_on (fun _ m => m.keeps (.cons _ (.refl _))) ?_
   refine d_tv 26 rfl rfl (by kernel_rfl) rfl (.cons _ (.refl _)) rfl (v_nilCheck rfl) ?_
   refine d_tv 27 rfl rfl (by kernel_rfl) rfl (.cons _ (.refl _)) rfl (v_fieldAddr he rfl) ?_
   refine d_one 28 (by kernel_rfl) rfl ?_
   refine o_stcf _ _ (by first | exact hU | exact hU.set rfl _ | exact (hU.set rfl _).set rfl _) he rfl rfl rfl rfl rfl (i) 10 (by omega) (by first | exact hi | exact set_at hi | exact set_at (set_at hi)) (by decide) rfl ?_
   refine d_on (fun _ m => m.keeps (.cons _ (.refl _))) ?_
   refine d_tv 29 rfl rfl (by kernel_rfl) rfl (.cons _ (.refl _)) rfl (v_nilCheck rfl) ?_
   refine d_tv 30 rfl rfl (by kernel_rfl) rfl (.cons _ (.refl _)) rfl (v_fieldAddr he rfl) ?_
   refine d_one 31 (by kernel_rfl) rfl ?_
   refine o_stcf _ _ (by first | exact hU | exact hU.set rfl _ | exact (hU.set rfl _).set rfl _) he rfl rfl rfl rfl rfl (i) 12 (by omega) (by first | exact hi | exact set_at hi | exact set_at (set_at hi)) (by decide) rfl ?_
   refine d_on (fun _ m => m.keeps (.cons _ (.refl _))) ?_
   refine d_done (by kernel_rfl) ?_
   refine end0 rfl ?_
   refine bring1 ?_
   refine sx_drop ?_
   refine bring1 ?_
   refine sx_drop ?_
   exact q_m' (by rw [List.set_set, List.set_set]; rfl)

theorem lifeAfter (I : IMap) (x : Evt) (g : Nat) (day : Int) (cg : ICells I g 0 [ci day]) :
    FnV Tryz.prog 38 #[.agg (Day.ch x).toArray, .pointer (some ⟨g, 0, none⟩)] I (.bool (decide (x.day > day))) := by
 refine enter Tryz.func38 Tryz.call38 rfl Tryz.ntmps38 rfl (fun w0 => ?_)
 show SX _ _ _ (argsL [.agg x.cells.toArray, .pointer (some ⟨g, 0, none⟩)] 0) _ _
 refine go 3 ?_
 refine o_box _ rfl rfl rfl (fun g2 => ?_)
 refine go 7 ?_
 refine o_v rfl (v_ldI he rfl (cg 0 _ rfl)) ?_
 refine go 5 ?_
 refine fin1 rfl rfl ?_
 exact q_v rfl

theorem lifeRun (I : IMap) (vc : Value) (c : List Kind) (hvc : RdS I vc c) (hsc : SmC c) (f : Fm) (sf : Value) (hf : FmRd I [ci f.op, ci f.n, sf] f) (v : Value) (l : List Evt) (hv : RdS I v l) (hl : l.length ≤ 25) (hse : ∀ e ∈ l, SmE e) (day : Int) :
    FnI Tryz.prog 16 #[.agg #[vc, ci f.op, ci f.n, sf], v, .int .i64 day] I (fun u J => ∃ w, u = .tuple #[.agg #[w], .int .i64 (runL f c l day).2.1, .int .i64 (runL f c l day).2.2] ∧ RdS J w (runL f c l day).1) := by
 obtain ⟨U, hUe⟩ : ∃ U, sortF (l.filter fun e => !decide (e.day > day)) = U := ⟨_, rfl⟩
 have hUl : U.length ≤ 25 := by rw [← hUe, sortF_len]; exact Nat.le_trans (List.length_filter_le _ _) hl
 have hUs : ∀ e ∈ U, SmE e := fun e he => hse e (List.mem_filter.1 (sortF_mem.1 (hUe ▸ he))).1
 refine enter Tryz.func16 Tryz.call16 rfl Tryz.ntmps16 rfl (fun w0 => ?_)
 refine go 3 ?_
 refine o_box _ rfl rfl rfl (fun g3 => ?_)
 refine go 1 ?_
 refine o_box _ rfl rfl rfl (fun g5 => ?_)
 refine go 1 ?_
 refine o_alloc he rfl (fun g6 => ?_)
 refine go 6 ?_
 refine c_cut (I' := I) (L' := [(1, v), (3, .pointer (some ⟨g3, 0, none⟩)), (5, .pointer (some ⟨g5, 0, none⟩)), (6, .pointer (some ⟨g6, 0, none⟩)), (27, .bool (!validC c || !validFm f))]) (H' := [.blk g3 29 [vc, ci f.op, ci f.n, sf], .blk g5 3 [ci day], .blk g6 39 [.slice none 0 0]]) ?_ ?_
 ·refine go 2 ?_
  refine o_v rfl (v_ldp ([vc]) m2 he rfl rfl rfl) ?_
  refine go 1 ?_
  refine o_callV (catValid _ vc c hvc hsc) rfl rfl ?_
  refine go 2 ?_
  refine sxb 22 rfl (fun h22 p22 => ?_) (fun h22 p22 => ?_)
  ·refine go 7 ?_
   refine bring1 ?_
   refine bring2 ?_
   exact q_cut ⟨rfl, rfl, rfl, rfl, (congrArg (fun b => some (Value.bool b)) (by simp only [h22, bS])), trivial⟩ rfl rfl
  ·refine go 1 ?_
   refine o_cons (o_yes rfl rfl h22 (o_val rfl (v_ldp ([ci f.op, ci f.n, sf]) m2 he rfl rfl rfl) ?_))
   refine go 1 ?_
   refine o_yes rfl rfl h22 (o_callV (fmValid _ f _ hf) rfl rfl ?_)
   refine go 4 ?_
   refine bring1 ?_
   refine bring2 ?_
   exact q_cut ⟨rfl, rfl, rfl, rfl, (congrArg (fun b => some (Value.bool b)) (by simp only [h22, bS])), trivial⟩ rfl rfl
 ·refine cb rfl (fun h27 p27 => ?_) (fun h27 p27 => ?_)
  ·refine go 3 ?_
   refine o_val rfl (v_build (pl := [(0, 1)]) he he rfl rfl) ?_
   refine go 1 ?_
   refine bring2 ?_
   refine o_stw _ he rfl rfl rfl rfl rfl rfl ?_
   refine go 6 ?_
   refine fin3 rfl ⟨_, _, _, rfl, m0, .inr ⟨_, he, rfl, rfl⟩⟩ rfl rfl ?_
   exact q_i ⟨_, by rw [runL_bad h27], by rw [runL_bad h27]; exact RdS.nil'⟩
  ·refine go 6 ?_
   refine bring1 ?_
   refine sx_pub (fun Ig5 jg5 cg5 => ?_)
   have hvc := hvc.le jg5
   have hv := hv.le jg5
   have hf := hf.le jg5
   refine o_callX0 (clone_Evt _ v l hv (by omega)) rfl rfl (fun v30 s30 q30 => ?_)
   obtain ⟨xss, rfl, hx⟩ := q30
   obtain rfl := evCh_of hx
   refine o_v rfl (v_makeFunc rfl rfl) ?_
   refine go 1 ?_
   refine o_callD (deleteFunc_Evt _ _ l (by omega) 38 [.pointer (some ⟨g5, 0, none⟩)] (fun x => decide (x.day > day)) (fun I2 hI2 x => lifeAfter I2 x g5 day (cg5.le hI2))) rfl rfl (fun v32 I32 j32 q32 => ?_)
   have hvc := hvc.le j32
   have hf := hf.le j32
   refine go 6 ?_
   refine o_alloc he rfl (fun g10 => ?_)
   refine go 7 ?_
   refine o_call (cSort _ _ (l.filter fun e => !decide (e.day > day)) q32 (Nat.le_trans (List.length_filter_le _ _) (by omega))) rfl rfl (fun v34 I34 j34 q34 => ?_)
   have hvc := hvc.le j34
   have hf := hf.le j34
   rw [hUe] at q34
   have R34 := q34
   obtain ⟨A34, c34, rfl, hA34, _, _⟩ := q34
   refine go 5 ?_
   refine bring1 ?_
   refine bring2 ?_
   refine bring2 ?_
   refine c_loop4 ((0 : Nat)) ([]) (.slice none 0 0) (I34) (fun i st v10 J => J)
    (fun i st v10 J => [(3, .pointer (some ⟨g3, 0, none⟩)), (6, .pointer (some ⟨g6, 0, none⟩)), (10, .pointer (some ⟨g10, 0, none⟩)), (34, .slice A34 U.length c34), (35, .int .i64 ((U.length : Nat) : Int)), (36, .int .i64 ((i : Nat) : Int))])
    (fun i st v10 J => [.blk g10 39 [v10], .blk g6 39 [.slice none 0 0], .blk g3 29 [vc, ci f.op, ci f.n, sf]])
    (fun i st v10 J => i ≤ U.length ∧ ILe I34 J ∧ RdS J v10 st ∧ SmF st ∧ cntS st ≤ i ∧ runLGo f c st (i : Nat) (U.drop i) = runL f c l day)
    (fun i st v10 J => U.length - i) ⟨Nat.zero_le _, ILe.refl _, RdS.nil', SmF.nil, Nat.le_refl _, by rw [runL_go h27, hUe]; rfl⟩ rfl sb rfl ?_
   intro i st v10 J ⟨hi, hJ, hv10, hsf, hcn, hgo⟩
   have hvc := hvc.le hJ
   have hf := hf.le hJ
   have hA34 := hA34.le hJ
   refine go 6 ?_
   refine cb rfl (fun h37 p37 => ?_) (fun h37 p37 => ?_)
   ·have hlt : i < U.length := by omega
    refine go 7 ?_
    obtain ⟨b39, o39, w39, e39, c39, r39⟩ := RdA.at_ hA34 (i := i) (by omega)
    obtain rfl := r39
    refine o_v rfl (v_idx he rfl rfl e39 (i) (by omega) (by omega)) ?_
    refine o_v rfl (v_ldIa he rfl c39 rfl) ?_
    refine go 1 ?_
    refine o_alloc he rfl (fun g12 => ?_)
    refine go 2 ?_
    refine o_stw _ he rfl rfl rfl rfl rfl rfl ?_
    refine go 5 ?_
    refine o_v rfl (v_ldp ([vc]) m3 he rfl rfl rfl) ?_
    refine go 3 ?_
    refine o_call (flApply _ vc c hvc hsc v10 st hv10 hsf U[i] (hUs _ (List.getElem_mem hlt))) rfl rfl (fun v46 I46 j46 q46 => ?_)
    have hvc := hvc.le j46
    have hf := hf.le j46
    have hA34 := hA34.le j46
    obtain ⟨w46, rfl, hw46⟩ := q46
    refine go 4 ?_
    refine o_alloc he rfl (fun g13 => ?_)
    refine go 1 ?_
    refine o_stw _ he rfl rfl rfl rfl rfl (by simp [RdS.one hw46]) ?_
    refine go 10 ?_
    refine cb rfl (fun h50 p50 => ?_) (fun h50 p50 => ?_)
    ·refine go 3 ?_
     refine o_val rfl (v_build (pl := [(0, 1)]) he he rfl rfl) ?_
     refine go 3 ?_
     refine bring3 ?_
     refine o_stw _ he rfl rfl rfl rfl rfl rfl ?_
     refine go 11 ?_
     refine fin3 rfl ⟨_, _, _, rfl, m0, .inr ⟨_, he, rfl, rfl⟩⟩ rfl rfl ?_
     have hr : runL f c l day = ([], ((i : Nat) : Int), (applyF c st U[i]).2) := by rw [← hgo, goL_stop hlt p50]
     exact q_i ⟨_, by rw [hr] <;> rfl, by rw [hr]; exact RdS.nil'⟩
    ·have h0 : (applyF c st U[i]).2 = 0 := by simpa using h50
     have hsm := applyF_sm (c := c) hsf (hUs _ (List.getElem_mem hlt))
     have hc1 := cnt_apply h0
     have hc2 : (applyF c st U[i]).1.length + fitN (applyF c st U[i]).1 ≤ i + 1 := by unfold cntS at *; omega
     have hfl : fitN (applyF c st U[i]).1 ≤ (applyF c st U[i]).1.length := List.length_filter_le _ _
     have hfn : fitN (applyF c st U[i]).1 ≤ 12 := by omega
     refine go 7 ?_
     refine bring2 ?_
     refine o_stw _ he rfl rfl rfl rfl rfl (by simp [RdS.one hw46]) ?_
     refine go 9 ?_
     refine cb rfl (fun h57 p57 => ?_) (fun h57 p57 => ?_)
     ·refine go 9 ?_
      refine bring1 ?_
      refine sx_drop ?_
      refine bring1 ?_
      refine sx_drop ?_
      exact q_next4 (i + 1) ((applyF c st U[i]).1) (w46) (I46) ⟨by omega, hJ.trans j46, hw46, hsm, by omega, (goL_plain hlt h0 p57).symm.trans hgo⟩ (by omega) rfl sb rfl
     ·have h4 : U[i].op = 4 := by simpa using h57
      refine go 3 ?_
      refine c_cutx3 (Ix := (fun v15 ns ys => I46)) (Lx := (fun v15 ns ys => [(3, .pointer (some ⟨g3, 0, none⟩)), (6, .pointer (some ⟨g6, 0, none⟩)), (10, .pointer (some ⟨g10, 0, none⟩)), (34, .slice A34 U.length c34), (35, .int .i64 ((U.length : Nat) : Int)), (36, .int .i64 ((i : Nat) : Int)), (12, .pointer (some ⟨g12, 0, none⟩)), (15, v15)])) (Hx := (fun v15 ns ys => [.row v15 9 1 (ns ++ [U[i].part]).length ys, .blk g10 39 [w46], .blk g12 43 U[i].cells, .blk g6 39 [.slice none 0 0], .blk g3 29 [vc, ci f.op, ci f.n, sf]])) (p := (fun v15 ns ys => Flat I46 ys (ns ++ [U[i].part]) ∧ ∀ n, n ∈ ns ↔ InsP (applyF c st U[i]).1 U[i].part n)) ?_ ?_
      ·refine d_startH T.mixed ?_
       refine d_tv 0 rfl rfl (by kernel_rfl) rfl (.refl _) rfl (v_ldw m0 he rfl rfl) ?_
       refine d_tv 1 rfl rfl (by kernel_rfl) rfl (.refl _) rfl (v_fieldAddr he rfl) ?_
       refine d_tv 2 rfl rfl (by kernel_rfl) rfl (.refl _) rfl (v_ld m2 he rfl rfl) ?_
       refine d_tv 4 rfl rfl (by kernel_rfl) rfl (.refl _) rfl (v_fieldAddr he rfl) ?_
       refine d_tv 5 rfl rfl (by kernel_rfl) rfl (.refl _) rfl (v_ld m2 he rfl rfl) ?_
       refine d_two 3 6 (by kernel_rfl) rfl rfl ?_ ?_
       ·refine o_callX0 (flInside _ _ (applyF c st U[i]).1 hw46 U[i].part hfn) rfl rfl (fun v61 s61 q61 => ?_)
        obtain ⟨ns, rfl, hns, hnl⟩ := q61
        refine d_on (fun _ m => m.keeps (.cons _ (.refl _))) ?_
        refine d_one 6 (by kernel_rfl) rfl ?_
        refine o_buildSlice he he rfl rfl rfl rfl rfl rfl rfl (fun v64 => ?_)
        refine d_on (fun _ m => m.keeps (.cons _ (.cons _ (.refl _)))) ?_
        refine d_one 7 (by kernel_rfl) rfl ?_
        refine bring1 ?_
        refine o_appendO he he rfl rfl rfl rfl rfl (by omega) (by omega) rfl (fun v65 => ?_)
        refine d_on (fun _ m => m.keeps (.cons _ (.cons _ (.refl _)))) ?_
        refine d_tv 8 rfl rfl (by kernel_rfl) rfl (.cons _ (.cons _ (.refl _))) rfl (v_assign rfl) ?_
        refine d_done (by kernel_rfl) ?_
        refine go 1 ?_
        refine bring1 ?_
        refine sx_drop ?_
        refine bring2 ?_
        refine sx_drop ?_
        exact q_cutx3 (_) (ns) (_) ⟨(str_flat _ ns).flat.append (.one rfl), hns⟩ sb (by rw [List.length_append]; rfl) rfl
       ·refine o_buildSlice he he rfl rfl rfl rfl rfl rfl rfl (fun v64 => ?_)
        refine d_on (fun _ m => m.keeps (.cons _ (.refl _))) ?_
        refine d_one 3 (by kernel_rfl) rfl ?_
        refine o_callX0 (flInside _ _ (applyF c st U[i]).1 hw46 U[i].part hfn) rfl rfl (fun v61 s61 q61 => ?_)
        obtain ⟨ns, rfl, hns, hnl⟩ := q61
        refine d_on (fun _ m => m.keeps (.cons _ (.cons _ (.refl _)))) ?_
        refine d_one 7 (by kernel_rfl) rfl ?_
        refine bring1 ?_
        refine bring1 ?_
        refine o_appendO he he rfl rfl rfl rfl rfl (by omega) (by omega) rfl (fun v65 => ?_)
        refine d_on (fun _ m => m.keeps (.cons _ (.cons _ (.refl _)))) ?_
        refine d_tv 8 rfl rfl (by kernel_rfl) rfl (.cons _ (.cons _ (.refl _))) rfl (v_assign rfl) ?_
        refine d_done (by kernel_rfl) ?_
        refine go 1 ?_
        refine bring1 ?_
        refine sx_drop ?_
        refine bring2 ?_
        refine sx_drop ?_
        exact q_cutx3 (_) (ns) (_) ⟨(str_flat _ ns).flat.append (.one rfl), hns⟩ sb (by rw [List.length_append]; rfl) rfl
      ·intro v15 ns ys ⟨hF15, hns⟩
       refine go 2 ?_
       refine sx_pubrow (l := (ns ++ [U[i].part])) rfl rfl (hF15) (fun I66 j66 R66 => ?_)
       have hvc := hvc.le j66
       have hf := hf.le j66
       have hA34 := hA34.le j66
       have hw46 := hw46.le j66
       have R66s := R66
       obtain ⟨A15, c15, rfl, _, _, _⟩ := R66s
       refine go 1 ?_
       refine o_v rfl (v_ldp ([ci f.op, ci f.n, sf]) m3 he rfl rfl rfl) ?_
       refine go 1 ?_
       refine o_v rfl (v_ldp (U[i].use.cells) m1 he rfl rfl rfl) ?_
       refine go 1 ?_
       refine o_callV (fmDamage _ f _ hf U[i].use) rfl rfl ?_
       refine go 1 ?_
       refine o_alloc he rfl (fun g16 => ?_)
       refine go 1 ?_
       refine o_stw _ he rfl rfl rfl rfl rfl rfl ?_
       refine go 7 ?_
       refine o_callX0 (clone_Part _ _ (applyF c st U[i]).1 hw46 (by omega)) rfl rfl (fun v73 s73 q73 => ?_)
       obtain ⟨xss, rfl, hx⟩ := q73
       have hpos : 0 < (applyF c st U[i]).1.length := by rw [apply_run h0 h4]; exact run_pos h0 h4
       refine sx_row hx.uk hx.len (fun h9 _ => absurd h9 (by omega)) (fun g73 cap73 rest73 e73 hR73 hc73 hm73 => ?_)
       subst e73
       refine go 2 ?_
       refine bring2 ?_
       refine o_st1 he rfl rfl rfl rfl ?_
       refine go 11 ?_
       refine bring5 ?_
       refine bring5 ?_
       refine bring5 ?_
       refine bring3 ?_
       refine bring5 ?_
       refine bring5 ?_
       refine c_loop2 ((0 : Nat)) (xss) (fun k xss => I66)
        (fun k xss => [(3, .pointer (some ⟨g3, 0, none⟩)), (6, .pointer (some ⟨g6, 0, none⟩)), (10, .pointer (some ⟨g10, 0, none⟩)), (34, .slice A34 U.length c34), (35, .int .i64 ((U.length : Nat) : Int)), (36, .int .i64 ((i : Nat) : Int)), (12, .pointer (some ⟨g12, 0, none⟩)), (15, .slice A15 (ns ++ [U[i].part]).length c15), (16, .pointer (some ⟨g16, 0, none⟩)), (77, .int .i64 (((applyF c st U[i]).1.length : Nat) : Int)), (78, .int .i64 ((k : Nat) : Int))])
        (fun k xss => [.blk g73 49 (xss ++ rest73).flatten, .blk g16 32 (damF f U[i].use).cells, .blk g10 39 [.slice (some ⟨g73, 0, none⟩) (applyF c st U[i]).1.length cap73], .blk g12 43 U[i].cells, .blk g6 39 [.slice none 0 0], .blk g3 29 [vc, ci f.op, ci f.n, sf]])
        (fun k xss => k ≤ (applyF c st U[i]).1.length ∧ FlatC I66 xss (useUp (applyF c st U[i]).1 U[i] (damF f U[i].use) k))
        (fun k xss => (applyF c st U[i]).1.length - k) ⟨Nat.zero_le _, by rw [useUp_zero]; exact hx⟩ rfl sb rfl ?_
       intro k xss ⟨hk, hx⟩
       refine go 6 ?_
       refine cb rfl (fun h79 p79 => ?_) (fun h79 p79 => ?_)
       ·have hlk : k < (applyF c st U[i]).1.length := by omega
        have hlx : k < xss.length := by rw [hx.len, useUp_len]; exact hlk
        obtain ⟨q, hkc, hq⟩ := chunk_at hx (useUp_at hlk) rest73
        have hU14 : Uk 14 (xss ++ rest73) := hx.uk.append hR73
        refine go 16 ?_
        refine o_v rfl (v_idx he rfl rfl rfl (k) (by omega) (by omega)) ?_
        refine go 1 ?_
        refine o_v rfl (v_ldc1 m0 hU14 he rfl (k) 0 (by omega) hkc rfl) ?_
        refine go 1 ?_
        refine o_callV (contains_string _ _ (ns ++ [U[i].part]) R66 _) rfl rfl ?_
        refine go 2 ?_
        refine cb rfl (fun h88 p88 => ?_) (fun h88 p88 => ?_)
        ·refine d_start1 T.mixed ?_
         refine d_tv 0 rfl rfl (by kernel_rfl) rfl (.cons _ (.refl _)) rfl (v_fieldAddr he rfl) ?_
         refine d_tv 1 rfl rfl (by kernel_rfl) rfl (.cons _ (.refl _)) rfl (v_ld m1 he rfl rfl) ?_
         refine d_tv 2 rfl rfl (by kernel_rfl) rfl (.cons _ (.refl _)) rfl (v_move rfl) ?_
         refine d_tv 3 rfl rfl (by kernel_rfl) rfl (.cons _ (.refl _)) rfl (v_idx he rfl rfl rfl (k) (by omega) (by omega)) ?_
         refine d_tv 4 rfl rfl (by kernel_rfl) rfl (.cons _ (.refl _)) rfl (v_fieldAddr he rfl) ?_
         refine d_tv 5 rfl rfl (by kernel_rfl) rfl (.cons _ (.refl _)) rfl (v_fieldAddr he rfl) ?_
         refine d_tv 6 rfl rfl (by kernel_rfl) rfl (.cons _ (.refl _)) rfl (v_ldp (U[i].use.cells) m2 he rfl rfl rfl) ?_
         refine d_tv 7 rfl rfl (by kernel_rfl) rfl (.cons _ (.refl _)) rfl (v_ldw m0 he rfl rfl) ?_
         refine d_one 8 (by kernel_rfl) rfl ?_
         refine o_callM (lifeAdd _ g73 49 k hU14 (applyF c st U[i]).1[k] q hkc U[i].use (damF f U[i].use) _ (by omega)) rfl rfl ?_
         refine d_on (fun _ m => m.keeps (.cons _ (.refl _))) ?_
         refine d_done (by kernel_rfl) ?_
         refine go 7 ?_
         exact q_next2 (k + 1) (_) ⟨by omega, by rw [useUp_succ hlk, use_yes' hlk hns p88]; exact hx.set (x := addLife (damF f U[i].use) U[i].use (applyF c st U[i]).1[k]) ⟨q, rfl, hq⟩ k⟩ (by omega) rfl sb (by rw [List.set_append_left _ _ hlx])
        ·refine go 8 ?_
         exact q_next2 (k + 1) (_) ⟨by omega, by rw [useUp_no hlk hns p88]; exact hx⟩ (by omega) rfl sb rfl
       ·obtain rfl : k = (applyF c st U[i]).1.length := by omega
        rw [useUp_all] at hx
        refine sx_unrow hx.uk hR73 (by rw [hx.len, use_len]) hc73 hm73 ?_
        refine sx_pubrow (l := useL (applyF c st U[i]).1 U[i] (damF f U[i].use)) rfl use_len.symm hx.flat (fun I9 j9 R9 => ?_)
        refine go 11 ?_
        refine sx_drop ?_
        refine bring1 ?_
        refine sx_drop ?_
        exact q_next4 (i + 1) (useL (applyF c st U[i]).1 U[i] (damF f U[i].use)) (_) (I9) ⟨by omega, hJ.trans (j46.trans (j66.trans j9)), R9, use_sm hsm, by rw [cnt_use]; omega, (goL_use hlt h0 h4).symm.trans hgo⟩ (by omega) rfl sb rfl
   ·refine go 9 ?_
    refine bring1 ?_
    refine o_stw _ he rfl rfl rfl rfl rfl (by simp [RdS.one hv10]) ?_
    refine go 5 ?_
    refine fin3 rfl ⟨_, _, _, rfl, m0, .inr ⟨_, he, rfl, rfl⟩⟩ rfl rfl ?_
    have hr : runL f c l day = (st, -1, 0) := by rw [← hgo, goL_end (by omega)]
    exact q_i ⟨_, by rw [hr] <;> rfl, by rw [hr]; exact hv10⟩

end Go.Proofs.YthcefohbbfjjfaaGreat

/- Currencies: what they are, what the life of a part is in each. -/
set_option linter.all false
namespace Go.Sx
open Go
def sKm : ByteArray := ⟨#[107, 109]⟩
def sCycles : ByteArray := ⟨#[99, 121, 99, 108, 101, 115]⟩
def sDamage : ByteArray := ⟨#[100, 97, 109, 97, 103, 101]⟩
def sDays : ByteArray := ⟨#[100, 97, 121, 115]⟩
def sAge : ByteArray := ⟨#[97, 103, 101]⟩
def curL : List ByteArray := [sKm, sCycles, sDamage, sDays, sAge]
def isCur (s : ByteArray) : Bool := decide (s ∈ curL)
def sinceI (day a : Int) : Ivl := if a ≥ day then zIvl else ⟨day - max a (day - (1000000000000 : Int)), day - max a (day - (1000000000000 : Int))⟩
def curI (p : Part) (s : ByteArray) (day : Int) : Ivl := if s = sKm then p.life.km else if s = sCycles then p.life.cycles else if s = sDamage then p.life.damage else if s = sDays then sinceI day p.since else sinceI day p.made
def valueF (p : Part) (s : ByteArray) (day : Int) : Ivl × Int := if isCur s = false then (zIvl, 15) else if (decide (day < 0) || decide (day > 40000)) = true then (zIvl, 13) else (curI p s day, 0)
section
variable {p : Part} {s : ByteArray} {day : Int}
theorem value_no (h : isCur s = false) : valueF p s day = (zIvl, 15) := if_pos h
theorem value_bad (h : isCur s = true) (hd : (decide (day < 0) || decide (day > 40000)) = true) : valueF p s day = (zIvl, 13) := by unfold valueF; rw [if_neg (by rw [h]; decide), if_pos hd]
theorem value_yes (h : isCur s = true) (hd : (decide (day < 0) || decide (day > 40000)) = false) : valueF p s day = (curI p s day, 0) := by unfold valueF; rw [if_neg (by rw [h]; decide), if_neg (by rw [hd]; decide)]
/-- a table of five -/
theorem cur_look (v1 v2 v3 v4 v5 : Value) (s : ByteArray) : mget [(sKm, v1), (sCycles, v2), (sDamage, v3), (sDays, v4), (sAge, v5)] s = if s = sKm then some v1 else if s = sCycles then some v2 else if s = sDamage then some v3 else if s = sDays then some v4 else if s = sAge then some v5 else none := by
  simp only [mget]
  simp only [eq_comm (b := s)]
theorem cur_cases (s : ByteArray) : (s = sKm ∨ s = sCycles ∨ s = sDamage ∨ s = sDays ∨ s = sAge) ∨ isCur s = false := by
  cases h : isCur s with
  | false => exact .inr rfl
  | true =>
    left
    have h1 : s ∈ curL := of_decide_eq_true h
    simpa [curL] using h1
theorem cur_ne : (sKm ≠ sCycles ∧ sKm ≠ sDamage ∧ sKm ≠ sDays ∧ sKm ≠ sAge) ∧ (sCycles ≠ sDamage ∧ sCycles ≠ sDays ∧ sCycles ≠ sAge) ∧ (sDamage ≠ sDays ∧ sDamage ≠ sAge) ∧ sDays ≠ sAge := by decide +kernel
end
section
variable {P : Program} {ρ : Option Nat} {n : Sz} {E : Ent} {I I' : IMap} {L : LL} {H H0 : List Res} {Q : Exit → Act → World → Prop} {ops : Array Oper} {K : Act → World → Prop}
variable {d ty : Nat} {pos : String} {af : Array Edge} {fo x y z : Operand} {as_ : List Operand} {ats : Array TypeId} {f : FuncId} {args : List Value}
theorem o_callH0 {post : Value → IMap → List Res → Prop} (hc : FnH P f args.toArray I [] post) (h : callArgs L fo as_ = some (f, args)) (hd : Nat.blt d n.sz = true)
    (k : ∀ v I' H', ILe I I' → post v I' H' → SX n E I' ((d, v) :: L) (H' ++ H0) K) :
    SX n E I L H0 (one P ops Q ⟨some d, .call { callee := .value fo, args := as_.toArray, argTypes := ats }, ty, pos, af, none⟩ K) := o_callH (Hc := []) hc h hd k
theorem o_mapIns {κ : Type} [DecidableEq κ] {enc : κ → Value} {mt kt et r : Nat} {v : Value} {kvs : List (κ × Value)} (kvs' : List (κ × Value)) (hK : KeyOK P kt enc) (ht : P.underlying mt = some (.map kt et)) (key : κ) (hx : ev L x = some (.map (some r))) (hy : ev L y = some (enc key)) (hv : ev L z = some v)
    (he : mput kvs key v = kvs') (k : SX n E I L (.mp r (emap enc kvs') :: H) K) : SX n E I L (.mp r (emap enc kvs) :: H) (one P ops Q ⟨none, .insert mt x y z, ty, pos, af, none⟩ K) := by
  intro a w st mm
  have h1 := o_mapPut (P := P) (n := n) (E := E) (I := I) (L := L) (H := H) (Q := Q) (ops := ops) (K := K) (ty := ty) (pos := pos) (af := af) kvs' hK ht key hx hy hv he k a w st mm
  exact h1
end
end Go.Sx

/- Walks, printed by a program out of the code of the functions: each theorem is a contract of one function. -/
namespace Go.Proofs.YthcefohbbfjjfaaGreat
open Go Go.Sx
set_option linter.all false
set_option maxRecDepth 20000
set_option maxHeartbeats 4000000
instance T.ty_151 : Has (tyK Tryz.prog 151) (false, 1) := ⟨by kernel_rfl⟩
instance T.und_103 : Has (Tryz.prog.underlying 103) (.map 9 101) := ⟨by kernel_rfl⟩
instance T.zero_151 : Has (zeroK Tryz.prog 151) [.nilFunc] := ⟨by kernel_rfl⟩
instance T.zv_101 : Has (zvK Tryz.prog 101) (.nilFunc) := ⟨by kernel_rfl⟩
theorem lifeSince (I : IMap) (day a : Int) (hd : 0 ≤ day ∧ day ≤ 40000) :
    FnV Tryz.prog 93 #[.int .i64 (day), .int .i64 (a)] I (.agg (sinceI day a).cells.toArray) := by
 refine enter Tryz.func93 Tryz.call93 rfl Tryz.ntmps93 rfl (fun w0 => ?_)
 refine go 3 ?_
 refine o_alloc he rfl (fun g4 => ?_)
 refine go 10 ?_
 refine cb rfl (fun h8 p8 => ?_) (fun h8 p8 => ?_)
 ·refine go 3 ?_
  refine o_val rfl (v_build (pl := [(0, 1), (1, 1)]) he he rfl rfl) ?_
  refine go 1 ?_
  refine o_stw _ he rfl rfl rfl rfl rfl rfl ?_
  refine go 4 ?_
  refine fin1 rfl ⟨_, _, _, rfl, m0, .inr ⟨_, he, rfl, rfl⟩⟩ ?_
  exact q_v (by unfold sinceI; rw [if_pos p8]; rfl)
 ·refine go 8 ?_
  refine o_v rfl (OV.cast (u := .int .i64 (max a (day - (1000000000000 : Int)))) (v_imax rfl rfl) (congrArg (Value.int .i64) (by omega))) ?_
  refine go 9 ?_
  refine o_val rfl (v_build (pl := [(0, 1), (1, 1)]) he he rfl rfl) ?_
  refine go 1 ?_
  refine o_stw _ he rfl rfl rfl rfl rfl rfl ?_
  refine go 3 ?_
  refine fin1 rfl ⟨_, _, _, rfl, m0, .inr ⟨_, he, rfl, rfl⟩⟩ ?_
  exact q_v (by unfold sinceI; rw [if_neg p8]; rfl)

theorem cur_km (I : IMap) (p : Part) (q : Value) (day : Int) (hd : 0 ≤ day ∧ day ≤ 40000) :
    FnV Tryz.prog 94 #[.agg (p.cells q).toArray, .int .i64 (day)] I (.agg p.life.km.cells.toArray) := by
 refine enter Tryz.func94 Tryz.call94 rfl Tryz.ntmps94 rfl (fun w0 => ?_)
 refine go 3 ?_
 refine o_box _ rfl rfl rfl (fun g2 => ?_)
 refine go 1 ?_
 refine o_alloc he rfl (fun g4 => ?_)
 refine go 6 ?_
 refine o_v rfl (v_ldp (p.life.km.cells) m1 he rfl rfl rfl) ?_
 refine go 1 ?_
 refine o_stw _ he rfl rfl rfl rfl rfl rfl ?_
 refine go 3 ?_
 refine fin1 rfl ⟨_, _, _, rfl, m0, .inr ⟨_, he, rfl, rfl⟩⟩ ?_
 exact q_v rfl

theorem cur_cycles (I : IMap) (p : Part) (q : Value) (day : Int) (hd : 0 ≤ day ∧ day ≤ 40000) :
    FnV Tryz.prog 95 #[.agg (p.cells q).toArray, .int .i64 (day)] I (.agg p.life.cycles.cells.toArray) := by
 refine enter Tryz.func95 Tryz.call95 rfl Tryz.ntmps95 rfl (fun w0 => ?_)
 refine go 3 ?_
 refine o_box _ rfl rfl rfl (fun g2 => ?_)
 refine go 1 ?_
 refine o_alloc he rfl (fun g4 => ?_)
 refine go 6 ?_
 refine o_v rfl (v_ldp (p.life.cycles.cells) m1 he rfl rfl rfl) ?_
 refine go 1 ?_
 refine o_stw _ he rfl rfl rfl rfl rfl rfl ?_
 refine go 3 ?_
 refine fin1 rfl ⟨_, _, _, rfl, m0, .inr ⟨_, he, rfl, rfl⟩⟩ ?_
 exact q_v rfl

theorem cur_damage (I : IMap) (p : Part) (q : Value) (day : Int) (hd : 0 ≤ day ∧ day ≤ 40000) :
    FnV Tryz.prog 96 #[.agg (p.cells q).toArray, .int .i64 (day)] I (.agg p.life.damage.cells.toArray) := by
 refine enter Tryz.func96 Tryz.call96 rfl Tryz.ntmps96 rfl (fun w0 => ?_)
 refine go 3 ?_
 refine o_box _ rfl rfl rfl (fun g2 => ?_)
 refine go 1 ?_
 refine o_alloc he rfl (fun g4 => ?_)
 refine go 6 ?_
 refine o_v rfl (v_ldp (p.life.damage.cells) m1 he rfl rfl rfl) ?_
 refine go 1 ?_
 refine o_stw _ he rfl rfl rfl rfl rfl rfl ?_
 refine go 3 ?_
 refine fin1 rfl ⟨_, _, _, rfl, m0, .inr ⟨_, he, rfl, rfl⟩⟩ ?_
 exact q_v rfl

theorem cur_since (I : IMap) (p : Part) (q : Value) (day : Int) (hd : 0 ≤ day ∧ day ≤ 40000) (g : Nat) (hg : ICells I g 0 [.func (.func 93) #[] #[]]) :
    FnV Tryz.prog 97 #[.agg (p.cells q).toArray, .int .i64 (day), .pointer (some ⟨g, 0, none⟩)] I (.agg (sinceI day p.since).cells.toArray) := by
 refine enter Tryz.func97 Tryz.call97 rfl Tryz.ntmps97 rfl (fun w0 => ?_)
 refine go 3 ?_
 refine o_box _ rfl rfl rfl (fun g3 => ?_)
 refine go 1 ?_
 refine o_alloc he rfl (fun g5 => ?_)
 refine go 4 ?_
 refine o_v rfl (v_ldI he rfl (hg 0 _ rfl)) ?_
 refine go 4 ?_
 refine o_callV (lifeSince _ day p.since hd) rfl rfl ?_
 refine go 1 ?_
 refine o_stw _ he rfl rfl rfl rfl rfl rfl ?_
 refine go 3 ?_
 refine fin1 rfl ⟨_, _, _, rfl, m0, .inr ⟨_, he, rfl, rfl⟩⟩ ?_
 exact q_v rfl

theorem cur_made (I : IMap) (p : Part) (q : Value) (day : Int) (hd : 0 ≤ day ∧ day ≤ 40000) (g : Nat) (hg : ICells I g 0 [.func (.func 93) #[] #[]]) :
    FnV Tryz.prog 98 #[.agg (p.cells q).toArray, .int .i64 (day), .pointer (some ⟨g, 0, none⟩)] I (.agg (sinceI day p.made).cells.toArray) := by
 refine enter Tryz.func98 Tryz.call98 rfl Tryz.ntmps98 rfl (fun w0 => ?_)
 refine go 3 ?_
 refine o_box _ rfl rfl rfl (fun g3 => ?_)
 refine go 1 ?_
 refine o_alloc he rfl (fun g5 => ?_)
 refine go 4 ?_
 refine o_v rfl (v_ldI he rfl (hg 0 _ rfl)) ?_
 refine go 4 ?_
 refine o_callV (lifeSince _ day p.made hd) rfl rfl ?_
 refine go 1 ?_
 refine o_stw _ he rfl rfl rfl rfl rfl rfl ?_
 refine go 3 ?_
 refine fin1 rfl ⟨_, _, _, rfl, m0, .inr ⟨_, he, rfl, rfl⟩⟩ ?_
 exact q_v rfl

def curM (g : Nat) : List (ByteArray × Value) := [(sKm, .func (.func 94) #[] #[]), (sCycles, .func (.func 95) #[] #[]), (sDamage, .func (.func 96) #[] #[]), (sDays, .func (.func 97) #[] #[.pointer (some ⟨g, 0, none⟩)]), (sAge, .func (.func 98) #[] #[.pointer (some ⟨g, 0, none⟩)])]

theorem lifeCur (I : IMap) :
    FnH Tryz.prog 49 #[] I [] (fun u J H2 => ∃ m g, u = .map (some m) ∧ H2 = [.mp m (emap Value.string (curM g))] ∧ ICells J g 0 [.func (.func 93) #[] #[]]) := by
 refine enter Tryz.func49 Tryz.call49 rfl Tryz.ntmps49 rfl (fun w0 => ?_)
 refine go 8 ?_
 refine o_alloc he rfl (fun g1 => ?_)
 refine go 1 ?_
 refine o_stw _ he rfl rfl rfl rfl rfl rfl ?_
 refine go 5 ?_
 refine o_map0 (Value.string) he rfl (fun r2 => ?_)
 refine go 1 ?_
 refine o_mapIns ([(sKm, .func (.func 94) #[] #[])]) (key_string he) he (sKm) rfl rfl rfl (rfl) ?_
 refine go 1 ?_
 refine o_mapIns ([(sKm, .func (.func 94) #[] #[]), (sCycles, .func (.func 95) #[] #[])]) (key_string he) he (sCycles) rfl rfl rfl (rfl) ?_
 refine go 1 ?_
 refine o_mapIns ([(sKm, .func (.func 94) #[] #[]), (sCycles, .func (.func 95) #[] #[]), (sDamage, .func (.func 96) #[] #[])]) (key_string he) he (sDamage) rfl rfl rfl (rfl) ?_
 refine o_v rfl (v_makeFunc rfl rfl) ?_
 refine go 1 ?_
 refine o_mapIns ([(sKm, .func (.func 94) #[] #[]), (sCycles, .func (.func 95) #[] #[]), (sDamage, .func (.func 96) #[] #[]), (sDays, .func (.func 97) #[] #[.pointer (some ⟨g1, 0, none⟩)])]) (key_string he) he (sDays) rfl rfl rfl (rfl) ?_
 refine o_v rfl (v_makeFunc rfl rfl) ?_
 refine go 1 ?_
 refine o_mapIns ([(sKm, .func (.func 94) #[] #[]), (sCycles, .func (.func 95) #[] #[]), (sDamage, .func (.func 96) #[] #[]), (sDays, .func (.func 97) #[] #[.pointer (some ⟨g1, 0, none⟩)]), (sAge, .func (.func 98) #[] #[.pointer (some ⟨g1, 0, none⟩)])]) (key_string he) he (sAge) rfl rfl rfl (rfl) ?_
 refine go 5 ?_
 refine fin1 rfl rfl ?_
 refine bring1 ?_
 refine sx_pub (fun J9 j9 c9 => ?_)
 exact q_post (fun _ m => m) ⟨_, g1, rfl, rfl, c9⟩

theorem cur_call (I : IMap) (g : Nat) (hg : ICells I g 0 [.func (.func 93) #[] #[]]) (s : ByteArray) : ∃ (z : Value) (b : Bool), (mget (curM g) s).getD .nilFunc = z ∧ (mget (curM g) s).isSome = b ∧ b = isCur s ∧ (b = true → ∃ (k : FuncId) (cs : List Value), z = .func (.func k) #[] cs.toArray ∧
    ∀ J, ILe I J → ∀ (p : Part) (q : Value) (day : Int), 0 ≤ day ∧ day ≤ 40000 → FnV Tryz.prog k ([Value.agg (p.cells q).toArray, .int .i64 day] ++ cs).toArray J (.agg (curI p s day).cells.toArray)) := by
  obtain ⟨⟨n1, n2, n3, n4⟩, ⟨n5, n6, n7⟩, ⟨n8, n9⟩, n10⟩ := cur_ne
  refine ⟨_, _, rfl, rfl, ?_, ?_⟩
  · rw [curM, cur_look]
    rcases cur_cases s with h | h
    · rcases h with rfl | rfl | rfl | rfl | rfl <;> simp [isCur, curL, *, Ne.symm, n1.symm, n2.symm, n3.symm, n4.symm, n5.symm, n6.symm, n7.symm, n8.symm, n9.symm, n10.symm]
    · rw [h]
      have h2 : s ∉ curL := by simpa [isCur] using h
      simp only [curL, List.mem_cons, List.not_mem_nil, or_false, not_or] at h2
      simp [h2]
  · intro hs
    rw [curM, cur_look] at hs ⊢
    rcases cur_cases s with h | h
    · rcases h with rfl | rfl | rfl | rfl | rfl
      · exact ⟨94, [], by simp, fun J _ p q day hd => by rw [curI, if_pos rfl]; exact cur_km J p q day hd⟩
      · exact ⟨95, [], by simp [n1.symm], fun J _ p q day hd => by rw [curI, if_neg n1.symm, if_pos rfl]; exact cur_cycles J p q day hd⟩
      · exact ⟨96, [], by simp [n2.symm, n5.symm], fun J _ p q day hd => by rw [curI, if_neg n2.symm, if_neg n5.symm, if_pos rfl]; exact cur_damage J p q day hd⟩
      · exact ⟨97, [.pointer (some ⟨g, 0, none⟩)], by simp [n3.symm, n6.symm, n8.symm], fun J hJ p q day hd => by rw [curI, if_neg n3.symm, if_neg n6.symm, if_neg n8.symm, if_pos rfl]; exact cur_since J p q day hd g (hg.le hJ)⟩
      · exact ⟨98, [.pointer (some ⟨g, 0, none⟩)], by simp [n4.symm, n7.symm, n9.symm, n10.symm], fun J hJ p q day hd => by rw [curI, if_neg n4.symm, if_neg n7.symm, if_neg n9.symm, if_neg n10.symm]; exact cur_made J p q day hd g (hg.le hJ)⟩
    · exfalso
      have h2 : s ∉ curL := by simpa [isCur] using h
      simp only [curL, List.mem_cons, List.not_mem_nil, or_false, not_or] at h2
      simp [h2] at hs

theorem lifeValue (I : IMap) (p : Part) (q : Value) (hq : q.oneCell' = true) (s : ByteArray) (day : Int) :
    FnV Tryz.prog 18 #[.agg (p.cells q).toArray, .string s, .int .i64 (day)] I (.tuple #[.agg (valueF p s day).1.cells.toArray, .int .i64 ((valueF p s day).2)]) := by
 refine enter Tryz.func18 Tryz.call18 rfl Tryz.ntmps18 rfl (fun w0 => ?_)
 refine go 3 ?_
 refine o_box _ rfl rfl rfl (fun g3 => ?_)
 refine go 1 ?_
 refine o_alloc he rfl (fun g6 => ?_)
 refine go 6 ?_
 refine o_callH0 (lifeCur _) rfl rfl (fun u11 I11 H11 j11 q11 => ?_)
 obtain ⟨m, g, rfl, rfl, hg⟩ := q11
 refine sx_app1' ?_
 obtain ⟨z, b, hz, hb, hbs, hzb⟩ := cur_call _ g hg s
 refine go 1 ?_
 refine o_v rfl (v_get2 m0 (key_string he) he he (s) rfl rfl hz hb) ?_
 refine go 16 ?_
 refine cb rfl (fun h16 p16 => ?_) (fun h16 p16 => ?_)
 ·refine go 3 ?_
  refine o_val rfl (v_build (pl := [(0, 1), (1, 1)]) he he rfl rfl) ?_
  refine go 1 ?_
  refine bring1 ?_
  refine o_stw _ he rfl rfl rfl rfl rfl rfl ?_
  refine go 6 ?_
  refine fin2 rfl ⟨_, _, _, rfl, m0, .inr ⟨_, he, rfl, rfl⟩⟩ rfl ?_
  exact q_vI (by rw [value_no (by rw [← hbs]; simpa using h16)] <;> rfl)
 ·have hb1 : b = true := by simpa using h16
  obtain ⟨k, cs, rfl, hcall⟩ := hzb hb1
  refine go 1 ?_
  refine c_cut (I' := I11) (L' := [(2, .int .i64 (day)), (3, .pointer (some ⟨g3, 0, none⟩)), (6, .pointer (some ⟨g6, 0, none⟩)), (8, .func (.func k) #[] cs.toArray), (20, .bool (decide (day < 0) || decide (day > 40000)))]) (H' := [.blk g3 49 (p.cells q), .blk g6 32 [.int .i64 (0), .int .i64 (0)]]) ?_ ?_
  ·refine go 4 ?_
   refine sxb 23 rfl (fun h23 p23 => ?_) (fun h23 p23 => ?_)
   ·refine go 6 ?_
    refine sx_drop ?_
    refine bring1 ?_
    exact q_cut ⟨rfl, rfl, rfl, rfl, (congrArg (fun b => some (Value.bool b)) (by simp only [h16, h23, bS])), trivial⟩ rfl rfl
   ·refine go 6 ?_
    refine sx_drop ?_
    refine bring1 ?_
    exact q_cut ⟨rfl, rfl, rfl, rfl, (congrArg (fun b => some (Value.bool b)) (by simp only [h16, h23, bS])), trivial⟩ rfl rfl
  ·refine cb rfl (fun h20 p20 => ?_) (fun h20 p20 => ?_)
   ·refine go 3 ?_
    refine o_val rfl (v_build (pl := [(0, 1), (1, 1)]) he he rfl rfl) ?_
    refine go 1 ?_
    refine bring1 ?_
    refine o_stw _ he rfl rfl rfl rfl rfl rfl ?_
    refine go 6 ?_
    refine fin2 rfl ⟨_, _, _, rfl, m0, .inr ⟨_, he, rfl, rfl⟩⟩ rfl ?_
    exact q_vI (by rw [value_bad (by rw [← hbs, hb1]) h20] <;> rfl)
   ·have hd : 0 ≤ day ∧ day ≤ 40000 := by simp at h20; omega
    refine go 9 ?_
    refine o_callV (hcall _ (ILe.refl _) p q day hd) rfl rfl ?_
    refine go 1 ?_
    refine bring1 ?_
    refine o_stw _ he rfl rfl rfl rfl rfl rfl ?_
    refine go 4 ?_
    refine fin2 rfl ⟨_, _, _, rfl, m0, .inr ⟨_, he, rfl, rfl⟩⟩ rfl ?_
    exact q_vI (by rw [value_yes (by rw [← hbs, hb1]) h20] <;> rfl)

theorem lifeIs (I : IMap) (s : ByteArray) :
    FnV Tryz.prog 21 #[.string s] I (.bool (isCur s)) := by
 refine enter Tryz.func21 Tryz.call21 rfl Tryz.ntmps21 rfl (fun w0 => ?_)
 refine go 8 ?_
 refine o_callH0 (lifeCur _) rfl rfl (fun u6 I6 H6 j6 q6 => ?_)
 obtain ⟨m, g, rfl, rfl, hg⟩ := q6
 refine sx_app1' ?_
 obtain ⟨z, b, hz, hb, hbs, hzb⟩ := cur_call _ g hg s
 refine go 1 ?_
 refine o_v rfl (v_get2 m0 (key_string he) he he (s) rfl rfl hz hb) ?_
 refine go 14 ?_
 refine fin1 rfl rfl ?_
 exact q_vI (congrArg Value.bool hbs)

end Go.Proofs.YthcefohbbfjjfaaGreat

/- What the laws of lives rest on: sizes, the chapter's example. -/
set_option linter.all false
namespace Go.Sx
open Go
/-- strings of at most 300 bytes -/
def short12 (e : Evt) : Bool := !(((((decide (((e.part.size : Nat) : Int) > 300) || decide (((e.kind.size : Nat) : Int) > 300)) || decide (((e.into.size : Nat) : Int) > 300)) || decide (((e.slot.size : Nat) : Int) > 300)) || decide (((e.key.size : Nat) : Int) > 300)) || decide (((e.value.size : Nat) : Int) > 300))
def bad12 (c : List Kind) (f : Fm) (l : List Evt) (n : Int) : Bool := (decide (((l.length : Nat) : Int) > n) || !fewC c) || !decide (nodesF f 80 ≤ 80)
def few12 (c : List Kind) (f : Fm) (l : List Evt) (n : Int) : Bool := !bad12 c f l n && allP (fun _ e => short12 e) l l.length
theorem short12_sm {e : Evt} (h : short12 e = true) : SmE e := by
  simp only [short12, Bool.not_eq_true', Bool.or_eq_false_iff, decide_eq_false_iff_not] at h
  refine ⟨?_, ?_, ?_, ?_, ?_, ?_⟩ <;> unfold Sm <;> omega
theorem few12_sm {c : List Kind} {f : Fm} {l : List Evt} {n : Nat} (h : few12 c f l (n : Nat) = true) : SmC c ∧ l.length ≤ n ∧ (∀ e ∈ l, SmE e) := by
  simp only [few12, bad12, Bool.and_eq_true, Bool.not_eq_true', Bool.or_eq_false_iff, decide_eq_false_iff_not, Bool.not_eq_false'] at h
  refine ⟨fewC_sm h.1.1.2, by omega, fun e he => ?_⟩
  obtain ⟨_, h1⟩ := allP_mem h.2 he
  exact short12_sm h1
/-! the example -/
def nBogie : ByteArray := ⟨#[98, 111, 103, 105, 101]⟩
def nFront : ByteArray := ⟨#[102, 114, 111, 110, 116]⟩
def nB1 : ByteArray := ⟨#[98, 49]⟩
def exKs : List Kind := [⟨nBogie, false, []⟩, ⟨nCoach, true, [⟨nFront, [nBogie], 1⟩]⟩]
def exFm : Fm := .mk 7 0 [.mk 2 0 [], .mk 1 2 []]
def exOne : Use := ⟨⟨10, 12⟩, ⟨3, 3⟩, ⟨0, 0⟩⟩
def exTwo : Use := ⟨⟨5, 5⟩, ⟨0, 0⟩, ⟨0, 0⟩⟩
def exEs : List Evt := [⟨1, 0, nV1, nCoach, nil8, nil8, nil8, nil8, zUse⟩, ⟨1, 0, nB1, nBogie, nil8, nil8, nil8, nil8, zUse⟩, ⟨2, 0, nB1, nil8, nV1, nFront, nil8, nil8, zUse⟩, ⟨4, 1, nV1, nil8, nil8, nil8, nil8, nil8, exOne⟩, ⟨3, 2, nB1, nil8, nil8, nil8, nil8, nil8, zUse⟩, ⟨4, 3, nV1, nil8, nil8, nil8, nil8, nil8, exTwo⟩, ⟨5, 4, nV1, nil8, nil8, nil8, nil8, nil8, zUse⟩]
def exLife : Life := ⟨⟨10, 12⟩, ⟨3, 3⟩, ⟨20, 24⟩⟩
def exSA : List Part := [⟨nB1, nBogie, nV1, nFront, 0, 0, false, [], exLife⟩, ⟨nV1, nCoach, nil8, nil8, 0, 0, false, [], exLife⟩]
def exSB : List Part := [⟨nB1, nBogie, nil8, nil8, 0, 0, false, [], exLife⟩, ⟨nV1, nCoach, nil8, nil8, 0, 0, false, [], ⟨⟨15, 17⟩, ⟨3, 3⟩, ⟨30, 34⟩⟩⟩]
def exSC : List Part := [⟨nB1, nBogie, nil8, nil8, 0, 0, false, [], exLife⟩, ⟨nV1, nCoach, nil8, nil8, 0, 4, false, [], zLife⟩]
/-- where nothing is deeper than one, what a run adds can be computed -/
def flatB (st : List Part) (v : ByteArray) : Bool := (!decide (v = nil8) && (findP st v).isSome) && st.all fun p => decide (upP st p.name = nil8) || decide (upP st p.name = v)
def useC (st : List Part) (e : Evt) (d : Ivl) : List Part := st.map fun p => if p.name = e.part ∨ upP st p.name = e.part then addLife d e.use p else p
theorem useC_is {st : List Part} {e : Evt} {d : Ivl} (h : flatB st e.part = true) : useL st e d = useC st e d := by
  simp only [flatB, Bool.and_eq_true, Bool.not_eq_true', decide_eq_false_iff_not, List.all_eq_true, Bool.or_eq_true, decide_eq_true_eq] at h
  obtain ⟨⟨hv, hs⟩, hall⟩ := h
  unfold useL useC
  refine List.map_congr_left fun p hp => ?_
  have hi : (p.name = e.part ∨ InsP st e.part p.name) ↔ (p.name = e.part ∨ upP st p.name = e.part) := by
    constructor
    · rintro (h | ⟨_, k, hk⟩)
      · exact .inl h
      · rcases hall p hp with h0 | h0
        · cases k with
          | zero => cases hk
          | succ k => simp [reachF, h0] at hk
        · exact .inr h0
    · rintro (h | h)
      · exact .inl h
      · by_cases hn : p.name = e.part
        · exact .inl hn
        · exact .inr ⟨⟨hs, up_some (by rw [h]; exact hv), hn⟩, 1, by unfold reachF; rw [h]; simp [hv]⟩
  by_cases hc : p.name = e.part ∨ upP st p.name = e.part
  · rw [if_pos hc, if_pos (hi.2 hc)]
  · rw [if_neg hc, if_neg (fun h => hc (hi.1 h))]
def goC (f : Fm) (c : List Kind) : List Part → Int → List Evt → Option Res3
  | s, _, [] => some (s, -1, 0)
  | s, i, e :: r => if (applyF c s e).2 = 0 then (if e.op = 4 then (if flatB (applyF c s e).1 e.part = true then goC f c (useC (applyF c s e).1 e (damF f e.use)) (i + 1) r else none) else goC f c (applyF c s e).1 (i + 1) r) else some ([], i, (applyF c s e).2)
theorem goC_is {f : Fm} {c : List Kind} : ∀ (l : List Evt) {s : List Part} {i : Int} {r : Res3}, goC f c s i l = some r → runLGo f c s i l = r
  | [], s, i, r, h => by simp only [goC, Option.some.injEq] at h; exact h
  | e :: l, s, i, r, h => by
    simp only [goC] at h
    simp only [runLGo, applyL_code]
    split at h
    · rename_i h0
      rw [if_pos h0]
      unfold applyL
      split at h
      · rename_i h4
        rw [if_pos ⟨h0, h4⟩]
        split at h
        · rename_i hf
          rw [useC_is hf]
          exact goC_is l h
        · cases h
      · rename_i h4
        rw [if_neg (fun hc => h4 hc.2)]
        exact goC_is l h
    · rename_i h0
      rw [if_neg h0]
      exact Option.some.inj h
def runC (f : Fm) (c : List Kind) (l : List Evt) (day : Int) : Option Res3 := if (!validC c || !validFm f) = true then some ([], -1, 1) else goC f c [] 0 (sortF (l.filter fun e => !decide (e.day > day)))
theorem runC_is {f : Fm} {c : List Kind} {l : List Evt} {day : Int} {r : Res3} (h : runC f c l day = some r) : runL f c l day = r := by
  unfold runC at h
  unfold runL
  split at h
  · rename_i h1; rw [if_pos h1]; exact Option.some.inj h
  · rename_i h1; rw [if_neg h1]; exact goC_is _ h
theorem ex_a : runL exFm exKs (exEs.take 4) 9 = (exSA, -1, 0) := runC_is (by decide +kernel)
theorem ex_b : runL exFm exKs (exEs.take 6) 9 = (exSB, -1, 0) := runC_is (by decide +kernel)
theorem ex_c : runL exFm exKs exEs 9 = (exSC, -1, 0) := runC_is (by decide +kernel)
theorem ex_smC : SmC exKs := fewC_sm (by decide +kernel)
theorem ex_smE : ∀ e ∈ exEs, SmE e := fun e he => by
  have h : exEs.all short12 = true := by decide +kernel
  exact short12_sm (List.all_eq_true.1 h e he)
/-! counting parts -/
theorem cnt_go {f : Fm} {c : List Kind} : ∀ (l : List Evt) (s : List Part) (i : Int), cntS (runLGo f c s i l).1 ≤ cntS s + l.length
  | [], s, i => Nat.le_refl _
  | e :: r, s, i => by
    simp only [runLGo]
    split
    · rename_i h
      rw [applyL_code] at h
      have h1 := cnt_apply h
      have h2 := cnt_go (f := f) (c := c) r (applyL f c s e).1 (i + 1)
      have h3 : cntS (applyL f c s e).1 = cntS (applyF c s e).1 := by
        unfold applyL
        split
        · exact cnt_use
        · rfl
      simp only [List.length_cons]; omega
    · have : cntS ([] : List Part) = 0 := rfl
      show cntS [] ≤ _
      omega
theorem cnt_run {f : Fm} {c : List Kind} {l : List Evt} {day : Int} : cntS (runL f c l day).1 ≤ l.length := by
  unfold runL
  split
  · exact Nat.zero_le _
  · have h := cnt_go (f := f) (c := c) (sortF (l.filter fun e => !decide (e.day > day))) [] 0
    rw [sortF_len] at h
    have h2 := List.length_filter_le (fun e : Evt => !decide (e.day > day)) l
    have h3 : cntS ([] : List Part) = 0 := rfl
    omega
theorem fit_run {f : Fm} {c : List Kind} {l : List Evt} {day : Int} (h : l.length ≤ 25) : fitN (runL f c l day).1 ≤ 12 ∧ (runL f c l day).1.length ≤ 25 := by
  have h1 := cnt_run (f := f) (c := c) (l := l) (day := day)
  have h2 : fitN (runL f c l day).1 ≤ (runL f c l day).1.length := List.length_filter_le _ _
  unfold cntS at h1
  omega
def leastI (a b : Ivl) : Bool := decide (a.low ≤ b.low) && decide (a.high ≤ b.high)
theorem find_step {l : List Part} {s : ByteArray} {i : Nat} (hi : i < l.length) (h : findP (l.drop i) s = findP l s) (hn : ¬ l[i].name = s) : findP (l.drop (i + 1)) s = findP l s := by
  rw [← h, List.drop_eq_getElem_cons hi]
  unfold findP
  rw [List.find?_cons_of_neg (by simpa using hn)]
theorem find_hit {l : List Part} {s : ByteArray} {i : Nat} (hi : i < l.length) (h : findP (l.drop i) s = findP l s) (hn : l[i].name = s) : findP l s = some l[i] := by
  rw [← h, List.drop_eq_getElem_cons hi]
  unfold findP
  rw [List.find?_cons_of_pos (by simpa using hn)]
theorem find_end {l : List Part} {s : ByteArray} {i : Nat} (hi : ¬ i < l.length) (h : findP (l.drop i) s = findP l s) : findP l s = none := by
  rw [← h, List.drop_eq_nil_of_le (by omega)]; rfl
/-- two parts, field by field -/
def sameB (x y : Part) : Bool := (((((((decide (x.props = y.props) && decide (x.name = y.name)) && decide (x.kind = y.kind)) && decide (x.into = y.into)) && decide (x.slot = y.slot)) && decide (x.made = y.made)) && decide (x.since = y.since)) && (x.scrapped == y.scrapped)) && decide (x.life = y.life)
theorem sameB_is {x y : Part} : sameB x y = decide (x = y) := by
  rw [Bool.eq_iff_iff]
  simp only [sameB, Bool.and_eq_true, decide_eq_true_eq, beq_iff_eq]
  constructor
  · intro h; cases x; cases y; simp_all
  · rintro rfl; simp
theorem fm_one {I : IMap} {op n : Int} {s : Value} {f : Fm} (h : FmRd I [ci op, ci n, s] f) : s.oneCell' = true := by
  have := Enc.one (α := Fm) h
  simp at this
  exact this.2.2
end Go.Sx

