/- Walks, printed by a program out of the code of the functions: each theorem is a contract of one function. -/
import Derived.Test.YtkmdojpfccjnoaaGreatChecked
import Derived.Test.YtkmdojpfccjnoaaGreatSxKey
import Derived.Test.YtkmdojpfccjnoaaGreatSxKey
import Derived.Test.YtkmdojpfccjnoaaGreatDom
import Derived.Test.YtkmdojpfccjnoaaGreatSxAuto
namespace Go.Proofs.YtkmdojpfccjnoaaGreat
open Go Go.Sx
set_option linter.all false
set_option maxRecDepth 20000
set_option maxHeartbeats 4000000
instance T.arr_142 : Has (arrK Tryz.prog 142) (256, 5, 1) := ⟨by kernel_rfl⟩
instance T.elt_57 : Has (eltK Tryz.prog 57) (9, 1) := ⟨by kernel_rfl⟩
instance T.ty_142 : Has (tyK Tryz.prog 142) (true, 256) := ⟨by kernel_rfl⟩
instance T.ty_5 : Has (tyK Tryz.prog 5) (false, 1) := ⟨by kernel_rfl⟩
instance T.ty_9 : Has (tyK Tryz.prog 9) (false, 1) := ⟨by kernel_rfl⟩
instance T.und_3 : Has (Tryz.prog.underlying 3) (.int .i64) := ⟨by kernel_rfl⟩
instance T.und_5 : Has (Tryz.prog.underlying 5) (.int .u8) := ⟨by kernel_rfl⟩
instance T.und_57 : Has (Tryz.prog.underlying 57) (.slice 9) := ⟨by kernel_rfl⟩
instance T.und_9 : Has (Tryz.prog.underlying 9) (.string) := ⟨by kernel_rfl⟩
instance T.zero_142 : Has (zeroK Tryz.prog 142) [.int .u8 0, .int .u8 0, .int .u8 0, .int .u8 0, .int .u8 0, .int .u8 0, .int .u8 0, .int .u8 0, .int .u8 0, .int .u8 0, .int .u8 0, .int .u8 0, .int .u8 0, .int .u8 0, .int .u8 0, .int .u8 0, .int .u8 0, .int .u8 0, .int .u8 0, .int .u8 0, .int .u8 0, .int .u8 0, .int .u8 0, .int .u8 0, .int .u8 0, .int .u8 0, .int .u8 0, .int .u8 0, .int .u8 0, .int .u8 0, .int .u8 0, .int .u8 0, .int .u8 0, .int .u8 0, .int .u8 0, .int .u8 0, .int .u8 0, .int .u8 0, .int .u8 0, .int .u8 0, .int .u8 0, .int .u8 0, .int .u8 0, .int .u8 0, .int .u8 0, .int .u8 0, .int .u8 0, .int .u8 0, .int .u8 0, .int .u8 0, .int .u8 0, .int .u8 0, .int .u8 0, .int .u8 0, .int .u8 0, .int .u8 0, .int .u8 0, .int .u8 0, .int .u8 0, .int .u8 0, .int .u8 0, .int .u8 0, .int .u8 0, .int .u8 0, .int .u8 0, .int .u8 0, .int .u8 0, .int .u8 0, .int .u8 0, .int .u8 0, .int .u8 0, .int .u8 0, .int .u8 0, .int .u8 0, .int .u8 0, .int .u8 0, .int .u8 0, .int .u8 0, .int .u8 0, .int .u8 0, .int .u8 0, .int .u8 0, .int .u8 0, .int .u8 0, .int .u8 0, .int .u8 0, .int .u8 0, .int .u8 0, .int .u8 0, .int .u8 0, .int .u8 0, .int .u8 0, .int .u8 0, .int .u8 0, .int .u8 0, .int .u8 0, .int .u8 0, .int .u8 0, .int .u8 0, .int .u8 0, .int .u8 0, .int .u8 0, .int .u8 0, .int .u8 0, .int .u8 0, .int .u8 0, .int .u8 0, .int .u8 0, .int .u8 0, .int .u8 0, .int .u8 0, .int .u8 0, .int .u8 0, .int .u8 0, .int .u8 0, .int .u8 0, .int .u8 0, .int .u8 0, .int .u8 0, .int .u8 0, .int .u8 0, .int .u8 0, .int .u8 0, .int .u8 0, .int .u8 0, .int .u8 0, .int .u8 0, .int .u8 0, .int .u8 0, .int .u8 0, .int .u8 0, .int .u8 0, .int .u8 0, .int .u8 0, .int .u8 0, .int .u8 0, .int .u8 0, .int .u8 0, .int .u8 0, .int .u8 0, .int .u8 0, .int .u8 0, .int .u8 0, .int .u8 0, .int .u8 0, .int .u8 0, .int .u8 0, .int .u8 0, .int .u8 0, .int .u8 0, .int .u8 0, .int .u8 0, .int .u8 0, .int .u8 0, .int .u8 0, .int .u8 0, .int .u8 0, .int .u8 0, .int .u8 0, .int .u8 0, .int .u8 0, .int .u8 0, .int .u8 0, .int .u8 0, .int .u8 0, .int .u8 0, .int .u8 0, .int .u8 0, .int .u8 0, .int .u8 0, .int .u8 0, .int .u8 0, .int .u8 0, .int .u8 0, .int .u8 0, .int .u8 0, .int .u8 0, .int .u8 0, .int .u8 0, .int .u8 0, .int .u8 0, .int .u8 0, .int .u8 0, .int .u8 0, .int .u8 0, .int .u8 0, .int .u8 0, .int .u8 0, .int .u8 0, .int .u8 0, .int .u8 0, .int .u8 0, .int .u8 0, .int .u8 0, .int .u8 0, .int .u8 0, .int .u8 0, .int .u8 0, .int .u8 0, .int .u8 0, .int .u8 0, .int .u8 0, .int .u8 0, .int .u8 0, .int .u8 0, .int .u8 0, .int .u8 0, .int .u8 0, .int .u8 0, .int .u8 0, .int .u8 0, .int .u8 0, .int .u8 0, .int .u8 0, .int .u8 0, .int .u8 0, .int .u8 0, .int .u8 0, .int .u8 0, .int .u8 0, .int .u8 0, .int .u8 0, .int .u8 0, .int .u8 0, .int .u8 0, .int .u8 0, .int .u8 0, .int .u8 0, .int .u8 0, .int .u8 0, .int .u8 0, .int .u8 0, .int .u8 0, .int .u8 0, .int .u8 0, .int .u8 0, .int .u8 0, .int .u8 0, .int .u8 0, .int .u8 0, .int .u8 0, .int .u8 0, .int .u8 0, .int .u8 0, .int .u8 0, .int .u8 0, .int .u8 0, .int .u8 0, .int .u8 0, .int .u8 0, .int .u8 0, .int .u8 0, .int .u8 0, .int .u8 0, .int .u8 0, .int .u8 0] := ⟨by kernel_rfl⟩
theorem letter05 (I : IMap) (c : UInt8) :
    FnV Tryz.prog 87 #[.int .u8 (c.toNat : Int)] I (.bool (isLetter c)) := by
 refine enter Tryz.func87 Tryz.call87 rfl Tryz.ntmps87 rfl (fun w0 => ?_)
 refine go 10 ?_
 refine sxb 5 rfl (fun h5 p5 => ?_) (fun h5 p5 => ?_)
 ·refine go 4 ?_
  refine sxb 9 rfl (fun h9 p9 => ?_) (fun h9 p9 => ?_)
  ·refine go 11 ?_
   refine fin1 rfl rfl ?_
   exact q_v (by simp [isLetter, h5, h9])
  ·refine go 3 ?_
   refine sxb 12 rfl (fun h12 p12 => ?_) (fun h12 p12 => ?_)
   ·refine go 8 ?_
    refine fin1 rfl rfl ?_
    exact q_v (by simp [isLetter, h5, h9, h12])
   ·refine go 8 ?_
    refine fin1 rfl rfl ?_
    exact q_v (by simp [isLetter, h5, h9, h12])
 ·refine go 7 ?_
  refine sxb 12 rfl (fun h12 p12 => ?_) (fun h12 p12 => ?_)
  ·refine go 8 ?_
   refine fin1 rfl rfl ?_
   exact q_v (by simp [isLetter, h5, h12])
  ·refine go 8 ?_
   refine fin1 rfl rfl ?_
   exact q_v (by simp [isLetter, h5, h12])

theorem digit05 (I : IMap) (c : UInt8) :
    FnV Tryz.prog 119 #[.int .u8 (c.toNat : Int)] I (.bool (isDigit c)) := by
 refine enter Tryz.func119 Tryz.call119 rfl Tryz.ntmps119 rfl (fun w0 => ?_)
 refine go 10 ?_
 refine sxb 5 rfl (fun h5 p5 => ?_) (fun h5 p5 => ?_)
 ·refine go 7 ?_
  refine fin1 rfl rfl ?_
  exact q_v (by simp [isDigit, h5])
 ·refine go 7 ?_
  refine fin1 rfl rfl ?_
  exact q_v (by simp [isDigit, h5])

theorem word05 (I : IMap) (c : UInt8) :
    FnV Tryz.prog 86 #[.int .u8 (c.toNat : Int)] I (.bool (isWord c)) := by
 refine enter Tryz.func86 Tryz.call86 rfl Tryz.ntmps86 rfl (fun w0 => ?_)
 refine go 9 ?_
 refine o_callV (letter05 _ c) rfl rfl ?_
 refine go 1 ?_
 refine sxb 5 rfl (fun h5 p5 => ?_) (fun h5 p5 => ?_)
 ·refine go 11 ?_
  refine fin1 rfl rfl ?_
  exact q_v (by simp [isWord, h5])
 ·refine go 2 ?_
  refine o_yes rfl rfl h5 (o_callV (digit05 _ c) rfl rfl ?_)
  refine go 2 ?_
  refine sxb 9 rfl (fun h9 p9 => ?_) (fun h9 p9 => ?_)
  ·refine go 7 ?_
   refine fin1 rfl rfl ?_
   exact q_v (by simp [isWord, h5, h9])
  ·refine go 7 ?_
   refine fin1 rfl rfl ?_
   exact q_v (by simp [isWord, h5, h9])

theorem name05 (I : IMap) (s : ByteArray) (hs : s.size ≤ 9223372036854775807) :
    FnV Tryz.prog 56 #[.string s] I (.bool (nameRef s)) := by
 refine enter Tryz.func56 Tryz.call56 rfl Tryz.ntmps56 rfl (fun w0 => ?_)
 refine go 12 ?_
 refine c_loop (α := Nat) 0 (fun i => I)
  (fun i => [(0, .string s), (3, .int .i64 (i : Int))])
  (fun i => [])
  (fun i => i ≤ s.size ∧ wordsTo s i = true)
  (fun i => s.size - i) ⟨Nat.zero_le _, rfl⟩ rfl sb rfl ?_
 intro i ⟨hi, hn⟩
 refine go 9 ?_
 refine cb rfl (fun h7 p7 => ?_) (fun h7 p7 => ?_)
 ·refine go 8 ?_
  refine o_v rfl (v_sidx he rfl rfl i (by omega) (by omega)) ?_
  refine go 1 ?_
  refine o_callV (word05 _ _) rfl rfl ?_
  refine go 3 ?_
  refine cb rfl (fun h14 p14 => ?_) (fun h14 p14 => ?_)
  ·refine go 11 ?_
   refine fin1 rfl rfl ?_
   exact q_v (by simp [nameRef, words_not (show i < s.size by omega) p14])
  ·refine go 9 ?_
   exact q_next (i + 1) ⟨by omega, words_succ hn p14⟩ (by omega) rfl sb rfl
 ·refine go 11 ?_
  refine sxb 18 rfl (fun h18 p18 => ?_) (fun h18 p18 => ?_)
  ·refine go 5 ?_
   refine sxb 23 rfl (fun h23 p23 => ?_) (fun h23 p23 => ?_)
   ·refine go 1 ?_
    refine o_cons (o_yes rfl rfl h23 (o_val rfl (v_sidx he rfl rfl 0 (by omega) (by omega)) ?_))
    refine go 1 ?_
    refine o_yes rfl rfl h23 (o_callV (letter05 _ _) rfl rfl ?_)
    refine go 5 ?_
    refine fin1 rfl rfl ?_
    exact q_v (by have e : i = s.size := (by omega); subst e; simp only [nameRef, hn, h7, h18, h23, bS])
   ·refine go 8 ?_
    refine fin1 rfl rfl ?_
    exact q_v (by have e : i = s.size := (by omega); subst e; simp only [nameRef, hn, h7, h18, h23, bS])
  ·refine go 13 ?_
   refine fin1 rfl rfl ?_
   exact q_v (by have e : i = s.size := (by omega); subst e; simp only [nameRef, hn, h7, h18, bS])

theorem in08 (I : IMap) (v : Value) (l : List ByteArray) (s : ByteArray) (hv : RdS I v l) :
    FnV Tryz.prog 58 #[v, .string s] I (.bool (decide (s ∈ l))) := by
 obtain ⟨A, c, rfl, hA, hc, hm⟩ := hv
 refine enter Tryz.func58 Tryz.call58 rfl Tryz.ntmps58 rfl (fun w0 => ?_)
 refine go 12 ?_
 refine c_loop (α := Nat) 0 (fun i => I)
  (fun i => [(0, .slice A l.length c), (1, .string s), (5, .int .i64 (i : Int))])
  (fun i => [])
  (fun i => i ≤ l.length ∧ ∀ j, j < i → l[j]? ≠ some s)
  (fun i => l.length - i) ⟨Nat.zero_le _, fun j hj => absurd hj (Nat.not_lt_zero j)⟩ rfl sb rfl ?_
 intro i ⟨hi, hn⟩
 refine go 9 ?_
 refine cb rfl (fun h9 p9 => ?_) (fun h9 p9 => ?_)
 ·have hlt : i < l.length := by omega
  refine go 8 ?_
  obtain ⟨b14, o14, w14, e14, c14, r14⟩ := RdA.at_ hA (i := i) hlt
  obtain rfl := r14
  refine o_v rfl (v_idx he rfl rfl e14 (i) (by omega) hlt) ?_
  refine o_v rfl (v_ldI he rfl (c14 0 _ rfl)) ?_
  refine go 4 ?_
  refine cb rfl (fun h17 p17 => ?_) (fun h17 p17 => ?_)
  ·refine go 11 ?_
   refine fin1 rfl rfl ?_
   exact q_v (by rw [← p17]; simp)
  ·refine go 9 ?_
   exact q_next (i + 1) ⟨by omega, fun j hj => sx_next hn hlt p17 j hj⟩ (by omega) rfl sb rfl
 ·refine go 11 ?_
  refine fin1 rfl rfl ?_
  exact q_v (by simp only [sx_not_mem l s (fun j hj => hn j (by omega))])

theorem ext_IndexByteString (args : Array Value) (w : World) : (callFunc 161 args).run Tryz.prog w = ((Extern.BytealgIndexByte.indexByte args).run Tryz.prog w).andThen fun v w' => .ok (.value v) w' := by
  have h1 : Extern.findNext Tryz.f161 = none := by kernel_rfl
  have h2 : Extern.find Tryz.f161 = some Extern.BytealgIndexByte.indexByte := by kernel_rfl
  have h3 : (Tryz.f161.name == "runtime.NumGoroutine") = false := by kernel_rfl
  have h4 : Tryz.f161.body.isNone = true := rfl
  simp only [callFunc, Sem.run_bind, run_program, Result.andThen_ok, Tryz.func161, h3, h4, h1, h2]
  simp
theorem indexByteString (I : IMap) (s : ByteArray) (c : UInt8) : FnV Tryz.prog 161 #[.string s, .int .u8 (c.toNat : Int)] I (.int .i64 (Lib.indexByte s.data.toList c)) := by
  refine ⟨fun w m => ?_⟩
  unfold After
  rw [ext_IndexByteString, Lib.run_indexByteString]
  exact ⟨_, I, [], rfl, m, by simp, rfl, rfl⟩

theorem indexByteLite (I : IMap) (s : ByteArray) (c : UInt8) :
    FnV Tryz.prog 150 #[.string s, .int .u8 (c.toNat : Int)] I (.int .i64 (Lib.indexByte s.data.toList c)) := by
 refine enter Tryz.func150 Tryz.call150 rfl Tryz.ntmps150 rfl (fun w0 => ?_)
 refine go 10 ?_
 refine o_callV (indexByteString I s c) rfl rfl ?_
 refine go 4 ?_
 refine fin1 rfl rfl ?_
 exact q_v rfl

theorem indexByte (I : IMap) (s : ByteArray) (c : UInt8) :
    FnV Tryz.prog 121 #[.string s, .int .u8 (c.toNat : Int)] I (.int .i64 (Lib.indexByte s.data.toList c)) := by
 refine enter Tryz.func121 Tryz.call121 rfl Tryz.ntmps121 rfl (fun w0 => ?_)
 refine go 10 ?_
 refine o_callV (indexByteLite I s c) rfl rfl ?_
 refine go 4 ?_
 refine fin1 rfl rfl ?_
 exact q_v rfl

theorem classes (I : IMap) :
    FnV Tryz.prog 89 #[] I (.agg clsTab.toArray) := by
 refine enter Tryz.func89 Tryz.call89 rfl Tryz.ntmps89 rfl (fun w0 => ?_)
 refine go 3 ?_
 refine o_alloc he rfl (fun g0 => ?_)
 refine go 5 ?_
 refine o_alloc he rfl (fun g1 => ?_)
 refine go 9 ?_
 refine c_loop (α := Nat) 0 (fun i => I)
  (fun i => [(1, .pointer (some ⟨g1, 0, none⟩)), (0, .pointer (some ⟨g0, 0, none⟩)), (4, .int .i64 (i : Int))])
  (fun i => [.blk g1 142 (clsRow i), .blk g0 142 (clsRow 0)])
  (fun i => i ≤ 256)
  (fun i => 256 - i) (by omega) rfl sb rfl ?_
 intro i hi
 refine go 6 ?_
 refine cb rfl (fun h5 p5 => ?_) (fun h5 p5 => ?_)
 ·have hlt : i < 256 := by omega
  have hb : ((i.toUInt8.toNat : Nat) : Int) = (i : Int) := by simp; omega
  refine go 3 ?_
  refine c_cut (I' := I) (L' := [(1, .pointer (some ⟨g1, 0, none⟩)), (0, .pointer (some ⟨g0, 0, none⟩)), (4, .int .i64 (i : Int))]) (H' := [.blk g1 142 (clsRow (i + 1)), .blk g0 142 (clsRow 0)]) ?_ ?_
  ·refine go 10 ?_
   refine o_v rfl (v_conv he he rfl (m := ((i.toUInt8.toNat : Nat) : Int)) (by rw [hb]; exact wrap_u8 i hlt)) ?_
   refine go 5 ?_
   refine c_cutL (L' := [(1, .pointer (some ⟨g1, 0, none⟩)), (0, .pointer (some ⟨g0, 0, none⟩)), (4, .int .i64 (i : Int)), (2, .int .i64 (i : Int)), (3, .int .u8 (i.toUInt8.toNat : Int)), (9, .bool (clsLow i.toUInt8 || clsUp i.toUInt8))]) ?_ ?_
   ·refine go 1 ?_
    refine c_cutL (L' := [(1, .pointer (some ⟨g1, 0, none⟩)), (0, .pointer (some ⟨g0, 0, none⟩)), (4, .int .i64 (i : Int)), (2, .int .i64 (i : Int)), (3, .int .u8 (i.toUInt8.toNat : Int)), (9, .bool (clsLow i.toUInt8))]) ?_ ?_
    ·refine go 4 ?_
     refine sxb 12 rfl (fun h12 p12 => ?_) (fun h12 p12 => ?_)
     ·refine go 6 ?_
      exact q_cut ⟨rfl, rfl, rfl, rfl, rfl, (congrArg (fun b => some (Value.bool b)) (by simp only [clsLow, h5, h12, bS])), trivial⟩ rfl rfl
     ·refine go 6 ?_
      exact q_cut ⟨rfl, rfl, rfl, rfl, rfl, (congrArg (fun b => some (Value.bool b)) (by simp only [clsLow, h5, h12, bS])), trivial⟩ rfl rfl
    ·refine cb rfl (fun h9 p9 => ?_) (fun h9 p9 => ?_)
     ·refine go 2 ?_
      exact q_cut ⟨rfl, rfl, rfl, rfl, rfl, (congrArg (fun b => some (Value.bool b)) (by simp only [clsUp, h9, bS])), trivial⟩ rfl rfl
     ·refine go 4 ?_
      refine sxb 18 rfl (fun h18 p18 => ?_) (fun h18 p18 => ?_)
      ·refine go 6 ?_
       exact q_cut ⟨rfl, rfl, rfl, rfl, rfl, (congrArg (fun b => some (Value.bool b)) (by simp only [clsUp, h9, h18, bS])), trivial⟩ rfl rfl
      ·refine go 6 ?_
       exact q_cut ⟨rfl, rfl, rfl, rfl, rfl, (congrArg (fun b => some (Value.bool b)) (by simp only [clsUp, h9, h18, bS])), trivial⟩ rfl rfl
   ·refine cb rfl (fun h9 p9 => ?_) (fun h9 p9 => ?_)
    ·refine go 2 ?_
     refine o_v rfl (v_aidx he rfl rfl i (by omega) (by omega)) ?_
     refine go 1 ?_
     refine o_st1 he rfl rfl rfl (by rw [clsRow_len, Nat.blt_eq]; omega) ?_
     refine go 4 ?_
     exact q_cut sb (congrArg (fun r => [Res.blk g1 _ r, _]) (clsRow_st i hlt _ (clsOf_3 h9))) rfl
    ·refine go 1 ?_
     refine c_cutL (L' := [(1, .pointer (some ⟨g1, 0, none⟩)), (0, .pointer (some ⟨g0, 0, none⟩)), (4, .int .i64 (i : Int)), (2, .int .i64 (i : Int)), (3, .int .u8 (i.toUInt8.toNat : Int)), (24, .bool (isDigit i.toUInt8))]) ?_ ?_
     ·refine go 4 ?_
      refine sxb 27 rfl (fun h27 p27 => ?_) (fun h27 p27 => ?_)
      ·refine go 6 ?_
       exact q_cut ⟨rfl, rfl, rfl, rfl, rfl, (congrArg (fun b => some (Value.bool b)) (by simp only [isDigit, h9, h27, bS])), trivial⟩ rfl rfl
      ·refine go 6 ?_
       exact q_cut ⟨rfl, rfl, rfl, rfl, rfl, (congrArg (fun b => some (Value.bool b)) (by simp only [isDigit, h9, h27, bS])), trivial⟩ rfl rfl
     ·refine cb rfl (fun h24 p24 => ?_) (fun h24 p24 => ?_)
      ·refine go 2 ?_
       refine o_v rfl (v_aidx he rfl rfl i (by omega) (by omega)) ?_
       refine go 1 ?_
       refine o_st1 he rfl rfl rfl (by rw [clsRow_len, Nat.blt_eq]; omega) ?_
       refine go 4 ?_
       exact q_cut sb (congrArg (fun r => [Res.blk g1 _ r, _]) (clsRow_st i hlt _ (clsOf_4 h9 h24))) rfl
      ·refine go 4 ?_
       refine o_callV (indexByte I _ i.toUInt8) rfl rfl ?_
       refine go 4 ?_
       refine cb rfl (fun h33 p33 => ?_) (fun h33 p33 => ?_)
       ·refine go 2 ?_
        refine o_v rfl (v_aidx he rfl rfl i (by omega) (by omega)) ?_
        refine go 1 ?_
        refine o_st1 he rfl rfl rfl (by rw [clsRow_len, Nat.blt_eq]; omega) ?_
        refine go 4 ?_
        exact q_cut sb (congrArg (fun r => [Res.blk g1 _ r, _]) (clsRow_st i hlt _ (clsOf_1 h9 h24 h33))) rfl
       ·refine go 4 ?_
        refine o_callV (indexByte I _ i.toUInt8) rfl rfl ?_
        refine go 4 ?_
        refine cb rfl (fun h39 p39 => ?_) (fun h39 p39 => ?_)
        ·refine go 2 ?_
         refine o_v rfl (v_aidx he rfl rfl i (by omega) (by omega)) ?_
         refine go 1 ?_
         refine o_st1 he rfl rfl rfl (by rw [clsRow_len, Nat.blt_eq]; omega) ?_
         refine go 4 ?_
         exact q_cut sb (congrArg (fun r => [Res.blk g1 _ r, _]) (clsRow_st i hlt _ (clsOf_6 h9 h24 h33 h39))) rfl
        ·refine go 4 ?_
         exact q_cut sb (congrArg (fun r => [Res.blk g1 _ r, _]) (clsRow_skip i hlt (clsOf_0 h9 h24 h33 h39)).symm) rfl
  ·refine go 5 ?_
   exact q_next (i + 1) (by omega) (by omega) rfl sb rfl
 ·refine go 7 ?_
  refine o_v rfl (v_aidx he rfl rfl 35 rfl (by omega)) ?_
  refine go 1 ?_
  refine o_st1 he rfl rfl rfl (by simp only [List.length_set, clsRow_len]; rfl) ?_
  refine o_v rfl (v_aidx he rfl rfl 95 rfl (by omega)) ?_
  refine go 1 ?_
  refine o_st1 he rfl rfl rfl (by simp only [List.length_set, clsRow_len]; rfl) ?_
  refine o_v rfl (v_aidx he rfl rfl 34 rfl (by omega)) ?_
  refine go 1 ?_
  refine o_st1 he rfl rfl rfl (by simp only [List.length_set, clsRow_len]; rfl) ?_
  refine go 6 ?_
  refine bring1 ?_
  refine o_stw _ he rfl rfl rfl rfl rfl rfl ?_
  refine go 3 ?_
  refine fin1 rfl ⟨_, _, _, rfl, m0, .inr ⟨_, he, rfl, rfl⟩⟩ ?_
  have e : i = 256 := (by omega)
  subst e
  exact q_v rfl

theorem lexName (I : IMap) (s : ByteArray) (hs : s.size ≤ 9223372036854775807) :
    FnV Tryz.prog 61 #[.string s] I (.bool (nameOk s)) := by
 refine enter Tryz.func61 Tryz.call61 rfl Tryz.ntmps61 rfl (fun w0 => ?_)
 refine go 8 ?_
 refine o_callV (classes _) rfl rfl ?_
 refine go 1 ?_
 refine o_alloc he rfl (fun g3 => ?_)
 refine go 1 ?_
 refine o_stw _ he rfl rfl rfl rfl rfl rfl ?_
 refine go 11 ?_
 refine c_loop (α := Nat) 0 (fun i => I)
  (fun i => [(0, .string s), (3, .pointer (some ⟨g3, 0, none⟩)), (8, .int .i64 (s.size : Int)), (9, .int .i64 (i : Int))])
  (fun i => [.blk g3 142 clsTab])
  (fun i => i ≤ s.size ∧ charsTo s i = true)
  (fun i => s.size - i) ⟨Nat.zero_le _, rfl⟩ rfl sb rfl ?_
 intro i ⟨hi, hn⟩
 refine go 6 ?_
 refine cb rfl (fun h10 p10 => ?_) (fun h10 p10 => ?_)
 ·refine go 14 ?_
  refine o_v rfl (v_sidx he rfl rfl i (by omega) (by omega)) ?_
  refine o_v rfl (v_aidx he rfl rfl (s[i]!).toNat rfl (s[i]!).toNat_lt) ?_
  refine o_v rfl (v_ld m0 he rfl (by rw [show 0 + (s[i]!).toNat * 1 = (s[i]!).toNat from by omega]; exact clsTab_at _)) ?_
  refine go 8 ?_
  refine sxb 19 rfl (fun h19 p19 => ?_) (fun h19 p19 => ?_)
  ·refine go 3 ?_
   refine sxb 22 rfl (fun h22 p22 => ?_) (fun h22 p22 => ?_)
   ·refine go 10 ?_
    refine c_true rfl ?_
    refine go 11 ?_
    refine fin1 rfl rfl ?_
    exact q_v (by simp only [nameOk, chars_not (show i < s.size by omega) (show nameChar s i = false by simp only [nameChar, ← (cls_is _).1, ← (cls_is _).2.1, ← (cls_is _).2.2]; simp_all), bS])
   ·refine go 3 ?_
    refine sxb 25 rfl (fun h25 p25 => ?_) (fun h25 p25 => ?_)
    ·refine go 7 ?_
     refine cb rfl (fun h30 p30 => ?_) (fun h30 p30 => ?_)
     ·refine go 11 ?_
      refine fin1 rfl rfl ?_
      exact q_v (by simp only [nameOk, chars_not (show i < s.size by omega) (show nameChar s i = false by simp only [nameChar, ← (cls_is _).1, ← (cls_is _).2.1, ← (cls_is _).2.2]; simp_all), bS])
     ·refine go 8 ?_
      exact q_next (i + 1) ⟨by omega, chars_succ hn (by simp only [nameChar, ← (cls_is _).1, ← (cls_is _).2.1, ← (cls_is _).2.2]; simp_all)⟩ (by omega) rfl sb rfl
    ·refine go 7 ?_
     refine c_false rfl ?_
     refine go 8 ?_
     exact q_next (i + 1) ⟨by omega, chars_succ hn (by simp only [nameChar, ← (cls_is _).1, ← (cls_is _).2.1, ← (cls_is _).2.2]; simp_all)⟩ (by omega) rfl sb rfl
  ·refine go 13 ?_
   refine c_false rfl ?_
   refine go 8 ?_
   exact q_next (i + 1) ⟨by omega, chars_succ hn (by simp only [nameChar, ← (cls_is _).1, ← (cls_is _).2.1, ← (cls_is _).2.2]; simp_all)⟩ (by omega) rfl sb rfl
 ·refine go 10 ?_
  refine sxb 34 rfl (fun h34 p34 => ?_) (fun h34 p34 => ?_)
  ·refine go 8 ?_
   refine fin1 rfl rfl ?_
   have e : i = s.size := (by omega)
   subst e
   exact q_v (by simp only [nameOk, hn, h10, h34, bS])
  ·refine go 8 ?_
   refine fin1 rfl rfl ?_
   have e : i = s.size := (by omega)
   subst e
   exact q_v (by simp only [nameOk, hn, h10, h34, bS])

end Go.Proofs.YtkmdojpfccjnoaaGreat
