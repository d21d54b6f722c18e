/- The library of a symbolic run and the walks: merged. -/
import Derived.Test.YtdkjmaoelojpeaaGreatZDub
/- Walks, printed by a program out of the code of the functions: each theorem is a contract of one function. -/
namespace Go.Proofs.YtdkjmaoelojpeaaGreat
open Go Go.Sx
set_option linter.all false
set_option maxRecDepth 20000
set_option maxHeartbeats 4000000
instance T.by_9 : Has (bytesK Tryz.prog 9) ([.string ⟨#[]⟩], 1, 16) := ⟨by kernel_rfl⟩
instance T.elt_23 : Has (eltK Tryz.prog 23) (95, 3) := ⟨by kernel_rfl⟩
instance T.elt_26 : Has (eltK Tryz.prog 26) (49, 14) := ⟨by kernel_rfl⟩
instance T.elt_79 : Has (eltK Tryz.prog 79) (89, 14) := ⟨by kernel_rfl⟩
instance T.elt_93 : Has (eltK Tryz.prog 93) (97, 3) := ⟨by kernel_rfl⟩
instance T.fld_25_0 : Has (fldK Tryz.prog 25 0) (0, false, 1) := ⟨by kernel_rfl⟩
instance T.fld_95_0 : Has (fldK Tryz.prog 95 0) (0, false, 1) := ⟨by kernel_rfl⟩
instance T.fld_95_1 : Has (fldK Tryz.prog 95 1) (1, false, 1) := ⟨by kernel_rfl⟩
instance T.fld_95_2 : Has (fldK Tryz.prog 95 2) (2, false, 1) := ⟨by kernel_rfl⟩
instance T.fld_97_0 : Has (fldK Tryz.prog 97 0) (0, false, 1) := ⟨by kernel_rfl⟩
instance T.fld_97_1 : Has (fldK Tryz.prog 97 1) (1, false, 1) := ⟨by kernel_rfl⟩
instance T.fld_97_2 : Has (fldK Tryz.prog 97 2) (2, false, 1) := ⟨by kernel_rfl⟩
theorem T.mixed : Tryz.prog.follows .mixedOrders = true := by kernel_rfl
instance T.pl_25 : Has (plK Tryz.prog 25) [(0, 1)] := ⟨by kernel_rfl⟩
instance T.pl_95 : Has (plK Tryz.prog 95) [(0, 1), (1, 1), (2, 1)] := ⟨by kernel_rfl⟩
instance T.pl_97 : Has (plK Tryz.prog 97) [(0, 1), (1, 1), (2, 1)] := ⟨by kernel_rfl⟩
instance T.ty_208 : Has (tyK Tryz.prog 208) (false, 1) := ⟨by kernel_rfl⟩
instance T.ty_227 : Has (tyK Tryz.prog 227) (false, 1) := ⟨by kernel_rfl⟩
instance T.ty_23 : Has (tyK Tryz.prog 23) (false, 1) := ⟨by kernel_rfl⟩
instance T.ty_25 : Has (tyK Tryz.prog 25) (true, 1) := ⟨by kernel_rfl⟩
instance T.ty_3 : Has (tyK Tryz.prog 3) (false, 1) := ⟨by kernel_rfl⟩
instance T.ty_30 : Has (tyK Tryz.prog 30) (false, 1) := ⟨by kernel_rfl⟩
instance T.ty_4 : Has (tyK Tryz.prog 4) (false, 1) := ⟨by kernel_rfl⟩
instance T.ty_49 : Has (tyK Tryz.prog 49) (true, 14) := ⟨by kernel_rfl⟩
instance T.ty_89 : Has (tyK Tryz.prog 89) (true, 14) := ⟨by kernel_rfl⟩
instance T.ty_93 : Has (tyK Tryz.prog 93) (false, 1) := ⟨by kernel_rfl⟩
instance T.ty_95 : Has (tyK Tryz.prog 95) (true, 3) := ⟨by kernel_rfl⟩
instance T.ty_97 : Has (tyK Tryz.prog 97) (true, 3) := ⟨by kernel_rfl⟩
instance T.und_23 : Has (Tryz.prog.underlying 23) (.slice 95) := ⟨by kernel_rfl⟩
instance T.und_26 : Has (Tryz.prog.underlying 26) (.slice 49) := ⟨by kernel_rfl⟩
instance T.und_38 : Has (Tryz.prog.underlying 38) (.map 9 4) := ⟨by kernel_rfl⟩
instance T.und_79 : Has (Tryz.prog.underlying 79) (.slice 89) := ⟨by kernel_rfl⟩
instance T.und_93 : Has (Tryz.prog.underlying 93) (.slice 97) := ⟨by kernel_rfl⟩
instance T.zero_25 : Has (zeroK Tryz.prog 25) [.slice none 0 0] := ⟨by kernel_rfl⟩
instance T.zero_9 : Has (zeroK Tryz.prog 9) [.string ⟨#[]⟩] := ⟨by kernel_rfl⟩
instance T.zero_95 : Has (zeroK Tryz.prog 95) [.string ⟨#[]⟩, .bool false, .slice none 0 0] := ⟨by kernel_rfl⟩
instance T.zero_97 : Has (zeroK Tryz.prog 97) [.string ⟨#[]⟩, .slice none 0 0, .int .i64 0] := ⟨by kernel_rfl⟩
instance T.zv_4 : Has (zvK Tryz.prog 4) (.bool false) := ⟨by kernel_rfl⟩
theorem isNaN_int (I : IMap) (x : Int) :
    FnV Tryz.prog 52 #[.int .i64 x] I (.bool false) := by
 refine enter Tryz.func52 Tryz.call52 rfl Tryz.ntmps52 rfl (fun w0 => ?_)
 refine go 14 ?_
 refine fin1 rfl rfl ?_
 exact q_v (by simp)

theorem isNaN_string (I : IMap) (x : ByteArray) :
    FnV Tryz.prog 118 #[.string x] I (.bool false) := by
 refine enter Tryz.func118 Tryz.call118 rfl Tryz.ntmps118 rfl (fun w0 => ?_)
 refine go 14 ?_
 refine fin1 rfl rfl ?_
 exact q_v (by simp)

theorem compare_int (I : IMap) (x y : Int) :
    FnV Tryz.prog 35 #[.int .i64 x, .int .i64 y] I (.int .i64 (cmpI x y)) := by
 refine enter Tryz.func35 Tryz.call35 rfl Tryz.ntmps35 rfl (fun w0 => ?_)
 refine go 9 ?_
 refine o_callV (isNaN_int I x) rfl rfl ?_
 refine go 7 ?_
 refine o_callV (isNaN_int I y) rfl rfl ?_
 refine go 9 ?_
 refine c_false rfl ?_
 refine go 8 ?_
 refine c_false rfl ?_
 refine go 10 ?_
 refine cb rfl (fun h16 p16 => ?_) (fun h16 p16 => ?_)
 ·refine go 7 ?_
  refine fin1 rfl rfl ?_
  exact q_v (by unfold cmpI; simp only [p16, if_true])
 ·refine go 10 ?_
  refine cb rfl (fun h19 p19 => ?_) (fun h19 p19 => ?_)
  ·refine go 7 ?_
   refine fin1 rfl rfl ?_
   exact q_v (by unfold cmpI; simp only [p16, p19, if_true, if_false])
  ·refine go 8 ?_
   refine fin1 rfl rfl ?_
   exact q_v (by unfold cmpI; simp only [p16, p19, if_false])

theorem compare_string (I : IMap) (x y : ByteArray) :
    FnV Tryz.prog 160 #[.string x, .string y] I (.int .i64 (cmpS x y)) := by
 refine enter Tryz.func160 Tryz.call160 rfl Tryz.ntmps160 rfl (fun w0 => ?_)
 refine go 9 ?_
 refine o_callV (isNaN_string I x) rfl rfl ?_
 refine go 7 ?_
 refine o_callV (isNaN_string I y) rfl rfl ?_
 refine go 9 ?_
 refine c_false rfl ?_
 refine go 8 ?_
 refine c_false rfl ?_
 refine go 10 ?_
 refine cb rfl (fun h16 p16 => ?_) (fun h16 p16 => ?_)
 ·refine go 7 ?_
  refine fin1 rfl rfl ?_
  exact q_v (by unfold cmpS; rw [if_pos h16])
 ·refine go 10 ?_
  refine cb rfl (fun h19 p19 => ?_) (fun h19 p19 => ?_)
  ·refine go 7 ?_
   refine fin1 rfl rfl ?_
   exact q_v (by unfold cmpS; rw [if_neg (by rw [h16]; decide), if_pos h19])
  ·refine go 8 ?_
   refine fin1 rfl rfl ?_
   exact q_v (by unfold cmpS; rw [if_neg (by rw [h16]; decide), if_neg (by rw [h19]; decide)])

theorem indexFunc_Kind (I : IMap) (v : Value) (l : List Kind) (hv : RdS I v l) (f : FuncId) (cs : List Value) (p : Kind → Bool) (hp : ∀ x ∈ l, ∀ vs, Enc.rd I vs x → FnV Tryz.prog f ([Value.agg vs.toArray] ++ cs).toArray I (.bool (p x))) :
    FnV Tryz.prog 184 #[v, .func (.func f) #[] cs.toArray] I (.int .i64 (idxF p l)) := by
 obtain ⟨A, c, rfl, hA, hc, hm⟩ := hv
 refine enter Tryz.func184 Tryz.call184 rfl Tryz.ntmps184 rfl (fun w0 => ?_)
 refine go 14 ?_
 refine c_loop (α := Nat) 0 (fun i => I)
  (fun i => [(0, .slice A l.length c), (1, .func (.func f) #[] cs.toArray), (7, .int .i64 (l.length : Int)), (8, .int .i64 (i : Int))])
  (fun i => [])
  (fun i => i ≤ l.length ∧ ∀ j x, j < i → l[j]? = some x → p x = false)
  (fun i => l.length - i) ⟨Nat.zero_le _, fun j x hj => absurd hj (Nat.not_lt_zero j)⟩ rfl sb rfl ?_
 intro i ⟨hi, hn⟩
 refine go 6 ?_
 refine cb rfl (fun h9 p9 => ?_) (fun h9 p9 => ?_)
 ·have hlt : i < l.length := by omega
  refine go 15 ?_
  obtain ⟨b14, o14, w14, e14, c14, r14⟩ := RdA.at_ hA (i := i) hlt
  refine o_v rfl (v_idx he rfl rfl e14 (i) (by omega) hlt) ?_
  refine o_v rfl (v_ldIa he rfl c14 (Enc.len r14)) ?_
  refine go 1 ?_
  refine o_callV (hp _ (List.getElem_mem hlt) _ r14) rfl rfl ?_
  refine go 2 ?_
  refine cb rfl (fun h16 p16 => ?_) (fun h16 p16 => ?_)
  ·refine go 12 ?_
   refine fin1 rfl rfl ?_
   exact q_v (congrArg (Value.int .i64) (idxF_found hlt p16 hn).symm)
  ·refine go 8 ?_
   exact q_next (i + 1) ⟨by omega, idx_next hn hlt p16⟩ (by omega) rfl sb rfl
 ·refine go 11 ?_
  refine fin1 rfl rfl ?_
  exact q_v (congrArg (Value.int .i64) (idxF_none (fun j x hj => hn j x (by omega))).symm)

theorem indexFunc_Slot (I : IMap) (v : Value) (l : List Slot) (hv : RdS I v l) (f : FuncId) (cs : List Value) (p : Slot → Bool) (hp : ∀ x ∈ l, ∀ vs, Enc.rd I vs x → FnV Tryz.prog f ([Value.agg vs.toArray] ++ cs).toArray I (.bool (p x))) :
    FnV Tryz.prog 194 #[v, .func (.func f) #[] cs.toArray] I (.int .i64 (idxF p l)) := by
 obtain ⟨A, c, rfl, hA, hc, hm⟩ := hv
 refine enter Tryz.func194 Tryz.call194 rfl Tryz.ntmps194 rfl (fun w0 => ?_)
 refine go 14 ?_
 refine c_loop (α := Nat) 0 (fun i => I)
  (fun i => [(0, .slice A l.length c), (1, .func (.func f) #[] cs.toArray), (7, .int .i64 (l.length : Int)), (8, .int .i64 (i : Int))])
  (fun i => [])
  (fun i => i ≤ l.length ∧ ∀ j x, j < i → l[j]? = some x → p x = false)
  (fun i => l.length - i) ⟨Nat.zero_le _, fun j x hj => absurd hj (Nat.not_lt_zero j)⟩ rfl sb rfl ?_
 intro i ⟨hi, hn⟩
 refine go 6 ?_
 refine cb rfl (fun h9 p9 => ?_) (fun h9 p9 => ?_)
 ·have hlt : i < l.length := by omega
  refine go 15 ?_
  obtain ⟨b14, o14, w14, e14, c14, r14⟩ := RdA.at_ hA (i := i) hlt
  refine o_v rfl (v_idx he rfl rfl e14 (i) (by omega) hlt) ?_
  refine o_v rfl (v_ldIa he rfl c14 (Enc.len r14)) ?_
  refine go 1 ?_
  refine o_callV (hp _ (List.getElem_mem hlt) _ r14) rfl rfl ?_
  refine go 2 ?_
  refine cb rfl (fun h16 p16 => ?_) (fun h16 p16 => ?_)
  ·refine go 12 ?_
   refine fin1 rfl rfl ?_
   exact q_v (congrArg (Value.int .i64) (idxF_found hlt p16 hn).symm)
  ·refine go 8 ?_
   exact q_next (i + 1) ⟨by omega, idx_next hn hlt p16⟩ (by omega) rfl sb rfl
 ·refine go 11 ?_
  refine fin1 rfl rfl ?_
  exact q_v (congrArg (Value.int .i64) (idxF_none (fun j x hj => hn j x (by omega))).symm)

theorem indexFunc_Part (I : IMap) (v : Value) (l : List Part) (hv : RdS I v l) (f : FuncId) (cs : List Value) (p : Part → Bool) (hp : ∀ x ∈ l, ∀ vs, Enc.rd I vs x → FnV Tryz.prog f ([Value.agg vs.toArray] ++ cs).toArray I (.bool (p x))) :
    FnV Tryz.prog 165 #[v, .func (.func f) #[] cs.toArray] I (.int .i64 (idxF p l)) := by
 obtain ⟨A, c, rfl, hA, hc, hm⟩ := hv
 refine enter Tryz.func165 Tryz.call165 rfl Tryz.ntmps165 rfl (fun w0 => ?_)
 refine go 14 ?_
 refine c_loop (α := Nat) 0 (fun i => I)
  (fun i => [(0, .slice A l.length c), (1, .func (.func f) #[] cs.toArray), (7, .int .i64 (l.length : Int)), (8, .int .i64 (i : Int))])
  (fun i => [])
  (fun i => i ≤ l.length ∧ ∀ j x, j < i → l[j]? = some x → p x = false)
  (fun i => l.length - i) ⟨Nat.zero_le _, fun j x hj => absurd hj (Nat.not_lt_zero j)⟩ rfl sb rfl ?_
 intro i ⟨hi, hn⟩
 refine go 6 ?_
 refine cb rfl (fun h9 p9 => ?_) (fun h9 p9 => ?_)
 ·have hlt : i < l.length := by omega
  refine go 15 ?_
  obtain ⟨b14, o14, w14, e14, c14, r14⟩ := RdA.at_ hA (i := i) hlt
  refine o_v rfl (v_idx he rfl rfl e14 (i) (by omega) hlt) ?_
  refine o_v rfl (v_ldIa he rfl c14 (Enc.len r14)) ?_
  refine go 1 ?_
  refine o_callV (hp _ (List.getElem_mem hlt) _ r14) rfl rfl ?_
  refine go 2 ?_
  refine cb rfl (fun h16 p16 => ?_) (fun h16 p16 => ?_)
  ·refine go 12 ?_
   refine fin1 rfl rfl ?_
   exact q_v (congrArg (Value.int .i64) (idxF_found hlt p16 hn).symm)
  ·refine go 8 ?_
   exact q_next (i + 1) ⟨by omega, idx_next hn hlt p16⟩ (by omega) rfl sb rfl
 ·refine go 11 ?_
  refine fin1 rfl rfl ?_
  exact q_v (congrArg (Value.int .i64) (idxF_none (fun j x hj => hn j x (by omega))).symm)

theorem containsFunc_Part (I : IMap) (v : Value) (l : List Part) (hv : RdS I v l) (f : FuncId) (cs : List Value) (p : Part → Bool) (hp : ∀ x ∈ l, ∀ vs, Enc.rd I vs x → FnV Tryz.prog f ([Value.agg vs.toArray] ++ cs).toArray I (.bool (p x))) :
    FnV Tryz.prog 136 #[v, .func (.func f) #[] cs.toArray] I (.bool (l.any p)) := by
 refine enter Tryz.func136 Tryz.call136 rfl Tryz.ntmps136 rfl (fun w0 => ?_)
 refine go 10 ?_
 refine o_callV (indexFunc_Part I v l hv f cs p hp) rfl rfl ?_
 refine go 5 ?_
 refine fin1 rfl rfl ?_
 exact q_v (congrArg Value.bool (idxF_any p l))

theorem indexFunc_Evt (I : IMap) (v : Value) (l : List Evt) (hv : RdS I v l) (f : FuncId) (cs : List Value) (p : Evt → Bool) (hp : ∀ x ∈ l, ∀ vs, Enc.rd I vs x → FnV Tryz.prog f ([Value.agg vs.toArray] ++ cs).toArray I (.bool (p x))) :
    FnV Tryz.prog 86 #[v, .func (.func f) #[] cs.toArray] I (.int .i64 (idxF p l)) := by
 obtain ⟨A, c, rfl, hA, hc, hm⟩ := hv
 refine enter Tryz.func86 Tryz.call86 rfl Tryz.ntmps86 rfl (fun w0 => ?_)
 refine go 14 ?_
 refine c_loop (α := Nat) 0 (fun i => I)
  (fun i => [(0, .slice A l.length c), (1, .func (.func f) #[] cs.toArray), (7, .int .i64 (l.length : Int)), (8, .int .i64 (i : Int))])
  (fun i => [])
  (fun i => i ≤ l.length ∧ ∀ j x, j < i → l[j]? = some x → p x = false)
  (fun i => l.length - i) ⟨Nat.zero_le _, fun j x hj => absurd hj (Nat.not_lt_zero j)⟩ rfl sb rfl ?_
 intro i ⟨hi, hn⟩
 refine go 6 ?_
 refine cb rfl (fun h9 p9 => ?_) (fun h9 p9 => ?_)
 ·have hlt : i < l.length := by omega
  refine go 15 ?_
  obtain ⟨b14, o14, w14, e14, c14, r14⟩ := RdA.at_ hA (i := i) hlt
  refine o_v rfl (v_idx he rfl rfl e14 (i) (by omega) hlt) ?_
  refine o_v rfl (v_ldIa he rfl c14 (Enc.len r14)) ?_
  refine go 1 ?_
  refine o_callV (hp _ (List.getElem_mem hlt) _ r14) rfl rfl ?_
  refine go 2 ?_
  refine cb rfl (fun h16 p16 => ?_) (fun h16 p16 => ?_)
  ·refine go 12 ?_
   refine fin1 rfl rfl ?_
   exact q_v (congrArg (Value.int .i64) (idxF_found hlt p16 hn).symm)
  ·refine go 8 ?_
   exact q_next (i + 1) ⟨by omega, idx_next hn hlt p16⟩ (by omega) rfl sb rfl
 ·refine go 11 ?_
  refine fin1 rfl rfl ?_
  exact q_v (congrArg (Value.int .i64) (idxF_none (fun j x hj => hn j x (by omega))).symm)

theorem indexFunc_string (I : IMap) (v : Value) (l : List ByteArray) (hv : RdS I v l) (f : FuncId) (cs : List Value) (p : ByteArray → Bool) (hp : ∀ x ∈ l, ∀ vs, Enc.rd I vs x → FnV Tryz.prog f ([Value.string x] ++ cs).toArray I (.bool (p x))) :
    FnV Tryz.prog 181 #[v, .func (.func f) #[] cs.toArray] I (.int .i64 (idxF p l)) := by
 obtain ⟨A, c, rfl, hA, hc, hm⟩ := hv
 refine enter Tryz.func181 Tryz.call181 rfl Tryz.ntmps181 rfl (fun w0 => ?_)
 refine go 14 ?_
 refine c_loop (α := Nat) 0 (fun i => I)
  (fun i => [(0, .slice A l.length c), (1, .func (.func f) #[] cs.toArray), (7, .int .i64 (l.length : Int)), (8, .int .i64 (i : Int))])
  (fun i => [])
  (fun i => i ≤ l.length ∧ ∀ j x, j < i → l[j]? = some x → p x = false)
  (fun i => l.length - i) ⟨Nat.zero_le _, fun j x hj => absurd hj (Nat.not_lt_zero j)⟩ rfl sb rfl ?_
 intro i ⟨hi, hn⟩
 refine go 6 ?_
 refine cb rfl (fun h9 p9 => ?_) (fun h9 p9 => ?_)
 ·have hlt : i < l.length := by omega
  refine go 15 ?_
  obtain ⟨b14, o14, w14, e14, c14, r14⟩ := RdA.at_ hA (i := i) hlt
  obtain rfl := r14
  refine o_v rfl (v_idx he rfl rfl e14 (i) (by omega) hlt) ?_
  refine o_v rfl (v_ldI he rfl (c14 0 _ rfl)) ?_
  refine go 1 ?_
  refine o_callV (hp _ (List.getElem_mem hlt) _ rfl) rfl rfl ?_
  refine go 2 ?_
  refine cb rfl (fun h16 p16 => ?_) (fun h16 p16 => ?_)
  ·refine go 12 ?_
   refine fin1 rfl rfl ?_
   exact q_v (congrArg (Value.int .i64) (idxF_found hlt p16 hn).symm)
  ·refine go 8 ?_
   exact q_next (i + 1) ⟨by omega, idx_next hn hlt p16⟩ (by omega) rfl sb rfl
 ·refine go 11 ?_
  refine fin1 rfl rfl ?_
  exact q_v (congrArg (Value.int .i64) (idxF_none (fun j x hj => hn j x (by omega))).symm)

theorem containsFunc_string (I : IMap) (v : Value) (l : List ByteArray) (hv : RdS I v l) (f : FuncId) (cs : List Value) (p : ByteArray → Bool) (hp : ∀ x ∈ l, ∀ vs, Enc.rd I vs x → FnV Tryz.prog f ([Value.string x] ++ cs).toArray I (.bool (p x))) :
    FnV Tryz.prog 156 #[v, .func (.func f) #[] cs.toArray] I (.bool (l.any p)) := by
 refine enter Tryz.func156 Tryz.call156 rfl Tryz.ntmps156 rfl (fun w0 => ?_)
 refine go 10 ?_
 refine o_callV (indexFunc_string I v l hv f cs p hp) rfl rfl ?_
 refine go 5 ?_
 refine fin1 rfl rfl ?_
 exact q_v (congrArg Value.bool (idxF_any p l))

theorem index_string (I : IMap) (v : Value) (l : List ByteArray) (hv : RdS I v l) (s : ByteArray) :
    FnV Tryz.prog 188 #[v, .string s] I (.int .i64 (idxF (fun x => decide (s = x)) l)) := by
 obtain ⟨A, c, rfl, hA, hc, hm⟩ := hv
 refine enter Tryz.func188 Tryz.call188 rfl Tryz.ntmps188 rfl (fun w0 => ?_)
 refine go 14 ?_
 refine c_loop (α := Nat) 0 (fun i => I)
  (fun i => [(0, .slice A l.length c), (1, .string s), (7, .int .i64 (l.length : Int)), (8, .int .i64 (i : Int))])
  (fun i => [])
  (fun i => i ≤ l.length ∧ ∀ j x, j < i → l[j]? = some x → (fun x => decide (s = x)) x = false)
  (fun i => l.length - i) ⟨Nat.zero_le _, fun j x hj => absurd hj (Nat.not_lt_zero j)⟩ rfl sb rfl ?_
 intro i ⟨hi, hn⟩
 refine go 6 ?_
 refine cb rfl (fun h9 p9 => ?_) (fun h9 p9 => ?_)
 ·have hlt : i < l.length := by omega
  refine go 15 ?_
  obtain ⟨b14, o14, w14, e14, c14, r14⟩ := RdA.at_ hA (i := i) hlt
  obtain rfl := r14
  refine o_v rfl (v_idx he rfl rfl e14 (i) (by omega) hlt) ?_
  refine o_v rfl (v_ldI he rfl (c14 0 _ rfl)) ?_
  refine go 3 ?_
  refine cb rfl (fun h16 p16 => ?_) (fun h16 p16 => ?_)
  ·refine go 12 ?_
   refine fin1 rfl rfl ?_
   exact q_v (congrArg (Value.int .i64) (idxF_found (p := fun x => decide (s = x)) hlt h16 hn).symm)
  ·refine go 8 ?_
   exact q_next (i + 1) ⟨by omega, idx_next (p := fun x => decide (s = x)) hn hlt h16⟩ (by omega) rfl sb rfl
 ·refine go 11 ?_
  refine fin1 rfl rfl ?_
  exact q_v (congrArg (Value.int .i64) (idxF_none (p := fun x => decide (s = x)) (fun j x hj => hn j x (by omega))).symm)

theorem contains_string (I : IMap) (v : Value) (l : List ByteArray) (hv : RdS I v l) (s : ByteArray) :
    FnV Tryz.prog 167 #[v, .string s] I (.bool (decide (s ∈ l))) := by
 refine enter Tryz.func167 Tryz.call167 rfl Tryz.ntmps167 rfl (fun w0 => ?_)
 refine go 10 ?_
 refine o_callV (index_string I v l hv s) rfl rfl ?_
 refine go 5 ?_
 refine fin1 rfl rfl ?_
 exact q_v (congrArg Value.bool ((idxF_any _ l).trans (any_mem s l)))

theorem kindName (I : IMap) (k : Kind) (vs : List Value) (h : Enc.rd I vs k) :
    FnV Tryz.prog 164 #[.agg vs.toArray] I (.string k.name) := by
 obtain ⟨ss, rfl, hs⟩ := h
 refine enter Tryz.func164 Tryz.call164 rfl Tryz.ntmps164 rfl (fun w0 => ?_)
 refine go 3 ?_
 refine o_box _ rfl rfl rfl (fun g1 => ?_)
 refine go 11 ?_
 refine fin1 rfl rfl ?_
 exact q_v rfl

theorem slotName (I : IMap) (k : Slot) (vs : List Value) (h : Enc.rd I vs k) :
    FnV Tryz.prog 187 #[.agg vs.toArray] I (.string k.name) := by
 obtain ⟨ss, rfl, hs⟩ := h
 refine enter Tryz.func187 Tryz.call187 rfl Tryz.ntmps187 rfl (fun w0 => ?_)
 refine go 3 ?_
 refine o_box _ rfl rfl rfl (fun g1 => ?_)
 refine go 11 ?_
 refine fin1 rfl rfl ?_
 exact q_v rfl

theorem indexC_Kind (I : IMap) (k : Kind) (vs : List Value) (h : Enc.rd I vs k) (fn : FuncId) (nm : Kind → ByteArray) (s : ByteArray) (hn : FnV Tryz.prog fn #[.agg vs.toArray] I (.string (nm k))) (g1 g2 : Nat) (c1 : ICells I g1 0 [.func (.func fn) #[] #[]]) (c2 : ICells I g2 0 [.string s]) :
    FnV Tryz.prog 185 #[.agg vs.toArray, .pointer (some ⟨g1, 0, none⟩), .pointer (some ⟨g2, 0, none⟩)] I (.bool (decide (nm k = s))) := by
 have hl := Enc.len h
 refine enter Tryz.func185 Tryz.call185 rfl Tryz.ntmps185 rfl (fun w0 => ?_)
 refine go 3 ?_
 refine o_box _ rfl rfl rfl (fun g3 => ?_)
 refine go 4 ?_
 refine d_startH T.mixed ?_
 refine d_tv 0 rfl rfl (by kernel_rfl) rfl (.refl _) rfl (v_ldI he rfl (c1 0 _ rfl)) ?_
 refine d_tv 1 rfl rfl (by kernel_rfl) rfl (.refl _) rfl (v_ldw m0 he rfl hl) ?_
 refine d_tv 3 rfl rfl (by kernel_rfl) rfl (.refl _) rfl (v_ldI he rfl (c2 0 _ rfl)) ?_
 refine d_one 2 (by kernel_rfl) rfl ?_
 refine o_callV (hn) rfl rfl ?_
 refine d_on (fun _ m => m.keeps (.refl _)) ?_
 refine d_tv 4 rfl rfl (by kernel_rfl) rfl (.refl _) rfl (v_seql rfl rfl) ?_
 refine d_tv 5 rfl rfl (by kernel_rfl) rfl (.refl _) rfl (v_assign rfl) ?_
 refine d_done (by kernel_rfl) ?_
 refine go 2 ?_
 refine fin1 rfl rfl ?_
 exact q_v rfl

theorem index_Kind (I : IMap) (v : Value) (l : List Kind) (hv : RdS I v l) (fn : FuncId) (nm : Kind → ByteArray) (s : ByteArray) (hn : ∀ J, ILe I J → ∀ x ∈ l, ∀ vs, Enc.rd J vs x → FnV Tryz.prog fn #[.agg vs.toArray] J (.string (nm x))) :
    FnV Tryz.prog 163 #[v, .func (.func fn) #[] #[], .string s] I (.int .i64 (idxF (fun x => decide (nm x = s)) l)) := by
 refine enter Tryz.func163 Tryz.call163 rfl Tryz.ntmps163 rfl (fun w0 => ?_)
 refine go 3 ?_
 refine o_box _ rfl rfl rfl (fun g4 => ?_)
 refine go 1 ?_
 refine o_box _ rfl rfl rfl (fun g5 => ?_)
 refine go 6 ?_
 refine bring1 ?_
 refine sx_pub (fun Ig4 jg4 cg4 => ?_)
 refine sx_pub (fun Ig5 jg5 cg5 => ?_)
 refine o_v rfl (v_makeFunc rfl rfl) ?_
 refine go 1 ?_
 refine o_callV (indexFunc_Kind _ v l (hv.le (jg4.trans jg5)) _ [.pointer (some ⟨g4, 0, none⟩), .pointer (some ⟨g5, 0, none⟩)] (fun x => decide (nm x = s)) (fun x hx vs hr => indexC_Kind _ x vs hr fn nm s (hn _ (jg4.trans jg5) x hx vs hr) g4 g5 (cg4.le jg5) cg5)) rfl rfl ?_
 refine go 4 ?_
 refine fin1 rfl rfl ?_
 exact q_vI rfl

theorem indexC_Slot (I : IMap) (k : Slot) (vs : List Value) (h : Enc.rd I vs k) (fn : FuncId) (nm : Slot → ByteArray) (s : ByteArray) (hn : FnV Tryz.prog fn #[.agg vs.toArray] I (.string (nm k))) (g1 g2 : Nat) (c1 : ICells I g1 0 [.func (.func fn) #[] #[]]) (c2 : ICells I g2 0 [.string s]) :
    FnV Tryz.prog 195 #[.agg vs.toArray, .pointer (some ⟨g1, 0, none⟩), .pointer (some ⟨g2, 0, none⟩)] I (.bool (decide (nm k = s))) := by
 have hl := Enc.len h
 refine enter Tryz.func195 Tryz.call195 rfl Tryz.ntmps195 rfl (fun w0 => ?_)
 refine go 3 ?_
 refine o_box _ rfl rfl rfl (fun g3 => ?_)
 refine go 4 ?_
 refine d_startH T.mixed ?_
 refine d_tv 0 rfl rfl (by kernel_rfl) rfl (.refl _) rfl (v_ldI he rfl (c1 0 _ rfl)) ?_
 refine d_tv 1 rfl rfl (by kernel_rfl) rfl (.refl _) rfl (v_ldw m0 he rfl hl) ?_
 refine d_tv 3 rfl rfl (by kernel_rfl) rfl (.refl _) rfl (v_ldI he rfl (c2 0 _ rfl)) ?_
 refine d_one 2 (by kernel_rfl) rfl ?_
 refine o_callV (hn) rfl rfl ?_
 refine d_on (fun _ m => m.keeps (.refl _)) ?_
 refine d_tv 4 rfl rfl (by kernel_rfl) rfl (.refl _) rfl (v_seql rfl rfl) ?_
 refine d_tv 5 rfl rfl (by kernel_rfl) rfl (.refl _) rfl (v_assign rfl) ?_
 refine d_done (by kernel_rfl) ?_
 refine go 2 ?_
 refine fin1 rfl rfl ?_
 exact q_v rfl

theorem index_Slot (I : IMap) (v : Value) (l : List Slot) (hv : RdS I v l) (fn : FuncId) (nm : Slot → ByteArray) (s : ByteArray) (hn : ∀ J, ILe I J → ∀ x ∈ l, ∀ vs, Enc.rd J vs x → FnV Tryz.prog fn #[.agg vs.toArray] J (.string (nm x))) :
    FnV Tryz.prog 186 #[v, .func (.func fn) #[] #[], .string s] I (.int .i64 (idxF (fun x => decide (nm x = s)) l)) := by
 refine enter Tryz.func186 Tryz.call186 rfl Tryz.ntmps186 rfl (fun w0 => ?_)
 refine go 3 ?_
 refine o_box _ rfl rfl rfl (fun g4 => ?_)
 refine go 1 ?_
 refine o_box _ rfl rfl rfl (fun g5 => ?_)
 refine go 6 ?_
 refine bring1 ?_
 refine sx_pub (fun Ig4 jg4 cg4 => ?_)
 refine sx_pub (fun Ig5 jg5 cg5 => ?_)
 refine o_v rfl (v_makeFunc rfl rfl) ?_
 refine go 1 ?_
 refine o_callV (indexFunc_Slot _ v l (hv.le (jg4.trans jg5)) _ [.pointer (some ⟨g4, 0, none⟩), .pointer (some ⟨g5, 0, none⟩)] (fun x => decide (nm x = s)) (fun x hx vs hr => indexC_Slot _ x vs hr fn nm s (hn _ (jg4.trans jg5) x hx vs hr) g4 g5 (cg4.le jg5) cg5)) rfl rfl ?_
 refine go 4 ?_
 refine fin1 rfl rfl ?_
 exact q_vI rfl

theorem catFind (I : IMap) (v : Value) (l : List Kind) (hv : RdS I v l) (s : ByteArray) :
    FnE Tryz.prog 134 #[.agg #[v], .string s] I (KindIs I (findK l s)) := by
 refine enter Tryz.func134 Tryz.call134 rfl Tryz.ntmps134 rfl (fun w0 => ?_)
 refine go 3 ?_
 refine o_box _ rfl rfl rfl (fun g2 => ?_)
 refine go 1 ?_
 refine o_alloc he rfl (fun g4 => ?_)
 refine go 9 ?_
 refine o_callV (index_Kind I _ l hv _ Kind.name s (fun J hJ x _ vs hr => kindName J x vs hr)) rfl rfl ?_
 refine go 10 ?_
 refine cb rfl (fun h12 p12 => ?_) (fun h12 p12 => ?_)
 ·have hN := ((idxF_find (fun x => decide (Kind.name x = s)) l).resolve_right (by rintro ⟨i, hi, e, _⟩; omega)).2
  refine go 3 ?_
  refine o_val rfl (v_build (pl := [(0, 1), (1, 1), (2, 1)]) he he rfl rfl) ?_
  refine go 1 ?_
  refine o_stw _ he rfl rfl rfl rfl rfl rfl ?_
  refine go 5 ?_
  refine fin2 rfl ⟨_, _, _, rfl, m0, .inr ⟨_, he, rfl, rfl⟩⟩ rfl ?_
  exact q_e (KindIs.none hN)
 ·obtain ⟨i, hi, ei, hF⟩ := (idxF_find (fun x => decide (Kind.name x = s)) l).resolve_left (fun h => by omega)
  refine go 7 ?_
  obtain ⟨A, c0, rfl, hA, hc, hm⟩ := hv
  obtain ⟨b17, o17, w17, e17, c17, r17⟩ := RdA.at_ hA (i := i) hi
  obtain ⟨q17, rfl, B17, d17, rfl, hB17, hd17, hm17⟩ := r17
  refine o_v rfl (v_idx he rfl rfl e17 (i) ei hi) ?_
  refine o_v rfl (v_ldIa he rfl c17 rfl) ?_
  refine go 1 ?_
  refine o_stw _ he rfl rfl rfl rfl rfl rfl ?_
  refine go 4 ?_
  refine fin2 rfl ⟨_, _, _, rfl, m0, .inr ⟨_, he, rfl, rfl⟩⟩ rfl ?_
  exact q_e (KindIs.of hF ⟨_, rfl, B17, d17, rfl, hB17, hd17, hm17⟩)

theorem catSlot (I : IMap) (v : Value) (l : List Kind) (hv : RdS I v l) (k s : ByteArray) :
    FnE Tryz.prog 166 #[.agg #[v], .string k, .string s] I (SlotIs I (slotF l k s)) := by
 refine enter Tryz.func166 Tryz.call166 rfl Tryz.ntmps166 rfl (fun w0 => ?_)
 refine go 3 ?_
 refine o_box _ rfl rfl rfl (fun g3 => ?_)
 refine go 1 ?_
 refine o_alloc he rfl (fun g6 => ?_)
 refine go 8 ?_
 refine o_callE (catFind I _ l hv k) rfl rfl (fun v14 q14 => ?_)
 obtain ⟨vs, rfl, ss, rfl, hsl⟩ := q14
 refine go 4 ?_
 refine o_alloc he rfl (fun g8 => ?_)
 refine go 1 ?_
 refine o_stw _ he rfl rfl rfl rfl rfl (by simp [Kind.cells, hsl.one]; exact ⟨rfl, rfl⟩) ?_
 refine go 9 ?_
 refine o_callV (index_Slot I _ _ hsl _ Slot.name s (fun J hJ x _ vs hr => slotName J x vs hr)) rfl rfl ?_
 refine go 10 ?_
 refine cb rfl (fun h22 p22 => ?_) (fun h22 p22 => ?_)
 ·have hN := ((idxF_find (fun x => decide (Slot.name x = s)) ((findK l k).getD zKind).slots).resolve_right (by rintro ⟨i, hi, e, _⟩; omega)).2
  refine go 3 ?_
  refine o_val rfl (v_build (pl := [(0, 1), (1, 1), (2, 1)]) he he rfl rfl) ?_
  refine go 1 ?_
  refine bring1 ?_
  refine o_stw _ he rfl rfl rfl rfl rfl rfl ?_
  refine go 5 ?_
  refine fin2 rfl ⟨_, _, _, rfl, m0, .inr ⟨_, he, rfl, rfl⟩⟩ rfl ?_
  exact q_e (SlotIs.none hN)
 ·obtain ⟨i, hi, ei, hF⟩ := (idxF_find (fun x => decide (Slot.name x = s)) ((findK l k).getD zKind).slots).resolve_left (fun h => by omega)
  obtain ⟨A, c0, rfl, hA, hc, hm⟩ := hsl
  refine go 7 ?_
  obtain ⟨b27, o27, w27, e27, c27, r27⟩ := RdA.at_ hA (i := i) hi
  obtain ⟨q27, rfl, B27, d27, rfl, hB27, hd27, hm27⟩ := r27
  refine o_v rfl (v_idx he rfl rfl e27 (i) ei hi) ?_
  refine o_v rfl (v_ldIa he rfl c27 rfl) ?_
  refine go 1 ?_
  refine bring1 ?_
  refine o_stw _ he rfl rfl rfl rfl rfl rfl ?_
  refine go 4 ?_
  refine fin2 rfl ⟨_, _, _, rfl, m0, .inr ⟨_, he, rfl, rfl⟩⟩ rfl ?_
  exact q_e (SlotIs.of hF ⟨_, rfl, B27, d27, rfl, hB27, hd27, hm27⟩)

theorem catTakes (I : IMap) (v : Value) (l : List Kind) (hv : RdS I v l) (k s p : ByteArray) :
    FnV Tryz.prog 137 #[.agg #[v], .string k, .string s, .string p] I (.bool (takesF l k s p)) := by
 refine enter Tryz.func137 Tryz.call137 rfl Tryz.ntmps137 rfl (fun w0 => ?_)
 refine go 3 ?_
 refine o_box _ rfl rfl rfl (fun g4 => ?_)
 refine go 9 ?_
 refine o_callE (catSlot I _ l hv k s) rfl rfl (fun v15 q15 => ?_)
 obtain ⟨vs, rfl, ss, rfl, hsl⟩ := q15
 refine go 4 ?_
 refine o_alloc he rfl (fun g9 => ?_)
 refine go 1 ?_
 refine o_stw _ he rfl rfl rfl rfl rfl (by simp [Slot.cells, hsl.one]; exact ⟨rfl, rfl⟩) ?_
 refine go 7 ?_
 refine sxb 19 rfl (fun h19 p19 => ?_) (fun h19 p19 => ?_)
 ·refine go 4 ?_
  refine o_yes rfl rfl h19 (o_callV (contains_string I _ _ hsl p) rfl rfl ?_)
  refine go 5 ?_
  refine fin1 rfl rfl ?_
  exact q_v (congrArg Value.bool (by revert h19; unfold takesF; cases slotF l k s <;> simp))
 ·refine go 9 ?_
  refine fin1 rfl rfl ?_
  exact q_v (congrArg Value.bool (by revert h19; unfold takesF; cases slotF l k s <;> simp))

theorem catValid (I : IMap) (v : Value) (l : List Kind) (hv : RdS I v l) (hs : SmC l) :
    FnV Tryz.prog 83 #[.agg #[v]] I (.bool (validC l)) := by
 obtain ⟨A, c0, rfl, hA, hc, hm⟩ := hv
 refine enter Tryz.func83 Tryz.call83 rfl Tryz.ntmps83 rfl (fun w0 => ?_)
 refine go 3 ?_
 refine o_box _ rfl rfl rfl (fun g1 => ?_)
 refine go 6 ?_
 refine o_map0 (Value.string) he rfl (fun r14 => ?_)
 refine go 13 ?_
 refine c_loop (α := Nat) 0 (fun i => I)
  (fun i => [(1, .pointer (some ⟨g1, 0, none⟩)), (3, .map (some r14)), (16, .slice A l.length c0), (17, .int .i64 (l.length : Int)), (18, .int .i64 (i : Int))])
  (fun i => [.mp r14 (emap Value.string (kvsOf Kind.name (fun k => Value.bool (!k.vehicle)) (l.take i))), .blk g1 25 [.slice A l.length c0]])
  (fun i => i ≤ l.length ∧ allP kindFine l i = true)
  (fun i => l.length - i) ⟨Nat.zero_le _, rfl⟩ rfl sb rfl ?_
 intro i ⟨hi, hn⟩
 refine go 6 ?_
 refine cb rfl (fun h19 p19 => ?_) (fun h19 p19 => ?_)
 ·have hlt : i < l.length := by omega
  refine go 6 ?_
  obtain ⟨b20, o20, w20, e20, c20, r20⟩ := RdA.at_ hA (i := i) hlt
  obtain ⟨q20, rfl, B20, d20, rfl, hB20, hd20, hm20⟩ := r20
  refine o_v rfl (v_idx he rfl rfl e20 (i) (by omega) hlt) ?_
  refine o_v rfl (v_ldIa he rfl c20 rfl) ?_
  refine go 1 ?_
  refine o_alloc he rfl (fun g5 => ?_)
  refine go 1 ?_
  refine o_stw _ he rfl rfl rfl rfl rfl rfl ?_
  refine go 8 ?_
  refine o_v rfl (v_get2 m1 (key_string he) he he (l[i].name) rfl rfl rfl (kvs_some _ _ _ _)) ?_
  refine go 8 ?_
  refine c_cut (I' := I) (L' := [(1, .pointer (some ⟨g1, 0, none⟩)), (3, .map (some r14)), (16, .slice A l.length c0), (17, .int .i64 (l.length : Int)), (18, .int .i64 (i : Int)), (5, .pointer (some ⟨g5, 0, none⟩)), (41, .bool ((hit Kind.name (l.take i) l[i].name || !nameOk l[i].name) || decide ((12 : Int) < (l[i].slots.length : Nat))))]) (H' := [.blk g5 95 (l[i].cells (.slice B20 l[i].slots.length d20)), .mp r14 (emap Value.string (kvsOf Kind.name (fun k => Value.bool (!k.vehicle)) (l.take i))), .blk g1 25 [.slice A l.length c0]]) ?_ ?_
  ·refine go 3 ?_
   refine sxb 30 rfl (fun h30 p30 => ?_) (fun h30 p30 => ?_)
   ·refine go 13 ?_
    exact q_cut ⟨rfl, rfl, rfl, rfl, rfl, rfl, (congrArg (fun b => some (Value.bool b)) (by simp only [h19, h30, bS])), trivial⟩ rfl rfl
   ·refine go 3 ?_
    refine o_yes rfl rfl h30 (o_callV (lexName _ _ (hs _ (List.getElem_mem hlt)).1) rfl rfl ?_)
    refine go 3 ?_
    refine sxb 36 rfl (fun h36 p36 => ?_) (fun h36 p36 => ?_)
    ·refine go 7 ?_
     exact q_cut ⟨rfl, rfl, rfl, rfl, rfl, rfl, (congrArg (fun b => some (Value.bool b)) (by simp only [h19, h30, h36, bS])), trivial⟩ rfl rfl
    ·refine go 7 ?_
     exact q_cut ⟨rfl, rfl, rfl, rfl, rfl, rfl, (congrArg (fun b => some (Value.bool b)) (by simp only [h19, h30, h36, bS])), trivial⟩ rfl rfl
  ·refine cb rfl (fun h41 p41 => ?_) (fun h41 p41 => ?_)
   ·refine go 12 ?_
    refine fin1 rfl rfl ?_
    exact q_v (congrArg Value.bool (by simp only [validC, allP_not hlt (show kindFine (l.take i) l[i] = false by simp only [kindFine, h41]; rfl), bS]))
   ·refine go 5 ?_
    refine o_map0 (Value.string) he rfl (fun r42 => ?_)
    refine go 13 ?_
    refine c_loop (α := Nat) 0 (fun j => I)
     (fun j => [(1, .pointer (some ⟨g1, 0, none⟩)), (3, .map (some r14)), (16, .slice A l.length c0), (17, .int .i64 (l.length : Int)), (18, .int .i64 (i : Int)), (5, .pointer (some ⟨g5, 0, none⟩)), (8, .map (some r42)), (44, .slice B20 l[i].slots.length d20), (45, .int .i64 (l[i].slots.length : Int)), (46, .int .i64 (j : Int))])
     (fun j => [.mp r42 (emap Value.string (kvsOf Slot.name (fun _ => Value.bool true) (l[i].slots.take j))), .blk g5 95 (l[i].cells (.slice B20 l[i].slots.length d20)), .mp r14 (emap Value.string (kvsOf Kind.name (fun k => Value.bool (!k.vehicle)) (l.take i))), .blk g1 25 [.slice A l.length c0]])
     (fun j => j ≤ l[i].slots.length ∧ allP (slotFine (l.take i)) l[i].slots j = true)
     (fun j => l[i].slots.length - j) ⟨Nat.zero_le _, rfl⟩ rfl sb rfl ?_
    intro j ⟨hj, hq⟩
    refine go 6 ?_
    refine cb rfl (fun h47 p47 => ?_) (fun h47 p47 => ?_)
    ·have hltj : j < l[i].slots.length := by omega
     refine go 6 ?_
     obtain ⟨b48, o48, w48, e48, c48, r48⟩ := RdA.at_ hB20 (i := j) hltj
     obtain ⟨q48, rfl, B48, d48, rfl, hB48, hd48, hm48⟩ := r48
     refine o_v rfl (v_idx he rfl rfl e48 (j) (by omega) hltj) ?_
     refine o_v rfl (v_ldIa he rfl c48 rfl) ?_
     refine go 1 ?_
     refine o_alloc he rfl (fun g10 => ?_)
     refine go 1 ?_
     refine o_stw _ he rfl rfl rfl rfl rfl rfl ?_
     refine go 4 ?_
     refine c_cut (I' := I) (L' := [(1, .pointer (some ⟨g1, 0, none⟩)), (3, .map (some r14)), (16, .slice A l.length c0), (17, .int .i64 (l.length : Int)), (18, .int .i64 (i : Int)), (5, .pointer (some ⟨g5, 0, none⟩)), (8, .map (some r42)), (44, .slice B20 l[i].slots.length d20), (45, .int .i64 (l[i].slots.length : Int)), (46, .int .i64 (j : Int)), (10, .pointer (some ⟨g10, 0, none⟩)), (72, .bool (((hit Slot.name (l[i].slots.take j) l[i].slots[j].name || !nameOk l[i].slots[j].name) || decide (l[i].slots[j].normal < 1)) || decide ((l[i].slots[j].kinds.length : Int) < l[i].slots[j].normal)))]) (H' := [.blk g10 97 (l[i].slots[j].cells (.slice B48 l[i].slots[j].kinds.length d48)), .mp r42 (emap Value.string (kvsOf Slot.name (fun _ => Value.bool true) (l[i].slots.take j))), .blk g5 95 (l[i].cells (.slice B20 l[i].slots.length d20)), .mp r14 (emap Value.string (kvsOf Kind.name (fun k => Value.bool (!k.vehicle)) (l.take i))), .blk g1 25 [.slice A l.length c0]]) ?_ ?_
     ·refine go 4 ?_
      refine o_v rfl (v_get m1 (key_string he) he he (l[i].slots[j].name) rfl rfl (kvs_hit1 _ _ _)) ?_
      refine go 1 ?_
      refine sxb 54 rfl (fun h54 p54 => ?_) (fun h54 p54 => ?_)
      ·refine go 20 ?_
       exact q_cut ⟨rfl, rfl, rfl, rfl, rfl, rfl, rfl, rfl, rfl, rfl, rfl, (congrArg (fun b => some (Value.bool b)) (by simp only [h47, h54, bS])), trivial⟩ rfl rfl
      ·refine go 3 ?_
       refine o_yes rfl rfl h54 (o_callV (lexName _ _ ((hs _ (List.getElem_mem hlt)).2 _ (List.getElem_mem hltj)).1) rfl rfl ?_)
       refine go 3 ?_
       refine sxb 60 rfl (fun h60 p60 => ?_) (fun h60 p60 => ?_)
       ·refine go 14 ?_
        exact q_cut ⟨rfl, rfl, rfl, rfl, rfl, rfl, rfl, rfl, rfl, rfl, rfl, (congrArg (fun b => some (Value.bool b)) (by simp only [h47, h54, h60, bS])), trivial⟩ rfl rfl
       ·refine go 5 ?_
        refine sxb 65 rfl (fun h65 p65 => ?_) (fun h65 p65 => ?_)
        ·refine go 9 ?_
         exact q_cut ⟨rfl, rfl, rfl, rfl, rfl, rfl, rfl, rfl, rfl, rfl, rfl, (congrArg (fun b => some (Value.bool b)) (by simp only [h47, h54, h60, h65, bS])), trivial⟩ rfl rfl
        ·refine go 9 ?_
         exact q_cut ⟨rfl, rfl, rfl, rfl, rfl, rfl, rfl, rfl, rfl, rfl, rfl, (congrArg (fun b => some (Value.bool b)) (by simp only [h47, h54, h60, h65, bS])), trivial⟩ rfl rfl
     ·refine cb rfl (fun h72 p72 => ?_) (fun h72 p72 => ?_)
      ·refine go 17 ?_
       refine fin1 rfl rfl ?_
       exact q_v (congrArg Value.bool (by simp only [validC, allP_not hlt (show kindFine (l.take i) l[i] = false by simp only [kindFine, allP_not hltj (show slotFine (l.take i) (l[i].slots.take j) l[i].slots[j] = false by simp only [slotFine, h72]; rfl), bS]), bS]))
      ·refine go 8 ?_
       have h72n : hit Slot.name (l[i].slots.take j) l[i].slots[j].name = false := by revert h72; cases hit Slot.name (l[i].slots.take j) l[i].slots[j].name <;> simp
       refine bring1 ?_
       refine o_mapPut (kvsOf Slot.name (fun _ => Value.bool true) (l[i].slots.take (j + 1))) (key_string he) he (l[i].slots[j].name) rfl rfl rfl ((kvs_put Slot.name (fun _ => Value.bool true) (l[i].slots.take j) l[i].slots[j] (hit_none h72n)).trans (by rw [take_succ_of hltj])) ?_
       refine go 5 ?_
       refine o_map0 (Value.string) he rfl (fun r76 => ?_)
       refine go 12 ?_
       refine bring2 ?_
       refine sx_drop ?_
       refine c_loop (α := Nat) 0 (fun m => I)
        (fun m => [(1, .pointer (some ⟨g1, 0, none⟩)), (3, .map (some r14)), (16, .slice A l.length c0), (17, .int .i64 (l.length : Int)), (18, .int .i64 (i : Int)), (5, .pointer (some ⟨g5, 0, none⟩)), (8, .map (some r42)), (44, .slice B20 l[i].slots.length d20), (45, .int .i64 (l[i].slots.length : Int)), (46, .int .i64 (j : Int)), (10, .pointer (some ⟨g10, 0, none⟩)), (11, .map (some r76)), (78, .slice B48 l[i].slots[j].kinds.length d48), (79, .int .i64 (l[i].slots[j].kinds.length : Int)), (80, .int .i64 (m : Int))])
        (fun m => [.mp r76 (emap Value.string (kvsOf _root_.id (fun _ => Value.bool true) (l[i].slots[j].kinds.take m))), .mp r42 (emap Value.string (kvsOf Slot.name (fun _ => Value.bool true) (l[i].slots.take (j + 1)))), .blk g5 95 (l[i].cells (.slice B20 l[i].slots.length d20)), .mp r14 (emap Value.string (kvsOf Kind.name (fun k => Value.bool (!k.vehicle)) (l.take i))), .blk g1 25 [.slice A l.length c0]])
        (fun m => m ≤ l[i].slots[j].kinds.length ∧ allP (kindIn (l.take i)) l[i].slots[j].kinds m = true)
        (fun m => l[i].slots[j].kinds.length - m) ⟨Nat.zero_le _, rfl⟩ rfl sb rfl ?_
       intro m ⟨hmm, hr⟩
       refine go 6 ?_
       refine cb rfl (fun h81 p81 => ?_) (fun h81 p81 => ?_)
       ·have hltm : m < l[i].slots[j].kinds.length := by omega
        refine go 6 ?_
        obtain ⟨b82, o82, w82, e82, c82, r82⟩ := RdA.at_ hB48 (i := m) hltm
        obtain rfl := r82
        refine o_v rfl (v_idx he rfl rfl e82 (m) (by omega) hltm) ?_
        refine o_v rfl (v_ldI he rfl (c82 0 _ rfl)) ?_
        refine go 5 ?_
        refine c_cut (I' := I) (L' := [(1, .pointer (some ⟨g1, 0, none⟩)), (3, .map (some r14)), (16, .slice A l.length c0), (17, .int .i64 (l.length : Int)), (18, .int .i64 (i : Int)), (5, .pointer (some ⟨g5, 0, none⟩)), (8, .map (some r42)), (44, .slice B20 l[i].slots.length d20), (45, .int .i64 (l[i].slots.length : Int)), (46, .int .i64 (j : Int)), (10, .pointer (some ⟨g10, 0, none⟩)), (11, .map (some r76)), (78, .slice B48 l[i].slots[j].kinds.length d48), (79, .int .i64 (l[i].slots[j].kinds.length : Int)), (80, .int .i64 (m : Int)), (13, .string l[i].slots[j].kinds[m]), (92, .bool (hit _root_.id (l[i].slots[j].kinds.take m) l[i].slots[j].kinds[m] || !hitV Kind.name (fun k => !k.vehicle) (l.take i) l[i].slots[j].kinds[m]))]) (H' := [.mp r76 (emap Value.string (kvsOf _root_.id (fun _ => Value.bool true) (l[i].slots[j].kinds.take m))), .mp r42 (emap Value.string (kvsOf Slot.name (fun _ => Value.bool true) (l[i].slots.take (j + 1)))), .blk g5 95 (l[i].cells (.slice B20 l[i].slots.length d20)), .mp r14 (emap Value.string (kvsOf Kind.name (fun k => Value.bool (!k.vehicle)) (l.take i))), .blk g1 25 [.slice A l.length c0]]) ?_ ?_
        ·refine go 3 ?_
         refine o_v rfl (v_get m0 (key_string he) he he (l[i].slots[j].kinds[m]) rfl rfl (kvs_hit1 _root_.id _ _)) ?_
         refine go 1 ?_
         refine sxb 87 rfl (fun h87 p87 => ?_) (fun h87 p87 => ?_)
         ·refine go 7 ?_
          exact q_cut ⟨rfl, rfl, rfl, rfl, rfl, rfl, rfl, rfl, rfl, rfl, rfl, rfl, rfl, rfl, rfl, rfl, (congrArg (fun b => some (Value.bool b)) (by simp only [h81, h87, bS])), trivial⟩ rfl rfl
         ·refine go 2 ?_
          refine o_cons (o_yes rfl rfl h87 (o_val rfl (v_get m3 (key_string he) he he (l[i].slots[j].kinds[m]) rfl rfl (kvs_hit Kind.name (fun k => !k.vehicle) _ _)) ?_))
          refine go 4 ?_
          exact q_cut ⟨rfl, rfl, rfl, rfl, rfl, rfl, rfl, rfl, rfl, rfl, rfl, rfl, rfl, rfl, rfl, rfl, (congrArg (fun b => some (Value.bool b)) (by simp only [h81, h87, bS])), trivial⟩ rfl rfl
        ·refine cb rfl (fun h92 p92 => ?_) (fun h92 p92 => ?_)
         ·refine go 21 ?_
          refine fin1 rfl rfl ?_
          exact q_v (congrArg Value.bool (by simp only [validC, allP_not hlt (show kindFine (l.take i) l[i] = false by simp only [kindFine, allP_not hltj (show slotFine (l.take i) (l[i].slots.take j) l[i].slots[j] = false by simp only [slotFine, allP_not hltm (show kindIn (l.take i) (l[i].slots[j].kinds.take m) l[i].slots[j].kinds[m] = false by revert h92; simp only [kindIn]; cases hit _root_.id (l[i].slots[j].kinds.take m) l[i].slots[j].kinds[m] <;> simp), bS]), bS]), bS]))
         ·refine go 6 ?_
          have h92n : hit _root_.id (l[i].slots[j].kinds.take m) l[i].slots[j].kinds[m] = false := by revert h92; cases hit _root_.id (l[i].slots[j].kinds.take m) l[i].slots[j].kinds[m] <;> simp
          refine o_mapPut (kvsOf _root_.id (fun _ => Value.bool true) (l[i].slots[j].kinds.take (m + 1))) (key_string he) he (l[i].slots[j].kinds[m]) rfl rfl rfl ((kvs_put _root_.id (fun _ => Value.bool true) (l[i].slots[j].kinds.take m) l[i].slots[j].kinds[m] (hit_none h92n)).trans (by rw [take_succ_of hltm])) ?_
          refine go 8 ?_
          exact q_next (m + 1) ⟨by omega, allP_succ hr hltm (by revert h92; simp only [kindIn]; cases hit _root_.id (l[i].slots[j].kinds.take m) l[i].slots[j].kinds[m] <;> simp)⟩ (by omega) rfl sb rfl
       ·refine go 11 ?_
        refine sx_drop ?_
        exact q_next (j + 1) ⟨by omega, allP_succ hq hltj (by simp only [slotFine, h72, (show m = l[i].slots[j].kinds.length by omega) ▸ hr]; rfl)⟩ (by omega) rfl sb rfl
    ·refine go 13 ?_
     have h41n : hit Kind.name (l.take i) l[i].name = false := by revert h41; cases hit Kind.name (l.take i) l[i].name <;> simp
     refine bring2 ?_
     refine o_mapPut (kvsOf Kind.name (fun k => Value.bool (!k.vehicle)) (l.take (i + 1))) (key_string he) he (l[i].name) rfl rfl rfl ((kvs_put Kind.name (fun k => Value.bool (!k.vehicle)) (l.take i) l[i] (hit_none h41n)).trans (by rw [take_succ_of hlt])) ?_
     refine go 8 ?_
     refine bring1 ?_
     refine sx_drop ?_
     refine bring1 ?_
     refine sx_drop ?_
     exact q_next (i + 1) ⟨by omega, allP_succ hn hlt (by simp only [kindFine, h41, (show j = l[i].slots.length by omega) ▸ hq]; rfl)⟩ (by omega) rfl sb rfl
 ·refine go 15 ?_
  refine fin1 rfl rfl ?_
  have e : i = l.length := (by omega)
  subst e
  exact q_v (congrArg Value.bool (by simp only [validC, hn, bS]))

theorem refFind (I : IMap) (v : Value) (l : List Kind) (hv : RdS I v l) (s : ByteArray) :
    FnE Tryz.prog 119 #[.agg #[v], .string s] I (KindIs I (findK l s)) := by
 obtain ⟨A, c0, rfl, hA, hc, hm⟩ := hv
 refine enter Tryz.func119 Tryz.call119 rfl Tryz.ntmps119 rfl (fun w0 => ?_)
 refine go 3 ?_
 refine o_box _ rfl rfl rfl (fun g2 => ?_)
 refine go 1 ?_
 refine o_alloc he rfl (fun g4 => ?_)
 refine go 10 ?_
 refine bring1 ?_
 refine c_loop (α := Nat) 0 (fun i => I)
  (fun i => [(1, .string s), (2, .pointer (some ⟨g2, 0, none⟩)), (4, .pointer (some ⟨g4, 0, none⟩)), (6, .int .i64 (i : Int))])
  (fun i => [.blk g2 25 [.slice A l.length c0], .blk g4 95 [.string ⟨#[]⟩, .bool false, .slice none 0 0]])
  (fun i => i ≤ l.length ∧ ∀ j x, j < i → l[j]? = some x → (fun k => decide (Kind.name k = s)) x = false)
  (fun i => l.length - i) ⟨Nat.zero_le _, fun j x hj => absurd hj (Nat.not_lt_zero j)⟩ rfl sb rfl ?_
 intro i ⟨hi, hn⟩
 refine go 10 ?_
 refine cb rfl (fun h11 p11 => ?_) (fun h11 p11 => ?_)
 ·have hlt : i < l.length := by omega
  refine go 9 ?_
  obtain ⟨b17, o17, w17, e17, c17, r17⟩ := RdA.at_ hA (i := i) hlt
  obtain ⟨q17, rfl, B17, d17, rfl, hB17, hd17, hm17⟩ := r17
  refine o_v rfl (v_idx he rfl rfl e17 (i) (by omega) hlt) ?_
  refine go 1 ?_
  refine o_v rfl (v_ldI he rfl (c17 0 _ rfl)) ?_
  refine go 4 ?_
  refine cb rfl (fun h21 p21 => ?_) (fun h21 p21 => ?_)
  ·refine go 5 ?_
   obtain ⟨b25, o25, w25, e25, c25, r25⟩ := RdA.at_ hA (i := i) hlt
   obtain ⟨q25, rfl, B25, d25, rfl, hB25, hd25, hm25⟩ := r25
   refine o_v rfl (v_idx he rfl rfl e25 (i) (by omega) hlt) ?_
   refine o_v rfl (v_ldIa he rfl c25 rfl) ?_
   refine go 1 ?_
   refine bring1 ?_
   refine o_stw _ he rfl rfl rfl rfl rfl rfl ?_
   refine go 9 ?_
   refine fin2 rfl ⟨_, _, _, rfl, m0, .inr ⟨_, he, rfl, rfl⟩⟩ rfl ?_
   exact q_e (KindIs.of (find_at (p := fun k => decide (Kind.name k = s)) hlt h21 hn) ⟨_, rfl, B25, d25, rfl, hB25, hd25, hm25⟩)
  ·refine go 9 ?_
   exact q_next (i + 1) ⟨by omega, idx_next (p := fun k => decide (Kind.name k = s)) hn hlt h21⟩ (by omega) rfl sb rfl
 ·refine go 8 ?_
  refine o_val rfl (v_build (pl := [(0, 1), (1, 1), (2, 1)]) he he rfl rfl) ?_
  refine go 1 ?_
  refine bring1 ?_
  refine o_stw _ he rfl rfl rfl rfl rfl rfl ?_
  refine go 4 ?_
  refine fin2 rfl ⟨_, _, _, rfl, m0, .inr ⟨_, he, rfl, rfl⟩⟩ rfl ?_
  exact q_e (KindIs.none (find_no (p := fun k => decide (Kind.name k = s)) (fun j x hj => hn j x (by omega))))

theorem refSlot (I : IMap) (v : Value) (l : List Kind) (hv : RdS I v l) (x : Slot) (D : Option Addr) (d : Nat) (hD : RdS I (.slice D x.kinds.length d) x.kinds) (hs : SmS x) :
    FnV Tryz.prog 120 #[.agg #[v], .agg #[.string x.name, .slice D x.kinds.length d, .int .i64 x.normal]] I (.bool (slotR l x)) := by
 have hDA : RdA I D x.kinds := (by obtain ⟨_, _, e, h, _⟩ := hD; cases e; exact h)
 have hDl : x.kinds.length ≤ d ∧ d ≤ 9223372036854775807 := (by obtain ⟨_, _, e, h, h1, h2⟩ := hD; cases e; exact ⟨h1, h2⟩)
 have hv0 := hv
 obtain ⟨A, c0, rfl, hA, hc, hm⟩ := hv
 refine enter Tryz.func120 Tryz.call120 rfl Tryz.ntmps120 rfl (fun w0 => ?_)
 refine go 3 ?_
 refine o_box _ rfl rfl rfl (fun g2 => ?_)
 refine go 1 ?_
 refine o_box _ rfl rfl rfl (fun g3 => ?_)
 refine go 5 ?_
 refine c_cut (I' := I) (L' := [(2, .pointer (some ⟨g2, 0, none⟩)), (3, .pointer (some ⟨g3, 0, none⟩)), (24, .bool (((!nameRef x.name || decide (x.normal < 1)) || decide ((x.kinds.length : Int) < x.normal))))]) (H' := [.blk g2 25 [.slice A l.length c0], .blk g3 97 (x.cells (.slice D x.kinds.length d))]) ?_ ?_
 ·refine go 4 ?_
  refine o_callV (name05 _ _ hs.1) rfl rfl ?_
  refine go 2 ?_
  refine sxb 12 rfl (fun h12 p12 => ?_) (fun h12 p12 => ?_)
  ·refine go 14 ?_
   refine bring1 ?_
   exact q_cut ⟨rfl, rfl, (congrArg (fun b => some (Value.bool b)) (by simp only [h12, bS])), trivial⟩ rfl rfl
  ·refine go 5 ?_
   refine sxb 17 rfl (fun h17 p17 => ?_) (fun h17 p17 => ?_)
   ·refine go 9 ?_
    refine bring1 ?_
    exact q_cut ⟨rfl, rfl, (congrArg (fun b => some (Value.bool b)) (by simp only [h12, h17, bS])), trivial⟩ rfl rfl
   ·refine go 9 ?_
    refine bring1 ?_
    exact q_cut ⟨rfl, rfl, (congrArg (fun b => some (Value.bool b)) (by simp only [h12, h17, bS])), trivial⟩ rfl rfl
 ·refine cb rfl (fun h24 p24 => ?_) (fun h24 p24 => ?_)
  ·refine go 7 ?_
   refine fin1 rfl rfl ?_
   exact q_v (congrArg Value.bool (by simp only [slotR, h24]; rfl))
  ·refine go 9 ?_
   refine c_loop (α := Nat) 0 (fun j => I)
    (fun j => [(2, .pointer (some ⟨g2, 0, none⟩)), (3, .pointer (some ⟨g3, 0, none⟩)), (5, .int .i64 (j : Int))])
    (fun j => [.blk g2 25 [.slice A l.length c0], .blk g3 97 (x.cells (.slice D x.kinds.length d))])
    (fun j => j ≤ x.kinds.length ∧ allP (kindInR l) x.kinds j = true)
    (fun j => x.kinds.length - j) ⟨Nat.zero_le _, rfl⟩ rfl sb rfl ?_
   intro j ⟨hj, hq⟩
   refine go 10 ?_
   refine cb rfl (fun h29 p29 => ?_) (fun h29 p29 => ?_)
   ·have hlt : j < x.kinds.length := by omega
    refine go 5 ?_
    refine c_cutx (α := Nat × Value) (Ix := (fun q => I)) (Lx := (fun q => [(2, .pointer (some ⟨g2, 0, none⟩)), (3, .pointer (some ⟨g3, 0, none⟩)), (5, .int .i64 (j : Int)), (6, .pointer (some ⟨q.1, 0, none⟩)), (7, .bool (findK l x.kinds[j]).isSome)])) (Hx := (fun q => [.blk q.1 95 (((findK l x.kinds[j]).getD zKind).cells q.2), .blk g2 25 [.slice A l.length c0], .blk g3 97 (x.cells (.slice D x.kinds.length d))])) (p := (fun q => RdS I q.2 ((findK l x.kinds[j]).getD zKind).slots)) ?_ ?_
    ·refine d_startH T.mixed ?_
     refine d_tv 0 rfl rfl (by kernel_rfl) rfl (.refl _) rfl (v_ldw m0 he rfl rfl) ?_
     refine d_tv 1 rfl rfl (by kernel_rfl) rfl (.refl _) rfl (v_fieldAddr he rfl) ?_
     refine d_tv 2 rfl rfl (by kernel_rfl) rfl (.refl _) rfl (v_ld m1 he rfl rfl) ?_
     refine d_tv 3 rfl rfl (by kernel_rfl) rfl (.refl _) rfl (v_move rfl) ?_
     obtain ⟨b37, o37, w37, e37, c37, r37⟩ := RdA.at_ hDA (i := j) hlt
     obtain rfl := r37
     refine d_tv 4 rfl rfl (by kernel_rfl) rfl (.refl _) rfl (v_idx he rfl rfl e37 (j) (by omega) hlt) ?_
     refine d_tv 5 rfl rfl (by kernel_rfl) rfl (.refl _) rfl (v_ldI he rfl (c37 0 _ rfl)) ?_
     refine d_two 6 10 (by kernel_rfl) rfl rfl ?_ ?_
     ·refine o_callE (refFind I _ l hv0 x.kinds[j]) rfl rfl (fun v39 q39 => ?_)
      obtain ⟨vs, rfl, ss, rfl, hsl⟩ := q39
      refine d_on (fun _ m => m.keeps (.refl _)) ?_
      refine d_tv 7 rfl rfl (by kernel_rfl) rfl (.refl _) rfl (v_move rfl) ?_
      refine d_tv 8 rfl rfl (by kernel_rfl) rfl (.refl _) rfl (v_extract rfl rfl) ?_
      refine d_tv 9 rfl rfl (by kernel_rfl) rfl (.refl _) rfl (v_extract rfl rfl) ?_
      refine d_one 10 (by kernel_rfl) rfl ?_
      refine o_alloc he rfl (fun g6 => ?_)
      refine d_on (fun _ m => m.keeps (.cons _ (.refl _))) ?_
      refine d_one 11 (by kernel_rfl) rfl ?_
      refine o_stw _ he rfl rfl rfl rfl rfl (by simp [Kind.cells, hsl.one]; exact ⟨rfl, rfl⟩) ?_
      refine d_on (fun _ m => m.keeps (.cons _ (.refl _))) ?_
      refine d_tv 12 rfl rfl (by kernel_rfl) rfl (.cons _ (.refl _)) rfl (v_assign rfl) ?_
      refine d_done (by kernel_rfl) ?_
      refine go 1 ?_
      exact q_cutx (_, ss) hsl sb rfl rfl
     ·refine o_alloc he rfl (fun g6 => ?_)
      refine d_on (fun _ m => m.keeps (.cons _ (.refl _))) ?_
      refine d_one 6 (by kernel_rfl) rfl ?_
      refine o_callE (refFind I _ l hv0 x.kinds[j]) rfl rfl (fun v39 q39 => ?_)
      obtain ⟨vs, rfl, ss, rfl, hsl⟩ := q39
      refine d_on (fun _ m => m.keeps (.cons _ (.refl _))) ?_
      refine d_tv 7 rfl rfl (by kernel_rfl) rfl (.cons _ (.refl _)) rfl (v_move rfl) ?_
      refine d_tv 8 rfl rfl (by kernel_rfl) rfl (.cons _ (.refl _)) rfl (v_extract rfl rfl) ?_
      refine d_tv 9 rfl rfl (by kernel_rfl) rfl (.cons _ (.refl _)) rfl (v_extract rfl rfl) ?_
      refine d_one 11 (by kernel_rfl) rfl ?_
      refine o_stw _ he rfl rfl rfl rfl rfl (by simp [Kind.cells, hsl.one]; exact ⟨rfl, rfl⟩) ?_
      refine d_on (fun _ m => m.keeps (.cons _ (.refl _))) ?_
      refine d_tv 12 rfl rfl (by kernel_rfl) rfl (.cons _ (.refl _)) rfl (v_assign rfl) ?_
      refine d_done (by kernel_rfl) ?_
      refine go 1 ?_
      exact q_cutx (_, ss) hsl sb rfl rfl
    ·rintro ⟨g6, ss⟩ hsl
     refine go 1 ?_
     refine c_cut (I' := I) (L' := [(2, .pointer (some ⟨g2, 0, none⟩)), (3, .pointer (some ⟨g3, 0, none⟩)), (5, .int .i64 (j : Int)), (59, .bool (((!(findK l x.kinds[j]).isSome || ((findK l x.kinds[j]).getD zKind).vehicle) || decide (x.kinds[j] ∈ x.kinds.take j))))]) (H' := [.blk g2 25 [.slice A l.length c0], .blk g3 97 (x.cells (.slice D x.kinds.length d))]) ?_ ?_
     ·refine d_startH T.mixed ?_
      refine d_tv 0 rfl rfl (by kernel_rfl) rfl (.refl _) rfl (v_move rfl) ?_
      refine d_tv 1 rfl rfl (by kernel_rfl) rfl (.refl _) rfl (v_not rfl) ?_
      refine d_tv 2 rfl rfl (by kernel_rfl) rfl (.refl _) rfl (v_move rfl) ?_
      refine sxb 44 rfl (fun h44 p44 => ?_) (fun h44 p44 => ?_)
      ·refine d_t 3 rfl rfl (by kernel_rfl) rfl (fun _ m => m.keeps (.refl _)) (y_no rfl rfl h44) ?_
       refine d_t 4 rfl rfl (by kernel_rfl) rfl (fun _ m => m.keeps (.refl _)) (y_no rfl rfl h44) ?_
       refine d_tv 5 rfl rfl (by kernel_rfl) rfl (.refl _) rfl (v_or_t h44 rfl) ?_
       refine d_tv 6 rfl rfl (by kernel_rfl) rfl (.refl _) rfl (v_move rfl) ?_
       refine d_t 7 rfl rfl (by kernel_rfl) rfl (fun _ m => m.keeps (.refl _)) (y_no rfl rfl rfl) ?_
       refine d_t 8 rfl rfl (by kernel_rfl) rfl (fun _ m => m.keeps (.refl _)) (y_no rfl rfl rfl) ?_
       refine d_t 9 rfl rfl (by kernel_rfl) rfl (fun _ m => m.keeps (.refl _)) (y_no rfl rfl rfl) ?_
       refine d_t 10 rfl rfl (by kernel_rfl) rfl (fun _ m => m.keeps (.refl _)) (y_no rfl rfl rfl) ?_
       refine d_t 11 rfl rfl (by kernel_rfl) rfl (fun _ m => m.keeps (.refl _)) (y_no rfl rfl rfl) ?_
       refine d_t 12 rfl rfl (by kernel_rfl) rfl (fun _ m => m.keeps (.refl _)) (y_no rfl rfl rfl) ?_
       refine d_t 13 rfl rfl (by kernel_rfl) rfl (fun _ m => m.keeps (.refl _)) (y_no rfl rfl rfl) ?_
       refine d_t 14 rfl rfl (by kernel_rfl) rfl (fun _ m => m.keeps (.refl _)) (y_no rfl rfl rfl) ?_
       refine d_t 15 rfl rfl (by kernel_rfl) rfl (fun _ m => m.keeps (.refl _)) (y_no rfl rfl rfl) ?_
       refine d_t 16 rfl rfl (by kernel_rfl) rfl (fun _ m => m.keeps (.refl _)) (y_no rfl rfl rfl) ?_
       refine d_tv 17 rfl rfl (by kernel_rfl) rfl (.refl _) rfl (v_or_t rfl rfl) ?_
       refine d_done (by kernel_rfl) ?_
       refine go 1 ?_
       refine sx_drop ?_
       exact q_cut ⟨rfl, rfl, rfl, (congrArg (fun b => some (Value.bool b)) (by simp only [h44, bS])), trivial⟩ rfl rfl
      ·refine d_t 3 rfl rfl (by kernel_rfl) rfl (fun _ m => m.keeps (.refl _)) (y_yes rfl rfl h44 (v_fieldAddr he rfl)) ?_
       refine d_t 4 rfl rfl (by kernel_rfl) rfl (fun _ m => m.keeps (.refl _)) (y_yes rfl rfl h44 (v_ld m0 he rfl rfl)) ?_
       refine d_tv 5 rfl rfl (by kernel_rfl) rfl (.refl _) rfl (v_or_f h44 rfl rfl) ?_
       refine d_tv 6 rfl rfl (by kernel_rfl) rfl (.refl _) rfl (v_move rfl) ?_
       refine sxb 48 rfl (fun h48 p48 => ?_) (fun h48 p48 => ?_)
       ·refine d_t 7 rfl rfl (by kernel_rfl) rfl (fun _ m => m.keeps (.refl _)) (y_no rfl rfl h48) ?_
        refine d_t 8 rfl rfl (by kernel_rfl) rfl (fun _ m => m.keeps (.refl _)) (y_no rfl rfl h48) ?_
        refine d_t 9 rfl rfl (by kernel_rfl) rfl (fun _ m => m.keeps (.refl _)) (y_no rfl rfl h48) ?_
        refine d_t 10 rfl rfl (by kernel_rfl) rfl (fun _ m => m.keeps (.refl _)) (y_no rfl rfl h48) ?_
        refine d_t 11 rfl rfl (by kernel_rfl) rfl (fun _ m => m.keeps (.refl _)) (y_no rfl rfl h48) ?_
        refine d_t 12 rfl rfl (by kernel_rfl) rfl (fun _ m => m.keeps (.refl _)) (y_no rfl rfl h48) ?_
        refine d_t 13 rfl rfl (by kernel_rfl) rfl (fun _ m => m.keeps (.refl _)) (y_no rfl rfl h48) ?_
        refine d_t 14 rfl rfl (by kernel_rfl) rfl (fun _ m => m.keeps (.refl _)) (y_no rfl rfl h48) ?_
        refine d_t 15 rfl rfl (by kernel_rfl) rfl (fun _ m => m.keeps (.refl _)) (y_no rfl rfl h48) ?_
        refine d_t 16 rfl rfl (by kernel_rfl) rfl (fun _ m => m.keeps (.refl _)) (y_no rfl rfl h48) ?_
        refine d_tv 17 rfl rfl (by kernel_rfl) rfl (.refl _) rfl (v_or_t h48 rfl) ?_
        refine d_done (by kernel_rfl) ?_
        refine go 1 ?_
        refine sx_drop ?_
        exact q_cut ⟨rfl, rfl, rfl, (congrArg (fun b => some (Value.bool b)) (by simp only [h44, h48, bS])), trivial⟩ rfl rfl
       ·refine d_t 7 rfl rfl (by kernel_rfl) rfl (fun _ m => m.keeps (.refl _)) (y_yes rfl rfl h48 (v_fieldAddr he rfl)) ?_
        refine d_t 8 rfl rfl (by kernel_rfl) rfl (fun _ m => m.keeps (.refl _)) (y_yes rfl rfl h48 (v_ld m2 he rfl rfl)) ?_
        refine d_t 9 rfl rfl (by kernel_rfl) rfl (fun _ m => m.keeps (.refl _)) (y_yes rfl rfl h48 (v_move rfl)) ?_
        refine d_t 10 rfl rfl (by kernel_rfl) rfl (fun _ m => m.keeps (.refl _)) (y_yes rfl rfl h48 (v_slice_hi he rfl rfl j (by omega) (by omega))) ?_
        refine d_t 11 rfl rfl (by kernel_rfl) rfl (fun _ m => m.keeps (.refl _)) (y_yes rfl rfl h48 (v_fieldAddr he rfl)) ?_
        refine d_t 12 rfl rfl (by kernel_rfl) rfl (fun _ m => m.keeps (.refl _)) (y_yes rfl rfl h48 (v_ld m2 he rfl rfl)) ?_
        refine d_t 13 rfl rfl (by kernel_rfl) rfl (fun _ m => m.keeps (.refl _)) (y_yes rfl rfl h48 (v_move rfl)) ?_
        obtain ⟨b56, o56, w56, e56, c56, r56⟩ := RdA.at_ hDA (i := j) hlt
        obtain rfl := r56
        refine d_t 14 rfl rfl (by kernel_rfl) rfl (fun _ m => m.keeps (.refl _)) (y_yes rfl rfl h48 (v_idx he rfl rfl e56 (j) (by omega) hlt)) ?_
        refine d_t 15 rfl rfl (by kernel_rfl) rfl (fun _ m => m.keeps (.refl _)) (y_yes rfl rfl h48 (v_ldI he rfl (c56 0 _ rfl))) ?_
        refine d_one 16 (by kernel_rfl) rfl ?_
        refine o_yes rfl rfl h48 (o_callV (in08 I _ (x.kinds.take j) x.kinds[j] (hD.take j (by omega))) rfl rfl ?_)
        refine d_on (fun _ m => m.keeps (.refl _)) ?_
        refine d_tv 17 rfl rfl (by kernel_rfl) rfl (.refl _) rfl (v_or_f h48 rfl rfl) ?_
        refine d_done (by kernel_rfl) ?_
        refine go 1 ?_
        refine sx_drop ?_
        exact q_cut ⟨rfl, rfl, rfl, (congrArg (fun b => some (Value.bool b)) (by simp only [h44, h48, bS])), trivial⟩ rfl rfl
     ·refine cb rfl (fun h59 p59 => ?_) (fun h59 p59 => ?_)
      ·refine go 11 ?_
       refine fin1 rfl rfl ?_
       exact q_v (congrArg Value.bool (by simp only [slotR, allP_not hlt (show kindInR l (x.kinds.take j) x.kinds[j] = false by simp only [kindInR, h59]; rfl), bS]))
      ·refine go 9 ?_
       exact q_next (j + 1) ⟨by omega, allP_succ hq hlt (by simp only [kindInR, h59]; rfl)⟩ (by omega) rfl sb rfl
   ·refine go 11 ?_
    refine fin1 rfl rfl ?_
    have e : j = x.kinds.length := (by omega)
    subst e
    exact q_v (congrArg Value.bool (by simp only [slotR, hq, h24]; rfl))

theorem refValid (I : IMap) (v : Value) (l : List Kind) (hv : RdS I v l) (hs : SmC l) :
    FnV Tryz.prog 101 #[.agg #[v]] I (.bool (validR l)) := by
 have hv0 := hv
 obtain ⟨A, c0, rfl, hA, hc, hm⟩ := hv
 refine enter Tryz.func101 Tryz.call101 rfl Tryz.ntmps101 rfl (fun w0 => ?_)
 refine go 3 ?_
 refine o_box _ rfl rfl rfl (fun g1 => ?_)
 refine go 12 ?_
 refine cb rfl (fun h13 p13 => ?_) (fun h13 p13 => ?_)
 ·refine go 7 ?_
  refine fin1 rfl rfl ?_
  exact q_v (congrArg Value.bool (by simp only [validR, h13]; rfl))
 ·refine go 9 ?_
  refine c_loop (α := Nat) 0 (fun i => I)
   (fun i => [(1, .pointer (some ⟨g1, 0, none⟩)), (3, .int .i64 (i : Int))])
   (fun i => [.blk g1 25 [.slice A l.length c0]])
   (fun i => i ≤ l.length ∧ allP kindFineR l i = true)
   (fun i => l.length - i) ⟨Nat.zero_le _, rfl⟩ rfl sb rfl ?_
  intro i ⟨hi, hn⟩
  refine go 10 ?_
  refine cb rfl (fun h18 p18 => ?_) (fun h18 p18 => ?_)
  ·have hlt : i < l.length := by omega
   refine go 9 ?_
   obtain ⟨b24, o24, w24, e24, c24, r24⟩ := RdA.at_ hA (i := i) hlt
   obtain ⟨q24, rfl, B24, d24, rfl, hB24, hd24, hm24⟩ := r24
   refine o_v rfl (v_idx he rfl rfl e24 (i) (by omega) hlt) ?_
   refine o_v rfl (v_ldIa he rfl c24 rfl) ?_
   refine go 1 ?_
   refine o_alloc he rfl (fun g4 => ?_)
   refine go 1 ?_
   refine o_stw _ he rfl rfl rfl rfl rfl rfl ?_
   refine go 7 ?_
   refine o_v rfl (v_slice_hi he rfl rfl i (by omega) (by omega)) ?_
   refine go 1 ?_
   refine o_val rfl (v_build (pl := [(0, 1)]) he he rfl rfl) ?_
   refine go 1 ?_
   refine o_alloc he rfl (fun g5 => ?_)
   refine go 1 ?_
   refine o_stw _ he rfl rfl rfl rfl rfl rfl ?_
   refine go 8 ?_
   refine o_callE (refFind _ _ (l.take i) (hv0.take i (by omega)) l[i].name) rfl rfl (fun v35 q35 => ?_)
   obtain ⟨vs, rfl, s35, rfl, hsl⟩ := q35
   refine go 4 ?_
   refine o_alloc he rfl (fun g6 => ?_)
   refine go 1 ?_
   refine o_stw _ he rfl rfl rfl rfl rfl (by simp [Kind.cells, hsl.one]; exact ⟨rfl, rfl⟩) ?_
   refine go 5 ?_
   refine c_cut (I' := I) (L' := [(1, .pointer (some ⟨g1, 0, none⟩)), (3, .int .i64 (i : Int)), (4, .pointer (some ⟨g4, 0, none⟩)), (5, .pointer (some ⟨g5, 0, none⟩)), (50, .bool (((findK (l.take i) l[i].name).isSome || !nameRef l[i].name) || decide ((12 : Int) < (l[i].slots.length : Nat))))]) (H' := [.blk g5 25 [.slice A i c0], .blk g4 95 (l[i].cells (.slice B24 l[i].slots.length d24)), .blk g1 25 [.slice A l.length c0]]) ?_ ?_
   ·refine go 3 ?_
    refine sxb 39 rfl (fun h39 p39 => ?_) (fun h39 p39 => ?_)
    ·refine go 13 ?_
     refine sx_drop ?_
     exact q_cut ⟨rfl, rfl, rfl, rfl, (congrArg (fun b => some (Value.bool b)) (by simp only [h18, h39, bS])), trivial⟩ rfl rfl
    ·refine go 3 ?_
     refine o_yes rfl rfl h39 (o_callV (name05 _ _ (hs _ (List.getElem_mem hlt)).1) rfl rfl ?_)
     refine go 3 ?_
     refine sxb 45 rfl (fun h45 p45 => ?_) (fun h45 p45 => ?_)
     ·refine go 7 ?_
      refine sx_drop ?_
      exact q_cut ⟨rfl, rfl, rfl, rfl, (congrArg (fun b => some (Value.bool b)) (by simp only [h18, h39, h45, bS])), trivial⟩ rfl rfl
     ·refine go 7 ?_
      refine sx_drop ?_
      exact q_cut ⟨rfl, rfl, rfl, rfl, (congrArg (fun b => some (Value.bool b)) (by simp only [h18, h39, h45, bS])), trivial⟩ rfl rfl
   ·refine cb rfl (fun h50 p50 => ?_) (fun h50 p50 => ?_)
    ·refine go 12 ?_
     refine fin1 rfl rfl ?_
     exact q_v (congrArg Value.bool (by simp only [validR, allP_not hlt (show kindFineR (l.take i) l[i] = false by simp only [kindFineR, h50]; rfl), bS]))
    ·refine go 4 ?_
     refine sx_nilrow 9 1 ?_
     refine go 9 ?_
     refine c_loop3 ((0 : Nat)) (_) ([]) (fun j v8 xs => I)
      (fun j v8 xs => [(1, .pointer (some ⟨g1, 0, none⟩)), (3, .int .i64 (i : Int)), (4, .pointer (some ⟨g4, 0, none⟩)), (5, .pointer (some ⟨g5, 0, none⟩)), (8, v8), (9, .int .i64 (j : Int))])
      (fun j v8 xs => [.row v8 9 1 j xs, .blk g5 25 [.slice A i c0], .blk g4 95 (l[i].cells (.slice B24 l[i].slots.length d24)), .blk g1 25 [.slice A l.length c0]])
      (fun j v8 xs => j ≤ l[i].slots.length ∧ allP (slotFineR (l.take i)) l[i].slots j = true ∧ Flat I xs ((l[i].slots.take j).map Slot.name))
      (fun j v8 xs => l[i].slots.length - j) ⟨Nat.zero_le _, rfl, .nil⟩ rfl sb rfl ?_
     intro j v8 xs ⟨hj, hq, hF⟩
     refine go 10 ?_
     refine cb rfl (fun h55 p55 => ?_) (fun h55 p55 => ?_)
     ·have hltj : j < l[i].slots.length := by omega
      have h12 : l[i].slots.length ≤ 12 := by revert h50; simp only [Bool.or_eq_false_iff, decide_eq_false_iff_not]; omega
      refine go 6 ?_
      refine c_cut (I' := I) (L' := [(1, .pointer (some ⟨g1, 0, none⟩)), (3, .int .i64 (i : Int)), (4, .pointer (some ⟨g4, 0, none⟩)), (5, .pointer (some ⟨g5, 0, none⟩)), (8, v8), (9, .int .i64 (j : Int)), (75, .bool ((!slotR (l.take i) l[i].slots[j]) || decide (l[i].slots[j].name ∈ (l[i].slots.take j).map Slot.name)))]) (H' := [.row v8 9 1 j xs, .blk g5 25 [.slice A i c0], .blk g4 95 (l[i].cells (.slice B24 l[i].slots.length d24)), .blk g1 25 [.slice A l.length c0]]) ?_ ?_
      ·refine d_startH T.mixed ?_
       refine d_tv 0 rfl rfl (by kernel_rfl) rfl (.refl _) rfl (v_ldw m1 he rfl rfl) ?_
       refine d_tv 1 rfl rfl (by kernel_rfl) rfl (.refl _) rfl (v_fieldAddr he rfl) ?_
       refine d_tv 2 rfl rfl (by kernel_rfl) rfl (.refl _) rfl (v_ld m2 he rfl rfl) ?_
       refine d_tv 3 rfl rfl (by kernel_rfl) rfl (.refl _) rfl (v_move rfl) ?_
       obtain ⟨b62, o62, w62, e62, c62, r62⟩ := RdA.at_ hB24 (i := j) hltj
       obtain ⟨q62, rfl, B62, d62, rfl, hB62, hd62, hm62⟩ := r62
       refine d_tv 4 rfl rfl (by kernel_rfl) rfl (.refl _) rfl (v_idx he rfl rfl e62 (j) (by omega) hltj) ?_
       refine d_tv 5 rfl rfl (by kernel_rfl) rfl (.refl _) rfl (v_ldIa he rfl c62 rfl) ?_
       refine d_one 6 (by kernel_rfl) rfl ?_
       refine o_callV (refSlot _ _ (l.take i) (hv0.take i (by omega)) l[i].slots[j] B62 d62 ⟨_, _, rfl, hB62, hd62, hm62⟩ ((hs _ (List.getElem_mem hlt)).2 _ (List.getElem_mem hltj))) rfl rfl ?_
       refine d_on (fun _ m => m.keeps (.refl _)) ?_
       refine d_tv 7 rfl rfl (by kernel_rfl) rfl (.refl _) rfl (v_not rfl) ?_
       refine d_tv 8 rfl rfl (by kernel_rfl) rfl (.refl _) rfl (v_move rfl) ?_
       refine sxb 66 rfl (fun h66 p66 => ?_) (fun h66 p66 => ?_)
       ·refine d_t 9 rfl rfl (by kernel_rfl) rfl (fun _ m => m.keeps (.refl _)) (y_no rfl rfl h66) ?_
        refine d_t 10 rfl rfl (by kernel_rfl) rfl (fun _ m => m.keeps (.refl _)) (y_no rfl rfl h66) ?_
        refine d_t 11 rfl rfl (by kernel_rfl) rfl (fun _ m => m.keeps (.refl _)) (y_no rfl rfl h66) ?_
        refine d_t 12 rfl rfl (by kernel_rfl) rfl (fun _ m => m.keeps (.refl _)) (y_no rfl rfl h66) ?_
        refine d_t 13 rfl rfl (by kernel_rfl) rfl (fun _ m => m.keeps (.refl _)) (y_no rfl rfl h66) ?_
        refine d_t 14 rfl rfl (by kernel_rfl) rfl (fun _ m => m.keeps (.refl _)) (y_no rfl rfl h66) ?_
        refine d_t 15 rfl rfl (by kernel_rfl) rfl (fun _ m => m.keeps (.refl _)) (y_no rfl rfl h66) ?_
        refine d_t 16 rfl rfl (by kernel_rfl) rfl (fun _ m => m.keeps (.refl _)) (y_no rfl rfl h66) ?_
        refine d_tv 17 rfl rfl (by kernel_rfl) rfl (.refl _) rfl (v_or_t h66 rfl) ?_
        refine d_done (by kernel_rfl) ?_
        refine go 1 ?_
        exact q_cut ⟨rfl, rfl, rfl, rfl, rfl, rfl, (congrArg (fun b => some (Value.bool b)) (by simp only [h55, h66, bS])), trivial⟩ rfl rfl
       ·refine d_t 9 rfl rfl (by kernel_rfl) rfl (fun _ m => m.keeps (.refl _)) (y_yes rfl rfl h66 (v_move rfl)) ?_
        refine d_t 10 rfl rfl (by kernel_rfl) rfl (fun _ m => m.keeps (.refl _)) (y_yes rfl rfl h66 (v_fieldAddr he rfl)) ?_
        refine d_t 11 rfl rfl (by kernel_rfl) rfl (fun _ m => m.keeps (.refl _)) (y_yes rfl rfl h66 (v_ld m2 he rfl rfl)) ?_
        refine d_t 12 rfl rfl (by kernel_rfl) rfl (fun _ m => m.keeps (.refl _)) (y_yes rfl rfl h66 (v_move rfl)) ?_
        obtain ⟨b71, o71, w71, e71, c71, r71⟩ := RdA.at_ hB24 (i := j) hltj
        obtain ⟨q71, rfl, B71, d71, rfl, hB71, hd71, hm71⟩ := r71
        refine d_t 13 rfl rfl (by kernel_rfl) rfl (fun _ m => m.keeps (.refl _)) (y_yes rfl rfl h66 (v_idx he rfl rfl e71 (j) (by omega) hltj)) ?_
        refine d_t 14 rfl rfl (by kernel_rfl) rfl (fun _ m => m.keeps (.refl _)) (y_yes rfl rfl h66 (v_fieldAddr he rfl)) ?_
        refine d_t 15 rfl rfl (by kernel_rfl) rfl (fun _ m => m.keeps (.refl _)) (y_yes rfl rfl h66 (v_ldI he rfl (c71 0 _ rfl))) ?_
        refine d_one 16 (by kernel_rfl) rfl ?_
        refine o_yes rfl rfl h66 (o_lendV m0 rfl (by simp; omega) (hF) (fun I2 hI2 hR => in08 I2 _ _ l[i].slots[j].name hR) rfl rfl ?_)
        refine d_on (fun _ m => m.keeps (.refl _)) ?_
        refine d_tv 17 rfl rfl (by kernel_rfl) rfl (.refl _) rfl (v_or_f h66 rfl rfl) ?_
        refine d_done (by kernel_rfl) ?_
        refine go 1 ?_
        exact q_cut ⟨rfl, rfl, rfl, rfl, rfl, rfl, (congrArg (fun b => some (Value.bool b)) (by simp only [h55, h66, bS])), trivial⟩ rfl rfl
      ·refine cb rfl (fun h75 p75 => ?_) (fun h75 p75 => ?_)
       ·refine go 16 ?_
        refine fin1 rfl rfl ?_
        exact q_v (congrArg Value.bool (by simp only [validR, allP_not hlt (show kindFineR (l.take i) l[i] = false by simp only [kindFineR, allP_not hltj (show slotFineR (l.take i) (l[i].slots.take j) l[i].slots[j] = false by simp only [slotFineR, h75]; rfl), bS]), bS]))
       ·refine go 7 ?_
        obtain ⟨b80, o80, w80, e80, c80, r80⟩ := RdA.at_ hB24 (i := j) hltj
        obtain ⟨q80, rfl, B80, d80, rfl, hB80, hd80, hm80⟩ := r80
        refine o_v rfl (v_idx he rfl rfl e80 (j) (by omega) hltj) ?_
        refine go 1 ?_
        refine o_v rfl (v_ldI he rfl (c80 0 _ rfl)) ?_
        refine go 1 ?_
        refine o_buildSlice he he rfl rfl rfl rfl rfl rfl rfl (fun v83 => ?_)
        refine go 1 ?_
        refine bring1 ?_
        refine o_appendO he he rfl rfl rfl rfl rfl (by omega) (by omega) rfl (fun v84 => ?_)
        refine go 10 ?_
        refine bring1 ?_
        refine sx_drop ?_
        exact q_next3 (j + 1) (_) (_) ⟨by omega, allP_succ hq hltj (by simp only [slotFineR, h75]; rfl), by rw [← take_succ_of hltj, List.map_append]; exact hF.append (.one rfl)⟩ (by omega) rfl sb rfl
     ·refine go 12 ?_
      refine sx_drop ?_
      refine sx_drop ?_
      refine sx_drop ?_
      exact q_next (i + 1) ⟨by omega, allP_succ hn hlt (by simp only [kindFineR, h50, (show j = l[i].slots.length by omega) ▸ hq]; rfl)⟩ (by omega) rfl sb rfl
  ·refine go 11 ?_
   refine fin1 rfl rfl ?_
   have e : i = l.length := (by omega)
   subst e
   exact q_v (congrArg Value.bool (by simp only [validR, hn, h13]; rfl))

theorem refFew (I : IMap) (v : Value) (l : List Kind) (hv : RdS I v l) :
    FnV Tryz.prog 24 #[.agg #[v]] I (.bool (fewC l)) := by
 obtain ⟨A, c0, rfl, hA, hc, hm⟩ := hv
 refine enter Tryz.func24 Tryz.call24 rfl Tryz.ntmps24 rfl (fun w0 => ?_)
 refine go 3 ?_
 refine o_box _ rfl rfl rfl (fun g1 => ?_)
 refine go 12 ?_
 refine cb rfl (fun h10 p10 => ?_) (fun h10 p10 => ?_)
 ·refine go 7 ?_
  refine fin1 rfl rfl ?_
  exact q_v (congrArg Value.bool (by simp only [fewC, h10]; rfl))
 ·refine go 9 ?_
  refine c_loop (α := Nat) 0 (fun i => I)
   (fun i => [(1, .pointer (some ⟨g1, 0, none⟩)), (3, .int .i64 (i : Int))])
   (fun i => [.blk g1 25 [.slice A l.length c0]])
   (fun i => i ≤ l.length ∧ allP (fun _ k => fewKind k) l i = true)
   (fun i => l.length - i) ⟨Nat.zero_le _, rfl⟩ rfl sb rfl ?_
  intro i ⟨hi, hn⟩
  refine go 10 ?_
  refine cb rfl (fun h15 p15 => ?_) (fun h15 p15 => ?_)
  ·have hlt : i < l.length := by omega
   refine go 9 ?_
   obtain ⟨b21, o21, w21, e21, c21, r21⟩ := RdA.at_ hA (i := i) hlt
   obtain ⟨q21, rfl, B21, d21, rfl, hB21, hd21, hm21⟩ := r21
   refine o_v rfl (v_idx he rfl rfl e21 (i) (by omega) hlt) ?_
   refine o_v rfl (v_ldIa he rfl c21 rfl) ?_
   refine go 1 ?_
   refine o_alloc he rfl (fun g4 => ?_)
   refine go 1 ?_
   refine o_stw _ he rfl rfl rfl rfl rfl rfl ?_
   refine go 4 ?_
   refine c_cut (I' := I) (L' := [(1, .pointer (some ⟨g1, 0, none⟩)), (3, .int .i64 (i : Int)), (4, .pointer (some ⟨g4, 0, none⟩)), (32, .bool (decide ((100 : Int) < (l[i].name.size : Nat)) || decide ((15 : Int) < (l[i].slots.length : Nat))))]) (H' := [.blk g4 95 (l[i].cells (.slice B21 l[i].slots.length d21)), .blk g1 25 [.slice A l.length c0]]) ?_ ?_
   ·refine go 6 ?_
    refine sxb 27 rfl (fun h27 p27 => ?_) (fun h27 p27 => ?_)
    ·refine go 7 ?_
     exact q_cut ⟨rfl, rfl, rfl, (congrArg (fun b => some (Value.bool b)) (by simp only [h15, h27, bS])), trivial⟩ rfl rfl
    ·refine go 7 ?_
     exact q_cut ⟨rfl, rfl, rfl, (congrArg (fun b => some (Value.bool b)) (by simp only [h15, h27, bS])), trivial⟩ rfl rfl
   ·refine cb rfl (fun h32 p32 => ?_) (fun h32 p32 => ?_)
    ·refine go 12 ?_
     refine fin1 rfl rfl ?_
     exact q_v (congrArg Value.bool (by simp only [fewC, allP_not (f := fun _ k => fewKind k) hlt (show fewKind l[i] = false by simp only [fewKind, h32, bS]), bS]))
    ·refine go 8 ?_
     refine c_loop (α := Nat) 0 (fun j => I)
      (fun j => [(1, .pointer (some ⟨g1, 0, none⟩)), (3, .int .i64 (i : Int)), (4, .pointer (some ⟨g4, 0, none⟩)), (5, .int .i64 (j : Int))])
      (fun j => [.blk g4 95 (l[i].cells (.slice B21 l[i].slots.length d21)), .blk g1 25 [.slice A l.length c0]])
      (fun j => j ≤ l[i].slots.length ∧ allP (fun _ s => fewSlot s) l[i].slots j = true)
      (fun j => l[i].slots.length - j) ⟨Nat.zero_le _, rfl⟩ rfl sb rfl ?_
     intro j ⟨hj, hq⟩
     refine go 10 ?_
     refine cb rfl (fun h37 p37 => ?_) (fun h37 p37 => ?_)
     ·have hltj : j < l[i].slots.length := by omega
      refine go 6 ?_
      refine c_cut (I' := I) (L' := [(1, .pointer (some ⟨g1, 0, none⟩)), (3, .int .i64 (i : Int)), (4, .pointer (some ⟨g4, 0, none⟩)), (5, .int .i64 (j : Int)), (57, .bool (decide ((100 : Int) < (l[i].slots[j].name.size : Nat)) || decide ((15 : Int) < (l[i].slots[j].kinds.length : Nat))))]) (H' := [.blk g4 95 (l[i].cells (.slice B21 l[i].slots.length d21)), .blk g1 25 [.slice A l.length c0]]) ?_ ?_
      ·refine go 4 ?_
       obtain ⟨b43, o43, w43, e43, c43, r43⟩ := RdA.at_ hB21 (i := j) hltj
       obtain ⟨q43, rfl, B43, d43, rfl, hB43, hd43, hm43⟩ := r43
       refine o_v rfl (v_idx he rfl rfl e43 (j) (by omega) hltj) ?_
       refine go 1 ?_
       refine o_v rfl (v_ldI he rfl (c43 0 _ rfl)) ?_
       refine go 3 ?_
       refine sxb 48 rfl (fun h48 p48 => ?_) (fun h48 p48 => ?_)
       ·refine go 11 ?_
        exact q_cut ⟨rfl, rfl, rfl, rfl, (congrArg (fun b => some (Value.bool b)) (by simp only [h37, h48, bS])), trivial⟩ rfl rfl
       ·refine go 3 ?_
        obtain ⟨b52, o52, w52, e52, c52, r52⟩ := RdA.at_ hB21 (i := j) hltj
        obtain ⟨q52, rfl, B52, d52, rfl, hB52, hd52, hm52⟩ := r52
        refine o_cons (o_yes rfl rfl h48 (o_val rfl (v_idx he rfl rfl e52 (j) (by omega) hltj) ?_))
        refine go 1 ?_
        refine o_cons (o_yes rfl rfl h48 (o_val rfl (v_ldI he rfl (c52 1 _ rfl)) ?_))
        refine go 5 ?_
        exact q_cut ⟨rfl, rfl, rfl, rfl, (congrArg (fun b => some (Value.bool b)) (by simp only [h37, h48, bS])), trivial⟩ rfl rfl
      ·refine cb rfl (fun h57 p57 => ?_) (fun h57 p57 => ?_)
       ·refine go 16 ?_
        refine fin1 rfl rfl ?_
        exact q_v (congrArg Value.bool (by simp only [fewC, allP_not (f := fun _ k => fewKind k) hlt (show fewKind l[i] = false by simp only [fewKind, allP_not (f := fun _ s => fewSlot s) hltj (show fewSlot l[i].slots[j] = false by simp only [fewSlot, h57]; rfl), bS]), bS]))
       ·refine go 8 ?_
        refine c_loop (α := Nat) 0 (fun m => I)
         (fun m => [(1, .pointer (some ⟨g1, 0, none⟩)), (3, .int .i64 (i : Int)), (4, .pointer (some ⟨g4, 0, none⟩)), (5, .int .i64 (j : Int)), (6, .int .i64 (m : Int))])
         (fun m => [.blk g4 95 (l[i].cells (.slice B21 l[i].slots.length d21)), .blk g1 25 [.slice A l.length c0]])
         (fun m => m ≤ l[i].slots[j].kinds.length ∧ allP (fun _ k => !decide ((100 : Int) < ((k : ByteArray).size : Nat))) l[i].slots[j].kinds m = true)
         (fun m => l[i].slots[j].kinds.length - m) ⟨Nat.zero_le _, rfl⟩ rfl sb rfl ?_
        intro m ⟨hmm, hr⟩
        refine go 7 ?_
        obtain ⟨b62, o62, w62, e62, c62, r62⟩ := RdA.at_ hB21 (i := j) hltj
        obtain ⟨q62, rfl, B62, d62, rfl, hB62, hd62, hm62⟩ := r62
        refine o_v rfl (v_idx he rfl rfl e62 (j) (by omega) hltj) ?_
        refine go 1 ?_
        refine o_v rfl (v_ldI he rfl (c62 1 _ rfl)) ?_
        refine go 4 ?_
        refine cb rfl (fun h66 p66 => ?_) (fun h66 p66 => ?_)
        ·have hltm : m < l[i].slots[j].kinds.length := by omega
         refine go 9 ?_
         obtain ⟨b72, o72, w72, e72, c72, r72⟩ := RdA.at_ hB21 (i := j) hltj
         obtain ⟨q72, rfl, B72, d72, rfl, hB72, hd72, hm72⟩ := r72
         refine o_v rfl (v_idx he rfl rfl e72 (j) (by omega) hltj) ?_
         refine go 1 ?_
         refine o_v rfl (v_ldI he rfl (c72 1 _ rfl)) ?_
         refine go 1 ?_
         obtain ⟨b76, o76, w76, e76, c76, r76⟩ := RdA.at_ hB72 (i := m) hltm
         obtain rfl := r76
         refine o_v rfl (v_idx he rfl rfl e76 (m) (by omega) hltm) ?_
         refine o_v rfl (v_ldI he rfl (c76 0 _ rfl)) ?_
         refine go 4 ?_
         refine cb rfl (fun h79 p79 => ?_) (fun h79 p79 => ?_)
         ·refine go 19 ?_
          refine fin1 rfl rfl ?_
          exact q_v (congrArg Value.bool (by simp only [fewC, allP_not (f := fun _ k => fewKind k) hlt (show fewKind l[i] = false by simp only [fewKind, allP_not (f := fun _ s => fewSlot s) hltj (show fewSlot l[i].slots[j] = false by simp only [fewSlot, allP_not (f := fun _ k => !decide ((100 : Int) < ((k : ByteArray).size : Nat))) hltm (show (!decide ((100 : Int) < ((l[i].slots[j].kinds[m]).size : Nat))) = false by simp only [h79]; rfl), bS]), bS]), bS]))
         ·refine go 9 ?_
          exact q_next (m + 1) ⟨by omega, allP_succ hr hltm (by simp only [h79]; rfl)⟩ (by omega) rfl sb rfl
        ·refine go 12 ?_
         exact q_next (j + 1) ⟨by omega, allP_succ hq hltj (by simp only [fewSlot, h57, (show m = l[i].slots[j].kinds.length by omega) ▸ hr]; rfl)⟩ (by omega) rfl sb rfl
     ·refine go 12 ?_
      refine sx_drop ?_
      exact q_next (i + 1) ⟨by omega, allP_succ hn hlt (by simp only [fewKind, h32, (show j = l[i].slots.length by omega) ▸ hq]; rfl)⟩ (by omega) rfl sb rfl
  ·refine go 11 ?_
   refine fin1 rfl rfl ?_
   have e : i = l.length := (by omega)
   subst e
   exact q_v (congrArg Value.bool (by simp only [fewC, hn, h10]; rfl))

end Go.Proofs.YtdkjmaoelojpeaaGreat

/- Walks, printed by a program out of the code of the functions: each theorem is a contract of one function. -/
namespace Go.Proofs.YtdkjmaoelojpeaaGreat
open Go Go.Sx
set_option linter.all false
set_option maxRecDepth 20000
set_option maxHeartbeats 4000000
instance T.arr_199 : Has (arrK Tryz.prog 199) (3, 198, 1) := ⟨by kernel_rfl⟩
instance T.arr_220 : Has (arrK Tryz.prog 220) (8, 9, 1) := ⟨by kernel_rfl⟩
theorem T.eqg_49 : Tryz.prog.eqGuardType Tryz.prog.depth 49 = false := by kernel_rfl
instance T.fld_45_0 : Has (fldK Tryz.prog 45 0) (0, false, 1) := ⟨by kernel_rfl⟩
instance T.fld_45_1 : Has (fldK Tryz.prog 45 1) (1, false, 1) := ⟨by kernel_rfl⟩
instance T.fld_47_0 : Has (fldK Tryz.prog 47 0) (0, true, 2) := ⟨by kernel_rfl⟩
instance T.fld_47_1 : Has (fldK Tryz.prog 47 1) (2, true, 2) := ⟨by kernel_rfl⟩
instance T.fld_47_2 : Has (fldK Tryz.prog 47 2) (4, true, 2) := ⟨by kernel_rfl⟩
instance T.fld_49_0 : Has (fldK Tryz.prog 49 0) (0, false, 1) := ⟨by kernel_rfl⟩
instance T.fld_49_1 : Has (fldK Tryz.prog 49 1) (1, false, 1) := ⟨by kernel_rfl⟩
instance T.fld_49_2 : Has (fldK Tryz.prog 49 2) (2, false, 1) := ⟨by kernel_rfl⟩
instance T.fld_49_3 : Has (fldK Tryz.prog 49 3) (3, false, 1) := ⟨by kernel_rfl⟩
instance T.fld_49_4 : Has (fldK Tryz.prog 49 4) (4, false, 1) := ⟨by kernel_rfl⟩
instance T.fld_49_5 : Has (fldK Tryz.prog 49 5) (5, false, 1) := ⟨by kernel_rfl⟩
instance T.fld_49_6 : Has (fldK Tryz.prog 49 6) (6, false, 1) := ⟨by kernel_rfl⟩
instance T.fld_49_7 : Has (fldK Tryz.prog 49 7) (7, false, 1) := ⟨by kernel_rfl⟩
instance T.fld_49_8 : Has (fldK Tryz.prog 49 8) (8, true, 6) := ⟨by kernel_rfl⟩
instance T.pl_47 : Has (plK Tryz.prog 47) [(0, 2), (2, 2), (4, 2)] := ⟨by kernel_rfl⟩
instance T.pl_49 : Has (plK Tryz.prog 49) [(0, 1), (1, 1), (2, 1), (3, 1), (4, 1), (5, 1), (6, 1), (7, 1), (8, 6)] := ⟨by kernel_rfl⟩
instance T.ty_198 : Has (tyK Tryz.prog 198) (false, 1) := ⟨by kernel_rfl⟩
instance T.ty_199 : Has (tyK Tryz.prog 199) (true, 3) := ⟨by kernel_rfl⟩
instance T.ty_220 : Has (tyK Tryz.prog 220) (true, 8) := ⟨by kernel_rfl⟩
instance T.ty_47 : Has (tyK Tryz.prog 47) (true, 6) := ⟨by kernel_rfl⟩
instance T.zero_199 : Has (zeroK Tryz.prog 199) [.pointer none, .pointer none, .pointer none] := ⟨by kernel_rfl⟩
instance T.zero_220 : Has (zeroK Tryz.prog 220) [.string ⟨#[]⟩, .string ⟨#[]⟩, .string ⟨#[]⟩, .string ⟨#[]⟩, .string ⟨#[]⟩, .string ⟨#[]⟩, .string ⟨#[]⟩, .string ⟨#[]⟩] := ⟨by kernel_rfl⟩
instance T.zero_47 : Has (zeroK Tryz.prog 47) [.int .i64 0, .int .i64 0, .int .i64 0, .int .i64 0, .int .i64 0, .int .i64 0] := ⟨by kernel_rfl⟩
instance T.zero_49 : Has (zeroK Tryz.prog 49) [.int .i64 0, .int .i64 0, .string ⟨#[]⟩, .string ⟨#[]⟩, .string ⟨#[]⟩, .string ⟨#[]⟩, .string ⟨#[]⟩, .string ⟨#[]⟩, .int .i64 0, .int .i64 0, .int .i64 0, .int .i64 0, .int .i64 0, .int .i64 0] := ⟨by kernel_rfl⟩
theorem eqS_Evt (a b : Evt) : eqV Tryz.prog 9 49 (.agg a.cells.toArray) (.agg b.cells.toArray) = some (decide (a = b)) := by
  rw [← Evt.eqB_eq]
  kernel_rfl

theorem evWord (I : IMap) (op : Int) :
    FnV Tryz.prog 154 #[.int .i64 op] I (.string (wordOf op)) := by
 refine enter Tryz.func154 Tryz.call154 rfl Tryz.ntmps154 rfl (fun w0 => ?_)
 refine go 8 ?_
 refine o_val rfl (v_buildA he he rfl rfl) ?_
 refine go 1 ?_
 refine o_alloc he rfl (fun g3 => ?_)
 refine go 1 ?_
 refine o_stw _ he rfl rfl rfl rfl rfl rfl ?_
 refine go 8 ?_
 refine sxb 7 rfl (fun h7 p7 => ?_) (fun h7 p7 => ?_)
 ·refine go 5 ?_
  refine c_true rfl ?_
  refine go 7 ?_
  refine fin1 rfl rfl ?_
  exact q_v (congrArg Value.string (wordOf_out (by omega)).symm)
 ·refine go 5 ?_
  refine cb rfl (fun h10 p10 => ?_) (fun h10 p10 => ?_)
  ·refine go 7 ?_
   refine fin1 rfl rfl ?_
   exact q_v (congrArg Value.string (wordOf_out (by omega)).symm)
  ·refine go 5 ?_
   refine o_v rfl (v_aidx he rfl rfl op.toNat (by omega) (by omega)) ?_
   refine o_v rfl (v_ld m0 he rfl (by rw [show 0 + op.toNat * 1 = op.toNat from by omega]; exact wordOf_at (by omega) (by omega))) ?_
   refine go 4 ?_
   refine fin1 rfl rfl ?_
   exact q_v rfl

theorem evIvls (I : IMap) (g o : Nat) :
    FnV Tryz.prog 155 #[.pointer (some ⟨g, o, none⟩)] I (.agg #[.pointer (some ⟨g, o + 0, none⟩), .pointer (some ⟨g, o + 2, none⟩), .pointer (some ⟨g, o + 4, none⟩)]) := by
 refine enter Tryz.func155 Tryz.call155 rfl Tryz.ntmps155 rfl (fun w0 => ?_)
 refine go 3 ?_
 refine o_alloc he rfl (fun g2 => ?_)
 refine go 3 ?_
 refine d_start1 T.mixed ?_
 refine d_tv 0 rfl rfl (by kernel_rfl) rfl (.cons _ .slnil) rfl (v_move rfl) ?_
 refine d_tv 1 rfl rfl (by kernel_rfl) rfl (.cons _ .slnil) rfl (v_nilCheck rfl) ?_
 refine d_tv 2 rfl rfl (by kernel_rfl) rfl (.cons _ .slnil) rfl (v_fieldAddr he rfl) ?_
 refine d_tv 3 rfl rfl (by kernel_rfl) rfl (.cons _ .slnil) rfl (v_move rfl) ?_
 refine d_tv 4 rfl rfl (by kernel_rfl) rfl (.cons _ .slnil) rfl (v_nilCheck rfl) ?_
 refine d_tv 5 rfl rfl (by kernel_rfl) rfl (.cons _ .slnil) rfl (v_fieldAddr he rfl) ?_
 refine d_tv 6 rfl rfl (by kernel_rfl) rfl (.cons _ .slnil) rfl (v_move rfl) ?_
 refine d_tv 7 rfl rfl (by kernel_rfl) rfl (.cons _ .slnil) rfl (v_nilCheck rfl) ?_
 refine d_tv 8 rfl rfl (by kernel_rfl) rfl (.cons _ .slnil) rfl (v_fieldAddr he rfl) ?_
 refine d_one 9 (by kernel_rfl) rfl ?_
 refine o_val rfl (v_buildA he he rfl rfl) ?_
 refine d_on (fun _ m => m.keeps (.cons _ .slnil)) ?_
 refine d_one 10 (by kernel_rfl) rfl ?_
 refine o_stw _ he rfl rfl rfl rfl rfl rfl ?_
 refine d_on (fun _ m => m.keeps (.cons _ .slnil)) ?_
 refine d_done (by kernel_rfl) ?_
 refine go 2 ?_
 refine fin1 rfl ⟨_, _, _, rfl, m0, .inr ⟨_, he, rfl, rfl⟩⟩ ?_
 exact q_v rfl

theorem evValid1 (I : IMap) (s : ByteArray) (hs : Sm s) :
    FnV Tryz.prog 157 #[.string s] I (.bool (!nameOk s)) := by
 refine enter Tryz.func157 Tryz.call157 rfl Tryz.ntmps157 rfl (fun w0 => ?_)
 refine go 9 ?_
 refine o_callV (lexName _ s hs) rfl rfl ?_
 refine go 5 ?_
 refine fin1 rfl rfl ?_
 exact q_v rfl

theorem evValid (I : IMap) (e : Evt) (hs : SmE e) :
    FnV Tryz.prog 127 #[.agg e.cells.toArray] I (.bool (validE e)) := by
 refine enter Tryz.func127 Tryz.call127 rfl Tryz.ntmps127 rfl (fun w0 => ?_)
 refine go 3 ?_
 refine o_box _ rfl rfl rfl (fun g1 => ?_)
 refine go 5 ?_
 refine c_cut (I' := I) (L' := [(1, .pointer (some ⟨g1, 0, none⟩)), (26, .bool (evBad e))]) (H' := [.blk g1 49 e.cells]) ?_ ?_
 ·refine go 4 ?_
  refine o_callV (evWord _ e.op) rfl rfl ?_
  refine go 2 ?_
  refine sxb 11 rfl (fun h11 p11 => ?_) (fun h11 p11 => ?_)
  ·refine go 17 ?_
   exact q_cut ⟨rfl, (congrArg (fun b => some (Value.bool b)) (by simp only [evBad, h11, bS])), trivial⟩ rfl rfl
  ·refine go 5 ?_
   refine sxb 16 rfl (fun h16 p16 => ?_) (fun h16 p16 => ?_)
   ·refine go 12 ?_
    exact q_cut ⟨rfl, (congrArg (fun b => some (Value.bool b)) (by simp only [evBad, h11, h16, bS])), trivial⟩ rfl rfl
   ·refine go 5 ?_
    refine sxb 21 rfl (fun h21 p21 => ?_) (fun h21 p21 => ?_)
    ·refine go 7 ?_
     exact q_cut ⟨rfl, (congrArg (fun b => some (Value.bool b)) (by simp only [evBad, h11, h16, h21, bS])), trivial⟩ rfl rfl
    ·refine go 3 ?_
     refine o_yes rfl rfl h21 (o_callV (lexName _ _ hs.1) rfl rfl ?_)
     refine go 4 ?_
     exact q_cut ⟨rfl, (congrArg (fun b => some (Value.bool b)) (by simp only [evBad, h11, h16, h21, bS])), trivial⟩ rfl rfl
 ·refine cb rfl (fun h26 p26 => ?_) (fun h26 p26 => ?_)
  ·refine go 7 ?_
   refine fin1 rfl rfl ?_
   exact q_v (congrArg Value.bool (by simp only [validE, h26]; rfl))
  ·refine go 5 ?_
   refine o_buildSlice he he rfl rfl rfl rfl rfl rfl rfl (fun v27 => ?_)
   refine go 7 ?_
   refine o_alloc he rfl (fun g4 => ?_)
   refine go 1 ?_
   refine o_stw _ he rfl rfl rfl rfl rfl rfl ?_
   refine go 6 ?_
   refine o_st1 he rfl rfl rfl rfl ?_
   refine go 2 ?_
   refine o_st1 he rfl rfl rfl rfl ?_
   refine go 2 ?_
   refine o_st1 he rfl rfl rfl rfl ?_
   refine go 3 ?_
   refine c_cutx2 (Ix := (fun v3 xs => I)) (Lx := (fun v3 xs => [(3, v3), (4, .pointer (some ⟨g4, 0, none⟩))])) (Hx := (fun v3 xs => [.row v3 9 1 (namesOf e).length xs, .blk g4 49 (restOf e).cells])) (p := (fun v3 xs => Flat I xs (namesOf e) ∧ opBad e = false)) ?_ ?_
   ·refine go 13 ?_
    refine cb rfl (fun h34 p34 => ?_) (fun h34 p34 => ?_)
    ·refine go 4 ?_
     refine o_buildSlice he he rfl rfl rfl rfl rfl rfl rfl (fun v38 => ?_)
     refine go 3 ?_
     refine bring1 ?_
     refine o_st1 he rfl rfl rfl rfl ?_
     refine go 3 ?_
     refine bring2 ?_
     refine sx_drop ?_
     refine bring2 ?_
     refine sx_drop ?_
     refine bring1 ?_
     exact q_cutx2 (_) (_) ⟨(by simp only [namesOf, p26, p34, if_true, if_false]; first | exact .nil | exact .one rfl | exact .cons rfl (.one rfl)), (by simp [opBad, p26, p34, h26, h34] <;> assumption)⟩ sb (by simp only [namesOf, restOf, p26, p34, if_true, if_false]; rfl) rfl
    ·refine go 6 ?_
     refine cb rfl (fun h40 p40 => ?_) (fun h40 p40 => ?_)
     ·refine go 10 ?_
      refine cb rfl (fun h46 p46 => ?_) (fun h46 p46 => ?_)
      ·refine go 9 ?_
       refine fin1 rfl rfl ?_
       exact q_v (congrArg Value.bool (by simp [validE, opBad, p26, p34, p40, p46, h26, h34, h40, h46]))
      ·refine go 8 ?_
       refine o_buildSlice he he rfl rfl rfl rfl rfl rfl rfl (fun v51 => ?_)
       refine go 3 ?_
       refine bring1 ?_
       refine o_st1 he rfl rfl rfl rfl ?_
       refine go 2 ?_
       refine o_st1 he rfl rfl rfl rfl ?_
       refine go 3 ?_
       refine bring2 ?_
       refine sx_drop ?_
       refine bring2 ?_
       refine sx_drop ?_
       refine bring1 ?_
       exact q_cutx2 (_) (_) ⟨(by simp only [namesOf, p26, p34, p40, p46, if_true, if_false]; first | exact .nil | exact .one rfl | exact .cons rfl (.one rfl)), (by simp [opBad, p26, p34, p40, p46, h26, h34, h40, h46] <;> assumption)⟩ sb (by simp only [namesOf, restOf, p26, p34, p40, p46, if_true, if_false]; rfl) rfl
     ·refine go 6 ?_
      refine cb rfl (fun h54 p54 => ?_) (fun h54 p54 => ?_)
      ·refine go 2 ?_
       refine c_cut (I' := I) (L' := [(1, .pointer (some ⟨g1, 0, none⟩)), (3, v27), (4, .pointer (some ⟨g4, 0, none⟩)), (64, .bool (decide (e.value = nil8) || decide ((200 : Int) < (e.value.size : Nat))))]) (H' := [.row v27 9 1 0 [], .blk g1 49 e.cells, .blk g4 49 ({ e with op := 0, day := 0, part := nil8 } : Evt).cells]) ?_ ?_
       ·refine go 5 ?_
        refine sxb 59 rfl (fun h59 p59 => ?_) (fun h59 p59 => ?_)
        ·refine go 7 ?_
         refine bring2 ?_
         refine bring2 ?_
         exact q_cut ⟨rfl, rfl, rfl, (congrArg (fun b => some (Value.bool b)) (by simp only [h26, h34, h40, h54, h59, bS])), trivial⟩ rfl rfl
        ·refine go 7 ?_
         refine bring2 ?_
         refine bring2 ?_
         exact q_cut ⟨rfl, rfl, rfl, (congrArg (fun b => some (Value.bool b)) (by simp only [h26, h34, h40, h54, h59, bS])), trivial⟩ rfl rfl
       ·refine cb rfl (fun h64 p64 => ?_) (fun h64 p64 => ?_)
        ·refine go 9 ?_
         refine fin1 rfl rfl ?_
         exact q_v (congrArg Value.bool (by simp [validE, opBad, p54, h64]))
        ·refine go 6 ?_
         refine o_buildSlice he he rfl rfl rfl rfl rfl rfl rfl (fun v67 => ?_)
         refine go 3 ?_
         refine bring3 ?_
         refine o_st1 he rfl rfl rfl rfl ?_
         refine go 2 ?_
         refine o_st1 he rfl rfl rfl rfl ?_
         refine go 3 ?_
         refine bring2 ?_
         refine sx_drop ?_
         refine bring2 ?_
         refine sx_drop ?_
         refine bring1 ?_
         exact q_cutx2 (_) (_) ⟨(by simp only [namesOf, p26, p34, p40, p54, p64, if_true, if_false]; first | exact .nil | exact .one rfl | exact .cons rfl (.one rfl)), (by simp [opBad, p26, p34, p40, p54, p64, h64] <;> assumption)⟩ sb (by simp only [namesOf, restOf, p26, p34, p40, p54, p64, if_true, if_false]; rfl) rfl
      ·refine go 6 ?_
       refine cb rfl (fun h70 p70 => ?_) (fun h70 p70 => ?_)
       ·refine go 5 ?_
        refine o_callV (evIvls _ g1 8) rfl rfl ?_
        refine go 4 ?_
        refine bring1 ?_
        refine bring1 ?_
        refine bring2 ?_
        refine c_loop (α := Nat) 0 (fun i => I)
         (fun i => [(1, .pointer (some ⟨g1, 0, none⟩)), (3, v27), (4, .pointer (some ⟨g4, 0, none⟩)), (73, .agg (usePtrs g1 8).toArray), (74, .int .i64 (i : Int))])
         (fun i => [.blk g1 49 e.cells, .blk g4 49 ({ e with op := 0, day := 0, part := nil8 } : Evt).cells, .row v27 9 1 0 []])
         (fun i => i ≤ 3 ∧ useTo e.use i = true)
         (fun i => 3 - i) ⟨by omega, rfl⟩ rfl sb rfl ?_
        intro i ⟨hi, hn⟩
        refine go 6 ?_
        refine cb rfl (fun h75 p75 => ?_) (fun h75 p75 => ?_)
        ·have hlt : i < 3 := by omega
         refine go 6 ?_
         refine o_v rfl (v_vidx he he rfl rfl i rfl hlt (usePtrs_at g1 8 hlt)) ?_
         refine go 4 ?_
         refine c_cut (I' := I) (L' := [(1, .pointer (some ⟨g1, 0, none⟩)), (3, v27), (4, .pointer (some ⟨g4, 0, none⟩)), (73, .agg (usePtrs g1 8).toArray), (74, .int .i64 (i : Int)), (99, .bool (!ivlOk (useAt e.use i)))]) (H' := [.blk g1 49 e.cells, .blk g4 49 ({ e with op := 0, day := 0, part := nil8 } : Evt).cells, .row v27 9 1 0 []]) ?_ ?_
         ·refine d_startH T.mixed ?_
          refine d_tv 0 rfl rfl (by kernel_rfl) rfl (.refl _) rfl (v_move rfl) ?_
          refine d_tv 1 rfl rfl (by kernel_rfl) rfl (.refl _) rfl (v_nilCheck rfl) ?_
          refine d_tv 2 rfl rfl (by kernel_rfl) rfl (.refl _) rfl (v_fieldAddr he rfl) ?_
          refine d_tv 3 rfl rfl (by kernel_rfl) rfl (.refl _) rfl (v_ld m0 he rfl (use_low e hlt)) ?_
          refine d_tv 4 rfl rfl (by kernel_rfl) rfl (.refl _) rfl (v_lss rfl rfl) ?_
          refine d_tv 5 rfl rfl (by kernel_rfl) rfl (.refl _) rfl (v_move rfl) ?_
          refine sxb 82 rfl (fun h82 p82 => ?_) (fun h82 p82 => ?_)
          ·refine d_t 6 rfl rfl (by kernel_rfl) rfl (fun _ m => m.keeps (.refl _)) (y_no rfl rfl h82) ?_
           refine d_t 7 rfl rfl (by kernel_rfl) rfl (fun _ m => m.keeps (.refl _)) (y_no rfl rfl h82) ?_
           refine d_t 8 rfl rfl (by kernel_rfl) rfl (fun _ m => m.keeps (.refl _)) (y_no rfl rfl h82) ?_
           refine d_t 9 rfl rfl (by kernel_rfl) rfl (fun _ m => m.keeps (.refl _)) (y_no rfl rfl h82) ?_
           refine d_t 10 rfl rfl (by kernel_rfl) rfl (fun _ m => m.keeps (.refl _)) (y_no rfl rfl h82) ?_
           refine d_t 11 rfl rfl (by kernel_rfl) rfl (fun _ m => m.keeps (.refl _)) (y_no rfl rfl h82) ?_
           refine d_t 12 rfl rfl (by kernel_rfl) rfl (fun _ m => m.keeps (.refl _)) (y_no rfl rfl h82) ?_
           refine d_t 13 rfl rfl (by kernel_rfl) rfl (fun _ m => m.keeps (.refl _)) (y_no rfl rfl h82) ?_
           refine d_t 14 rfl rfl (by kernel_rfl) rfl (fun _ m => m.keeps (.refl _)) (y_no rfl rfl h82) ?_
           refine d_tv 15 rfl rfl (by kernel_rfl) rfl (.refl _) rfl (v_or_t h82 rfl) ?_
           refine d_tv 16 rfl rfl (by kernel_rfl) rfl (.refl _) rfl (v_move rfl) ?_
           refine d_t 17 rfl rfl (by kernel_rfl) rfl (fun _ m => m.keeps (.refl _)) (y_no rfl rfl rfl) ?_
           refine d_t 18 rfl rfl (by kernel_rfl) rfl (fun _ m => m.keeps (.refl _)) (y_no rfl rfl rfl) ?_
           refine d_t 19 rfl rfl (by kernel_rfl) rfl (fun _ m => m.keeps (.refl _)) (y_no rfl rfl rfl) ?_
           refine d_t 20 rfl rfl (by kernel_rfl) rfl (fun _ m => m.keeps (.refl _)) (y_no rfl rfl rfl) ?_
           refine d_t 21 rfl rfl (by kernel_rfl) rfl (fun _ m => m.keeps (.refl _)) (y_no rfl rfl rfl) ?_
           refine d_tv 22 rfl rfl (by kernel_rfl) rfl (.refl _) rfl (v_or_t rfl rfl) ?_
           refine d_done (by kernel_rfl) ?_
           refine go 1 ?_
           exact q_cut ⟨rfl, rfl, rfl, rfl, rfl, (congrArg (fun b => some (Value.bool b)) (by simp only [ivlOk, h75, h82, bS, Bool.not_not])), trivial⟩ rfl rfl
          ·refine d_t 6 rfl rfl (by kernel_rfl) rfl (fun _ m => m.keeps (.refl _)) (y_yes rfl rfl h82 (v_move rfl)) ?_
           refine d_t 7 rfl rfl (by kernel_rfl) rfl (fun _ m => m.keeps (.refl _)) (y_yes rfl rfl h82 (v_nilCheck rfl)) ?_
           refine d_t 8 rfl rfl (by kernel_rfl) rfl (fun _ m => m.keeps (.refl _)) (y_yes rfl rfl h82 (v_fieldAddr he rfl)) ?_
           refine d_t 9 rfl rfl (by kernel_rfl) rfl (fun _ m => m.keeps (.refl _)) (y_yes rfl rfl h82 (v_ld m0 he rfl (use_low e hlt))) ?_
           refine d_t 10 rfl rfl (by kernel_rfl) rfl (fun _ m => m.keeps (.refl _)) (y_yes rfl rfl h82 (v_move rfl)) ?_
           refine d_t 11 rfl rfl (by kernel_rfl) rfl (fun _ m => m.keeps (.refl _)) (y_yes rfl rfl h82 (v_nilCheck rfl)) ?_
           refine d_t 12 rfl rfl (by kernel_rfl) rfl (fun _ m => m.keeps (.refl _)) (y_yes rfl rfl h82 (v_fieldAddr he rfl)) ?_
           refine d_t 13 rfl rfl (by kernel_rfl) rfl (fun _ m => m.keeps (.refl _)) (y_yes rfl rfl h82 (v_ld m0 he rfl (use_high e hlt))) ?_
           refine d_t 14 rfl rfl (by kernel_rfl) rfl (fun _ m => m.keeps (.refl _)) (y_yes rfl rfl h82 (v_gtr rfl rfl)) ?_
           refine d_tv 15 rfl rfl (by kernel_rfl) rfl (.refl _) rfl (v_or_f h82 rfl rfl) ?_
           refine d_tv 16 rfl rfl (by kernel_rfl) rfl (.refl _) rfl (v_move rfl) ?_
           refine sxb 93 rfl (fun h93 p93 => ?_) (fun h93 p93 => ?_)
           ·refine d_t 17 rfl rfl (by kernel_rfl) rfl (fun _ m => m.keeps (.refl _)) (y_no rfl rfl h93) ?_
            refine d_t 18 rfl rfl (by kernel_rfl) rfl (fun _ m => m.keeps (.refl _)) (y_no rfl rfl h93) ?_
            refine d_t 19 rfl rfl (by kernel_rfl) rfl (fun _ m => m.keeps (.refl _)) (y_no rfl rfl h93) ?_
            refine d_t 20 rfl rfl (by kernel_rfl) rfl (fun _ m => m.keeps (.refl _)) (y_no rfl rfl h93) ?_
            refine d_t 21 rfl rfl (by kernel_rfl) rfl (fun _ m => m.keeps (.refl _)) (y_no rfl rfl h93) ?_
            refine d_tv 22 rfl rfl (by kernel_rfl) rfl (.refl _) rfl (v_or_t h93 rfl) ?_
            refine d_done (by kernel_rfl) ?_
            refine go 1 ?_
            exact q_cut ⟨rfl, rfl, rfl, rfl, rfl, (congrArg (fun b => some (Value.bool b)) (by simp only [ivlOk, h75, h82, h93, bS, Bool.not_not])), trivial⟩ rfl rfl
           ·refine d_t 17 rfl rfl (by kernel_rfl) rfl (fun _ m => m.keeps (.refl _)) (y_yes rfl rfl h93 (v_move rfl)) ?_
            refine d_t 18 rfl rfl (by kernel_rfl) rfl (fun _ m => m.keeps (.refl _)) (y_yes rfl rfl h93 (v_nilCheck rfl)) ?_
            refine d_t 19 rfl rfl (by kernel_rfl) rfl (fun _ m => m.keeps (.refl _)) (y_yes rfl rfl h93 (v_fieldAddr he rfl)) ?_
            refine d_t 20 rfl rfl (by kernel_rfl) rfl (fun _ m => m.keeps (.refl _)) (y_yes rfl rfl h93 (v_ld m0 he rfl (use_high e hlt))) ?_
            refine d_t 21 rfl rfl (by kernel_rfl) rfl (fun _ m => m.keeps (.refl _)) (y_yes rfl rfl h93 (v_gtr rfl rfl)) ?_
            refine d_tv 22 rfl rfl (by kernel_rfl) rfl (.refl _) rfl (v_or_f h93 rfl rfl) ?_
            refine d_done (by kernel_rfl) ?_
            refine go 1 ?_
            exact q_cut ⟨rfl, rfl, rfl, rfl, rfl, (congrArg (fun b => some (Value.bool b)) (by simp only [ivlOk, h75, h82, h93, bS, Bool.not_not])), trivial⟩ rfl rfl
         ·refine cb rfl (fun h99 p99 => ?_) (fun h99 p99 => ?_)
          ·refine go 13 ?_
           refine fin1 rfl rfl ?_
           exact q_v (congrArg Value.bool (by simp [validE, opBad, p70, use_not hlt (by simpa using h99)]))
          ·refine go 8 ?_
           exact q_next (i + 1) ⟨by omega, use_succ hn (by simpa using h99)⟩ (by omega) rfl sb rfl
        ·have hU : useTo e.use 3 = true := (show i = 3 by omega) ▸ hn
         refine go 7 ?_
         refine o_val rfl (v_build (pl := [(0, 2), (2, 2), (4, 2)]) he he rfl rfl) ?_
         refine go 2 ?_
         refine bring1 ?_
         refine o_st _ _ he rfl rfl rfl rfl rfl rfl rfl ?_
         refine go 3 ?_
         refine bring1 ?_
         refine sx_drop ?_
         refine bring1 ?_
         exact q_cutx2 (_) (_) ⟨(by simp only [namesOf, p26, p34, p40, p54, p70, p75, if_true, if_false]; first | exact .nil | exact .one rfl | exact .cons rfl (.one rfl)), (by simp [opBad, p26, p34, p40, p54, p70, p75, h75] <;> assumption)⟩ sb (by simp only [namesOf, restOf, p26, p34, p40, p54, p70, p75, if_true, if_false]; rfl) rfl
       ·refine go 3 ?_
        refine bring2 ?_
        refine sx_drop ?_
        refine bring1 ?_
        exact q_cutx2 (_) (_) ⟨(by simp only [namesOf, p26, p34, p40, p54, p70, if_true, if_false]; first | exact .nil | exact .one rfl | exact .cons rfl (.one rfl)), (by simp [opBad, p26, p34, p40, p54, p70, h26, h34, h40, h54, h70] <;> assumption)⟩ sb (by simp only [namesOf, restOf, p26, p34, p40, p54, p70, if_true, if_false]; rfl) rfl
   ·intro v3 xs ⟨hF, hO⟩
    refine go 4 ?_
    refine o_val rfl (v_build (pl := [(0, 1), (1, 1), (2, 1), (3, 1), (4, 1), (5, 1), (6, 1), (7, 1), (8, 6)]) he he rfl rfl) ?_
    refine o_v rfl (v_steql T.eqg_49 (eqS_Evt (restOf e) zEvt) rfl rfl) ?_
    refine go 1 ?_
    refine sxb 106 rfl (fun h106 p106 => ?_) (fun h106 p106 => ?_)
    ·refine go 2 ?_
     refine o_yes rfl rfl h106 (o_lendV m0 rfl rfl (hF) (fun I2 hI2 hR => containsFunc_string I2 _ _ hR _ [] (fun s => !nameOk s) (fun x hx vs hr => by cases hr; exact evValid1 I2 x (names_sm hs hx))) rfl rfl ?_)
     refine go 6 ?_
     refine fin1 rfl rfl ?_
     exact q_v (congrArg Value.bool (by simp only [validE, h26, hO, h106, bS]))
    ·refine go 8 ?_
     refine fin1 rfl rfl ?_
     exact q_v (congrArg Value.bool (by simp only [validE, h26, hO, h106, bS]))


theorem refShort (I : IMap) (e : Evt) :
    FnV Tryz.prog 41 #[.agg e.cells.toArray] I (.bool (shortE e)) := by
 refine enter Tryz.func41 Tryz.call41 rfl Tryz.ntmps41 rfl (fun w0 => ?_)
 refine go 3 ?_
 refine o_box _ rfl rfl rfl (fun g1 => ?_)
 refine go 10 ?_
 refine sxb 7 rfl (fun h7 p7 => ?_) (fun h7 p7 => ?_)
 ·refine go 6 ?_
  refine sxb 13 rfl (fun h13 p13 => ?_) (fun h13 p13 => ?_)
  ·refine go 6 ?_
   refine sxb 19 rfl (fun h19 p19 => ?_) (fun h19 p19 => ?_)
   ·refine go 6 ?_
    refine sxb 25 rfl (fun h25 p25 => ?_) (fun h25 p25 => ?_)
    ·refine go 6 ?_
     refine sxb 31 rfl (fun h31 p31 => ?_) (fun h31 p31 => ?_)
     ·refine go 9 ?_
      refine fin1 rfl rfl ?_
      exact q_v (congrArg Value.bool (by simp only [shortE, h7, h13, h19, h25, h31, bS]))
     ·refine go 9 ?_
      refine fin1 rfl rfl ?_
      exact q_v (congrArg Value.bool (by simp only [shortE, h7, h13, h19, h25, h31, bS]))
    ·refine go 15 ?_
     refine fin1 rfl rfl ?_
     exact q_v (congrArg Value.bool (by simp only [shortE, h7, h13, h19, h25, bS]))
   ·refine go 21 ?_
    refine fin1 rfl rfl ?_
    exact q_v (congrArg Value.bool (by simp only [shortE, h7, h13, h19, bS]))
  ·refine go 27 ?_
   refine fin1 rfl rfl ?_
   exact q_v (congrArg Value.bool (by simp only [shortE, h7, h13, bS]))
 ·refine go 33 ?_
  refine fin1 rfl rfl ?_
  exact q_v (congrArg Value.bool (by simp only [shortE, h7, bS]))

theorem refFewE (I : IMap) (v : Value) (l : List Evt) (hv : RdS I v l) (n : Int) :
    FnV Tryz.prog 25 #[v, .int .i64 n] I (.bool (fewE l n)) := by
 obtain ⟨A, c0, rfl, hA, hc, hm⟩ := hv
 refine enter Tryz.func25 Tryz.call25 rfl Tryz.ntmps25 rfl (fun w0 => ?_)
 refine go 12 ?_
 refine c_loop (α := Nat) 0 (fun i => I)
  (fun i => [(0, .slice A l.length c0), (1, .int .i64 n), (5, .int .i64 (i : Int))])
  (fun i => [])
  (fun i => i ≤ l.length ∧ allP (fun _ e => shortE e) l i = true)
  (fun i => l.length - i) ⟨Nat.zero_le _, rfl⟩ rfl sb rfl ?_
 intro i ⟨hi, hn⟩
 refine go 8 ?_
 refine sxb 10 rfl (fun h10 p10 => ?_) (fun h10 p10 => ?_)
 ·have hlt : i < l.length := by omega
  refine go 6 ?_
  refine cb rfl (fun h14 p14 => ?_) (fun h14 p14 => ?_)
  ·have hlt : i < l.length := by omega
   refine go 8 ?_
   obtain ⟨b19, o19, w19, e19, c19, r19⟩ := RdA.at_ hA (i := i) hlt
   obtain rfl := r19
   refine o_v rfl (v_idx he rfl rfl e19 (i) (by omega) hlt) ?_
   refine o_v rfl (v_ldIa he rfl c19 rfl) ?_
   refine go 1 ?_
   refine o_callV (refShort _ _) rfl rfl ?_
   refine go 3 ?_
   refine cb rfl (fun h22 p22 => ?_) (fun h22 p22 => ?_)
   ·refine go 11 ?_
    refine fin1 rfl rfl ?_
    exact q_v (congrArg Value.bool (by simp only [fewE, allP_not (f := fun _ e => shortE e) hlt (by simpa using h22), bS]))
   ·refine go 9 ?_
    exact q_next (i + 1) ⟨by omega, allP_succ hn hlt (by simpa using h22)⟩ (by omega) rfl sb rfl
  ·refine go 15 ?_
   refine fin1 rfl rfl ?_
   exact q_v (congrArg Value.bool (by rw [fewE, show decide (((l.length : Nat) : Int) ≤ n) = false from decide_eq_false (by omega)]; simp))
 ·refine go 6 ?_
  refine c_false rfl ?_
  refine go 15 ?_
  refine fin1 rfl rfl ?_
  have e : i = l.length := (by omega)
  subst e
  exact q_v (congrArg Value.bool (by simp only [fewE, hn, bS]))


end Go.Proofs.YtdkjmaoelojpeaaGreat

/- Walks, printed by a program out of the code of the functions: each theorem is a contract of one function. -/
namespace Go.Proofs.YtdkjmaoelojpeaaGreat
open Go Go.Sx
set_option linter.all false
set_option maxRecDepth 20000
set_option maxHeartbeats 4000000
instance T.by_184 : Has (bytesK Tryz.prog 184) ([.string ⟨#[]⟩, .string ⟨#[]⟩], 2, 32) := ⟨by kernel_rfl⟩
instance T.by_49 : Has (bytesK Tryz.prog 49) ([.int .i64 0, .int .i64 0, .string ⟨#[]⟩, .string ⟨#[]⟩, .string ⟨#[]⟩, .string ⟨#[]⟩, .string ⟨#[]⟩, .string ⟨#[]⟩, .int .i64 0, .int .i64 0, .int .i64 0, .int .i64 0, .int .i64 0, .int .i64 0], 14, 160) := ⟨by kernel_rfl⟩
instance T.by_89 : Has (bytesK Tryz.prog 89) ([.string ⟨#[]⟩, .string ⟨#[]⟩, .string ⟨#[]⟩, .string ⟨#[]⟩, .int .i64 0, .int .i64 0, .bool false, .slice none 0 0, .int .i64 0, .int .i64 0, .int .i64 0, .int .i64 0, .int .i64 0, .int .i64 0], 14, 160) := ⟨by kernel_rfl⟩
instance T.elt_85 : Has (eltK Tryz.prog 85) (184, 2) := ⟨by kernel_rfl⟩
instance T.fld_171_0 : Has (fldK Tryz.prog 171 0) (0, false, 1) := ⟨by kernel_rfl⟩
instance T.fld_171_1 : Has (fldK Tryz.prog 171 1) (1, false, 1) := ⟨by kernel_rfl⟩
instance T.fld_184_0 : Has (fldK Tryz.prog 184 0) (0, false, 1) := ⟨by kernel_rfl⟩
instance T.fld_184_1 : Has (fldK Tryz.prog 184 1) (1, false, 1) := ⟨by kernel_rfl⟩
instance T.fld_81_0 : Has (fldK Tryz.prog 81 0) (0, false, 1) := ⟨by kernel_rfl⟩
instance T.fld_87_0 : Has (fldK Tryz.prog 87 0) (0, true, 2) := ⟨by kernel_rfl⟩
instance T.fld_87_1 : Has (fldK Tryz.prog 87 1) (2, true, 2) := ⟨by kernel_rfl⟩
instance T.fld_87_2 : Has (fldK Tryz.prog 87 2) (4, true, 2) := ⟨by kernel_rfl⟩
instance T.fld_89_0 : Has (fldK Tryz.prog 89 0) (0, false, 1) := ⟨by kernel_rfl⟩
instance T.fld_89_1 : Has (fldK Tryz.prog 89 1) (1, false, 1) := ⟨by kernel_rfl⟩
instance T.fld_89_2 : Has (fldK Tryz.prog 89 2) (2, false, 1) := ⟨by kernel_rfl⟩
instance T.fld_89_3 : Has (fldK Tryz.prog 89 3) (3, false, 1) := ⟨by kernel_rfl⟩
instance T.fld_89_4 : Has (fldK Tryz.prog 89 4) (4, false, 1) := ⟨by kernel_rfl⟩
instance T.fld_89_5 : Has (fldK Tryz.prog 89 5) (5, false, 1) := ⟨by kernel_rfl⟩
instance T.fld_89_6 : Has (fldK Tryz.prog 89 6) (6, false, 1) := ⟨by kernel_rfl⟩
instance T.fld_89_7 : Has (fldK Tryz.prog 89 7) (7, false, 1) := ⟨by kernel_rfl⟩
instance T.fld_89_8 : Has (fldK Tryz.prog 89 8) (8, true, 6) := ⟨by kernel_rfl⟩
instance T.pl_171 : Has (plK Tryz.prog 171) [(0, 1), (1, 1)] := ⟨by kernel_rfl⟩
instance T.pl_196 : Has (plK Tryz.prog 196) [(0, 1), (1, 1)] := ⟨by kernel_rfl⟩
instance T.pl_89 : Has (plK Tryz.prog 89) [(0, 1), (1, 1), (2, 1), (3, 1), (4, 1), (5, 1), (6, 1), (7, 1), (8, 6)] := ⟨by kernel_rfl⟩
theorem T.sp_196 : strPairK Tryz.prog 196 = true := by kernel_rfl
instance T.ty_169 : Has (tyK Tryz.prog 169) (false, 1) := ⟨by kernel_rfl⟩
instance T.ty_171 : Has (tyK Tryz.prog 171) (true, 2) := ⟨by kernel_rfl⟩
instance T.ty_174 : Has (tyK Tryz.prog 174) (false, 1) := ⟨by kernel_rfl⟩
instance T.ty_184 : Has (tyK Tryz.prog 184) (true, 2) := ⟨by kernel_rfl⟩
instance T.ty_185 : Has (tyK Tryz.prog 185) (false, 1) := ⟨by kernel_rfl⟩
instance T.ty_196 : Has (tyK Tryz.prog 196) (true, 2) := ⟨by kernel_rfl⟩
instance T.ty_45 : Has (tyK Tryz.prog 45) (true, 2) := ⟨by kernel_rfl⟩
instance T.ty_79 : Has (tyK Tryz.prog 79) (false, 1) := ⟨by kernel_rfl⟩
instance T.ty_81 : Has (tyK Tryz.prog 81) (true, 1) := ⟨by kernel_rfl⟩
instance T.ty_85 : Has (tyK Tryz.prog 85) (false, 1) := ⟨by kernel_rfl⟩
instance T.und_107 : Has (Tryz.prog.underlying 107) (.int .u64) := ⟨by kernel_rfl⟩
instance T.und_169 : Has (Tryz.prog.underlying 169) (.map 9 3) := ⟨by kernel_rfl⟩
instance T.und_194 : Has (Tryz.prog.underlying 194) (.map 196 4) := ⟨by kernel_rfl⟩
instance T.und_4 : Has (Tryz.prog.underlying 4) (.bool) := ⟨by kernel_rfl⟩
instance T.und_85 : Has (Tryz.prog.underlying 85) (.slice 184) := ⟨by kernel_rfl⟩
instance T.zero_171 : Has (zeroK Tryz.prog 171) [.slice none 0 0, .map none] := ⟨by kernel_rfl⟩
instance T.zero_184 : Has (zeroK Tryz.prog 184) [.string ⟨#[]⟩, .string ⟨#[]⟩] := ⟨by kernel_rfl⟩
instance T.zero_196 : Has (zeroK Tryz.prog 196) [.string ⟨#[]⟩, .string ⟨#[]⟩] := ⟨by kernel_rfl⟩
instance T.zero_89 : Has (zeroK Tryz.prog 89) [.string ⟨#[]⟩, .string ⟨#[]⟩, .string ⟨#[]⟩, .string ⟨#[]⟩, .int .i64 0, .int .i64 0, .bool false, .slice none 0 0, .int .i64 0, .int .i64 0, .int .i64 0, .int .i64 0, .int .i64 0, .int .i64 0] := ⟨by kernel_rfl⟩
instance T.zv_3 : Has (zvK Tryz.prog 3) (.int .i64 0) := ⟨by kernel_rfl⟩
theorem flOf (I : IMap) (v : Value) (l : List Part) (hv : RdS I v l) :
    FnX Tryz.prog 128 #[.agg #[v]] I [] (fun u r => ∃ g kvs, u = .agg #[v, .map (some g)] ∧ r = .mp g (emap Value.string kvs) ∧ Ix kvs l ∧ (kvs.map Prod.fst).Nodup) := by
 have hv0 := hv
 obtain ⟨A, c0, rfl, hA, hc, hm⟩ := hv
 refine enter Tryz.func128 Tryz.call128 rfl Tryz.ntmps128 rfl (fun w0 => ?_)
 refine go 3 ?_
 refine o_box _ rfl rfl rfl (fun g1 => ?_)
 refine go 1 ?_
 refine o_alloc he rfl (fun g2 => ?_)
 refine go 7 ?_
 refine o_map0 (Value.string) he rfl (fun r10 => ?_)
 refine go 1 ?_
 refine o_val rfl (v_build (pl := [(0, 1), (1, 1)]) he he rfl rfl) ?_
 refine go 1 ?_
 refine o_alloc he rfl (fun g3 => ?_)
 refine go 1 ?_
 refine o_stw _ he rfl rfl rfl rfl rfl rfl ?_
 refine go 12 ?_
 refine bring3 ?_
 refine bring3 ?_
 refine bring2 ?_
 refine bring3 ?_
 refine c_loop2 ((0 : Nat)) ([]) (fun i kvs => I)
  (fun i kvs => [(1, .pointer (some ⟨g1, 0, none⟩)), (2, .pointer (some ⟨g2, 0, none⟩)), (3, .pointer (some ⟨g3, 0, none⟩)), (13, .slice A l.length c0), (14, .int .i64 (l.length : Int)), (15, .int .i64 (i : Int))])
  (fun i kvs => [.mp r10 (emap Value.string kvs), .blk g3 171 [.slice A l.length c0, .map (some r10)], .blk g2 171 [.slice none 0 0, .map none], .blk g1 81 [.slice A l.length c0]])
  (fun i kvs => i ≤ l.length ∧ Ix kvs (l.take i) ∧ (kvs.map Prod.fst).Nodup)
  (fun i kvs => l.length - i) ⟨Nat.zero_le _, Ix.nil, List.nodup_nil⟩ rfl sb rfl ?_
 intro i kvs ⟨hi, hx, hnd⟩
 refine go 6 ?_
 refine cb rfl (fun h16 p16 => ?_) (fun h16 p16 => ?_)
 ·have hlt : i < l.length := by omega
  refine go 7 ?_
  obtain ⟨b18, o18, w18, e18, c18, r18⟩ := RdA.at_ hA (i := i) hlt
  obtain ⟨q18, rfl, B18, d18, rfl, hB18, hd18, hm18⟩ := r18
  refine o_v rfl (v_idx he rfl rfl e18 (i) (by omega) hlt) ?_
  refine o_v rfl (v_ldIa he rfl c18 rfl) ?_
  refine go 1 ?_
  refine o_alloc he rfl (fun g5 => ?_)
  refine go 2 ?_
  refine o_stw _ he rfl rfl rfl rfl rfl rfl ?_
  refine go 8 ?_
  refine o_v rfl (v_get2 m1 (key_string he) he he (l[i].name) rfl rfl rfl rfl) ?_
  refine go 13 ?_
  refine cb rfl (fun h29 p29 => ?_) (fun h29 p29 => ?_)
  ·refine go 7 ?_
   refine bring1 ?_
   refine o_mapPut (_) (key_string he) he (l[i].name) rfl rfl rfl (rfl) ?_
   refine go 8 ?_
   refine bring1 ?_
   refine sx_drop ?_
   exact q_next2 (i + 1) (_) ⟨by omega, by rw [← take_succ_of hlt]; exact hx.put (by rw [List.length_take]; omega) (by simpa using h29), mput_nodup hnd⟩ (by omega) rfl sb rfl
  ·refine go 8 ?_
   refine sx_drop ?_
   exact q_next2 (i + 1) (_) ⟨by omega, by rw [← take_succ_of hlt]; exact hx.skip (by simpa using h29), hnd⟩ (by omega) rfl sb rfl
 ·refine go 9 ?_
  refine bring2 ?_
  refine o_stw _ he rfl rfl rfl rfl rfl rfl ?_
  refine go 3 ?_
  refine fin1 rfl ⟨_, _, _, rfl, m0, .inr ⟨_, he, rfl, rfl⟩⟩ ?_
  refine sx_drop ?_
  refine bring1 ?_
  refine sx_drop ?_
  refine bring1 ?_
  refine sx_drop ?_
  have e : i = l.length := (by omega)
  subst e
  rw [List.take_length] at hx
  exact q_x ⟨_, _, rfl, rfl, hx, hnd⟩

theorem flGet (I : IMap) (v : Value) (l : List Part) (hv : RdS I v l) (r : Nat) (kvs : List (ByteArray × Value)) (hx : Ix kvs l) (s : ByteArray) :
    FnK Tryz.prog 133 #[.agg #[v, .map (some r)], .string s] I (.mp r (emap Value.string kvs)) (PartIs I (findP l s)) := by
 obtain ⟨z, b, hz, hb, hfs, hfn⟩ := hx.look s
 obtain ⟨A, c0, rfl, hA, hc, hm⟩ := hv
 refine enter Tryz.func133 Tryz.call133 rfl Tryz.ntmps133 rfl (fun w0 => ?_)
 refine go 3 ?_
 refine o_box _ rfl rfl rfl (fun g2 => ?_)
 refine go 1 ?_
 refine o_alloc he rfl (fun g4 => ?_)
 refine go 8 ?_
 refine o_v rfl (v_get2 m2 (key_string he) he he (s) rfl rfl hz hb) ?_
 refine go 14 ?_
 refine cb rfl (fun h16 p16 => ?_) (fun h16 p16 => ?_)
 ·have hN := hfn (by simpa using h16)
  refine go 3 ?_
  refine o_val rfl (v_build (pl := [(0, 1), (1, 1), (2, 1), (3, 1), (4, 1), (5, 1), (6, 1), (7, 1), (8, 6)]) he he rfl rfl) ?_
  refine go 1 ?_
  refine o_stw _ he rfl rfl rfl rfl rfl rfl ?_
  refine go 5 ?_
  refine fin2 rfl ⟨_, _, _, rfl, m0, .inr ⟨_, he, rfl, rfl⟩⟩ rfl ?_
  refine sx_drop ?_
  refine sx_drop ?_
  exact q_k (PartIs.none hN)
 ·obtain ⟨i, hi, rfl, hF⟩ := hfs (by simpa using h16)
  refine go 7 ?_
  obtain ⟨b21, o21, w21, e21, c21, r21⟩ := RdA.at_ hA (i := i) hi
  obtain ⟨q21, rfl, B21, d21, rfl, hB21, hd21, hm21⟩ := r21
  refine o_v rfl (v_idx he rfl rfl e21 (i) rfl hi) ?_
  refine o_v rfl (v_ldIa he rfl c21 rfl) ?_
  refine go 1 ?_
  refine o_stw _ he rfl rfl rfl rfl rfl rfl ?_
  refine go 4 ?_
  refine fin2 rfl ⟨_, _, _, rfl, m0, .inr ⟨_, he, rfl, rfl⟩⟩ rfl ?_
  refine sx_drop ?_
  refine sx_drop ?_
  exact q_k (PartIs.of hF ⟨_, rfl, B21, d21, rfl, hB21, hd21, hm21⟩)

theorem ordered_Part (I : IMap) (v : Value) (l : List Part) (hv : RdS I v l) (f : FuncId) (nm : Part → ByteArray) (hp : ∀ x vs, Enc.rd I vs x → FnV Tryz.prog f #[.agg vs.toArray] I (.string (nm x))) :
    FnV Tryz.prog 151 #[v, .func (.func f) #[] #[]] I (.bool (ordF nm l)) := by
 obtain ⟨A, c0, rfl, hA, hc, hm⟩ := hv
 refine enter Tryz.func151 Tryz.call151 rfl Tryz.ntmps151 rfl (fun w0 => ?_)
 refine go 12 ?_
 refine c_loop (α := Nat) 1 (fun i => I)
  (fun i => [(0, .slice A l.length c0), (1, .func (.func f) #[] #[]), (5, .int .i64 (i : Int))])
  (fun i => [])
  (fun i => 1 ≤ i ∧ (i ≤ l.length ∨ i = 1) ∧ allP (ordAt nm) l i = true)
  (fun i => l.length - i) ⟨by omega, .inr rfl, ord_start (nm := nm) l⟩ rfl sb rfl ?_
 intro i ⟨h1, hi, hn⟩
 refine go 9 ?_
 refine cb rfl (fun h9 p9 => ?_) (fun h9 p9 => ?_)
 ·have hlt : i < l.length := by omega
  refine go 5 ?_
  refine d_startH T.mixed ?_
  refine d_tv 0 rfl rfl (by kernel_rfl) rfl .slnil rfl (v_move rfl) ?_
  refine d_tv 1 rfl rfl (by kernel_rfl) rfl .slnil rfl (v_move rfl) ?_
  refine d_tv 2 rfl rfl (by kernel_rfl) rfl .slnil rfl (v_move rfl) ?_
  refine d_tv 3 rfl rfl (by kernel_rfl) rfl .slnil rfl (v_sub rfl rfl ⟨by omega, by omega⟩) ?_
  obtain ⟨b16, o16, w16, e16, c16, r16⟩ := RdA.at_ hA (i := i - 1) (by omega)
  refine d_tv 4 rfl rfl (by kernel_rfl) rfl .slnil rfl (v_idx he rfl rfl e16 (i - 1) (by omega) (by omega)) ?_
  refine d_tv 5 rfl rfl (by kernel_rfl) rfl .slnil rfl (v_ldIa he rfl c16 (Enc.len r16)) ?_
  refine d_tv 7 rfl rfl (by kernel_rfl) rfl .slnil rfl (v_move rfl) ?_
  refine d_tv 8 rfl rfl (by kernel_rfl) rfl .slnil rfl (v_move rfl) ?_
  refine d_tv 9 rfl rfl (by kernel_rfl) rfl .slnil rfl (v_move rfl) ?_
  obtain ⟨b22, o22, w22, e22, c22, r22⟩ := RdA.at_ hA (i := i) hlt
  refine d_tv 10 rfl rfl (by kernel_rfl) rfl .slnil rfl (v_idx he rfl rfl e22 (i) (by omega) hlt) ?_
  refine d_tv 11 rfl rfl (by kernel_rfl) rfl .slnil rfl (v_ldIa he rfl c22 (Enc.len r22)) ?_
  refine d_one 6 (by kernel_rfl) rfl ?_
  refine o_callV (hp _ _ r16) rfl rfl ?_
  refine d_on (fun _ m => m.keeps .slnil) ?_
  refine d_one 12 (by kernel_rfl) rfl ?_
  refine o_callV (hp _ _ r22) rfl rfl ?_
  refine d_on (fun _ m => m.keeps .slnil) ?_
  refine d_tv 13 rfl rfl (by kernel_rfl) rfl .slnil rfl (v_sgeq rfl rfl) ?_
  refine d_done (by kernel_rfl) ?_
  refine go 1 ?_
  refine cb rfl (fun h25 p25 => ?_) (fun h25 p25 => ?_)
  ·refine go 11 ?_
   refine fin1 rfl rfl ?_
   exact q_v (congrArg Value.bool (ord_not h1 hlt (by simpa using h25)).symm)
  ·refine go 9 ?_
   exact q_next (i + 1) ⟨by omega, .inl (by omega), ord_succ h1 hlt hn (by simpa using h25)⟩ (by omega) rfl sb rfl
 ·refine go 11 ?_
  refine fin1 rfl rfl ?_
  exact q_v (congrArg Value.bool (show ordF nm l = true from allP_le (by omega) hn).symm)

theorem ordered_Prp (I : IMap) (v : Value) (l : List Prp) (hv : RdS I v l) (f : FuncId) (nm : Prp → ByteArray) (hp : ∀ x vs, Enc.rd I vs x → FnV Tryz.prog f #[.agg vs.toArray] I (.string (nm x))) :
    FnV Tryz.prog 179 #[v, .func (.func f) #[] #[]] I (.bool (ordF nm l)) := by
 obtain ⟨A, c0, rfl, hA, hc, hm⟩ := hv
 refine enter Tryz.func179 Tryz.call179 rfl Tryz.ntmps179 rfl (fun w0 => ?_)
 refine go 12 ?_
 refine c_loop (α := Nat) 1 (fun i => I)
  (fun i => [(0, .slice A l.length c0), (1, .func (.func f) #[] #[]), (5, .int .i64 (i : Int))])
  (fun i => [])
  (fun i => 1 ≤ i ∧ (i ≤ l.length ∨ i = 1) ∧ allP (ordAt nm) l i = true)
  (fun i => l.length - i) ⟨by omega, .inr rfl, ord_start (nm := nm) l⟩ rfl sb rfl ?_
 intro i ⟨h1, hi, hn⟩
 refine go 9 ?_
 refine cb rfl (fun h9 p9 => ?_) (fun h9 p9 => ?_)
 ·have hlt : i < l.length := by omega
  refine go 5 ?_
  refine d_startH T.mixed ?_
  refine d_tv 0 rfl rfl (by kernel_rfl) rfl .slnil rfl (v_move rfl) ?_
  refine d_tv 1 rfl rfl (by kernel_rfl) rfl .slnil rfl (v_move rfl) ?_
  refine d_tv 2 rfl rfl (by kernel_rfl) rfl .slnil rfl (v_move rfl) ?_
  refine d_tv 3 rfl rfl (by kernel_rfl) rfl .slnil rfl (v_sub rfl rfl ⟨by omega, by omega⟩) ?_
  obtain ⟨b16, o16, w16, e16, c16, r16⟩ := RdA.at_ hA (i := i - 1) (by omega)
  refine d_tv 4 rfl rfl (by kernel_rfl) rfl .slnil rfl (v_idx he rfl rfl e16 (i - 1) (by omega) (by omega)) ?_
  refine d_tv 5 rfl rfl (by kernel_rfl) rfl .slnil rfl (v_ldIa he rfl c16 (Enc.len r16)) ?_
  refine d_tv 7 rfl rfl (by kernel_rfl) rfl .slnil rfl (v_move rfl) ?_
  refine d_tv 8 rfl rfl (by kernel_rfl) rfl .slnil rfl (v_move rfl) ?_
  refine d_tv 9 rfl rfl (by kernel_rfl) rfl .slnil rfl (v_move rfl) ?_
  obtain ⟨b22, o22, w22, e22, c22, r22⟩ := RdA.at_ hA (i := i) hlt
  refine d_tv 10 rfl rfl (by kernel_rfl) rfl .slnil rfl (v_idx he rfl rfl e22 (i) (by omega) hlt) ?_
  refine d_tv 11 rfl rfl (by kernel_rfl) rfl .slnil rfl (v_ldIa he rfl c22 (Enc.len r22)) ?_
  refine d_one 6 (by kernel_rfl) rfl ?_
  refine o_callV (hp _ _ r16) rfl rfl ?_
  refine d_on (fun _ m => m.keeps .slnil) ?_
  refine d_one 12 (by kernel_rfl) rfl ?_
  refine o_callV (hp _ _ r22) rfl rfl ?_
  refine d_on (fun _ m => m.keeps .slnil) ?_
  refine d_tv 13 rfl rfl (by kernel_rfl) rfl .slnil rfl (v_sgeq rfl rfl) ?_
  refine d_done (by kernel_rfl) ?_
  refine go 1 ?_
  refine cb rfl (fun h25 p25 => ?_) (fun h25 p25 => ?_)
  ·refine go 11 ?_
   refine fin1 rfl rfl ?_
   exact q_v (congrArg Value.bool (ord_not h1 hlt (by simpa using h25)).symm)
  ·refine go 9 ?_
   exact q_next (i + 1) ⟨by omega, .inl (by omega), ord_succ h1 hlt hn (by simpa using h25)⟩ (by omega) rfl sb rfl
 ·refine go 11 ?_
  refine fin1 rfl rfl ?_
  exact q_v (congrArg Value.bool (show ordF nm l = true from allP_le (by omega) hn).symm)

theorem right1 (I : IMap) (x : Ivl) :
    FnV Tryz.prog 177 #[.agg x.cells.toArray] I (.bool (lifeOk x)) := by
 refine enter Tryz.func177 Tryz.call177 rfl Tryz.ntmps177 rfl (fun w0 => ?_)
 refine go 3 ?_
 refine o_box _ rfl rfl rfl (fun g1 => ?_)
 refine go 9 ?_
 refine sxb 6 rfl (fun h6 p6 => ?_) (fun h6 p6 => ?_)
 ·refine go 7 ?_
  refine sxb 13 rfl (fun h13 p13 => ?_) (fun h13 p13 => ?_)
  ·refine go 8 ?_
   refine fin1 rfl rfl ?_
   exact q_v (congrArg Value.bool (by simp only [lifeOk, h6, h13, bS]))
  ·refine go 8 ?_
   refine fin1 rfl rfl ?_
   exact q_v (congrArg Value.bool (by simp only [lifeOk, h6, h13, bS]))
 ·refine go 15 ?_
  refine fin1 rfl rfl ?_
  exact q_v (congrArg Value.bool (by simp only [lifeOk, h6, bS]))

theorem right2 (I : IMap) (x : Prp) (hs : Sm x.key) :
    FnV Tryz.prog 178 #[.agg x.cells.toArray] I (.bool (propOk x)) := by
 refine enter Tryz.func178 Tryz.call178 rfl Tryz.ntmps178 rfl (fun w0 => ?_)
 refine go 3 ?_
 refine o_box _ rfl rfl rfl (fun g1 => ?_)
 refine go 8 ?_
 refine o_callV (lexName _ _ hs) rfl rfl ?_
 refine go 1 ?_
 refine sxb 6 rfl (fun h6 p6 => ?_) (fun h6 p6 => ?_)
 ·refine go 5 ?_
  refine sxb 11 rfl (fun h11 p11 => ?_) (fun h11 p11 => ?_)
  ·refine go 9 ?_
   refine fin1 rfl rfl ?_
   exact q_v (congrArg Value.bool (by simp only [propOk, h6, h11, bS]))
  ·refine go 9 ?_
   refine fin1 rfl rfl ?_
   exact q_v (congrArg Value.bool (by simp only [propOk, h6, h11, bS]))
 ·refine go 14 ?_
  refine fin1 rfl rfl ?_
  exact q_v (congrArg Value.bool (by simp only [propOk, h6, bS]))

theorem right3 (I : IMap) (x : Prp) (vs : List Value) (h : Enc.rd I vs x) :
    FnV Tryz.prog 180 #[.agg vs.toArray] I (.string x.key) := by
 obtain rfl := h
 refine enter Tryz.func180 Tryz.call180 rfl Tryz.ntmps180 rfl (fun w0 => ?_)
 refine go 3 ?_
 refine o_box _ rfl rfl rfl (fun g1 => ?_)
 refine go 11 ?_
 refine fin1 rfl rfl ?_
 exact q_v rfl

theorem valid1 (I : IMap) (x : Part) (vs : List Value) (h : Enc.rd I vs x) :
    FnV Tryz.prog 152 #[.agg vs.toArray] I (.string x.name) := by
 obtain ⟨q, rfl, B, d, rfl, hB, hd, hm⟩ := h
 refine enter Tryz.func152 Tryz.call152 rfl Tryz.ntmps152 rfl (fun w0 => ?_)
 refine go 3 ?_
 refine o_box _ rfl rfl rfl (fun g1 => ?_)
 refine go 11 ?_
 refine fin1 rfl rfl ?_
 exact q_v rfl

theorem apply11 (I : IMap) (x : Part) (vs : List Value) (h : Enc.rd I vs x) :
    FnV Tryz.prog 131 #[.agg vs.toArray] I (.string x.name) := by
 obtain ⟨q, rfl, B, d, rfl, hB, hd, hm⟩ := h
 refine enter Tryz.func131 Tryz.call131 rfl Tryz.ntmps131 rfl (fun w0 => ?_)
 refine go 3 ?_
 refine o_box _ rfl rfl rfl (fun g1 => ?_)
 refine go 11 ?_
 refine fin1 rfl rfl ?_
 exact q_v rfl

theorem apply5 (I : IMap) (x : Prp) (vs : List Value) (h : Enc.rd I vs x) :
    FnV Tryz.prog 140 #[.agg vs.toArray] I (.string x.key) := by
 obtain rfl := h
 refine enter Tryz.func140 Tryz.call140 rfl Tryz.ntmps140 rfl (fun w0 => ?_)
 refine go 3 ?_
 refine o_box _ rfl rfl rfl (fun g1 => ?_)
 refine go 11 ?_
 refine fin1 rfl rfl ?_
 exact q_v rfl

theorem flRight (I : IMap) (v : Value) (l : List Kind) (hv : RdS I v l) (p : Part) (D : Option Addr) (d : Nat) (hD : RdS I (.slice D p.props.length d) p.props) (hs : SmP p) :
    FnV Tryz.prog 153 #[.agg #[v], .agg (p.cells (.slice D p.props.length d)).toArray] I (.bool (rightP l p)) := by
 have hDA : RdA I D p.props := (by obtain ⟨_, _, e, h, _⟩ := hD; cases e; exact h)
 have hDl : p.props.length ≤ d ∧ d ≤ 9223372036854775807 := (by obtain ⟨_, _, e, h, h1, h2⟩ := hD; cases e; exact ⟨h1, h2⟩)
 refine enter Tryz.func153 Tryz.call153 rfl Tryz.ntmps153 rfl (fun w0 => ?_)
 refine go 3 ?_
 refine o_box _ rfl rfl rfl (fun g2 => ?_)
 refine go 1 ?_
 refine o_box _ rfl rfl rfl (fun g3 => ?_)
 refine go 20 ?_
 refine o_callE (catFind I _ l hv p.kind) rfl rfl (fun v15 q15 => ?_)
 obtain ⟨vs, rfl, ss, rfl, hsl⟩ := q15
 refine go 4 ?_
 refine o_alloc he rfl (fun g7 => ?_)
 refine go 1 ?_
 refine o_stw _ he rfl rfl rfl rfl rfl (by simp [Kind.cells, hsl.one]; exact ⟨rfl, rfl⟩) ?_
 refine go 4 ?_
 refine c_cut (I' := I) (L' := [(2, .pointer (some ⟨g2, 0, none⟩)), (3, .pointer (some ⟨g3, 0, none⟩)), (5, .func (.func 177) #[] #[]), (6, .func (.func 178) #[] #[]), (48, .bool (partBad l p))]) (H' := [.blk g3 89 (p.cells (.slice D p.props.length d)), .blk g2 25 [v]]) ?_ ?_
 ·refine go 4 ?_
  refine sxb 20 rfl (fun h20 p20 => ?_) (fun h20 p20 => ?_)
  ·refine go 30 ?_
   refine sx_drop ?_
   exact q_cut ⟨rfl, rfl, rfl, rfl, (congrArg (fun b => some (Value.bool b)) (by simp only [partBad, h20, bS])), trivial⟩ rfl rfl
  ·refine go 3 ?_
   refine o_yes rfl rfl h20 (o_callV (lexName _ _ hs.1) rfl rfl ?_)
   refine go 3 ?_
   refine sxb 26 rfl (fun h26 p26 => ?_) (fun h26 p26 => ?_)
   ·refine go 24 ?_
    refine sx_drop ?_
    exact q_cut ⟨rfl, rfl, rfl, rfl, (congrArg (fun b => some (Value.bool b)) (by simp only [partBad, h20, h26, bS])), trivial⟩ rfl rfl
   ·refine go 5 ?_
    refine sxb 31 rfl (fun h31 p31 => ?_) (fun h31 p31 => ?_)
    ·refine go 19 ?_
     refine sx_drop ?_
     exact q_cut ⟨rfl, rfl, rfl, rfl, (congrArg (fun b => some (Value.bool b)) (by simp only [partBad, h20, h26, h31, bS])), trivial⟩ rfl rfl
    ·refine go 7 ?_
     refine sxb 38 rfl (fun h38 p38 => ?_) (fun h38 p38 => ?_)
     ·refine go 12 ?_
      refine sx_drop ?_
      exact q_cut ⟨rfl, rfl, rfl, rfl, (congrArg (fun b => some (Value.bool b)) (by simp only [partBad, h20, h26, h31, h38, bS])), trivial⟩ rfl rfl
     ·refine go 5 ?_
      refine sxb 43 rfl (fun h43 p43 => ?_) (fun h43 p43 => ?_)
      ·refine go 7 ?_
       refine sx_drop ?_
       exact q_cut ⟨rfl, rfl, rfl, rfl, (congrArg (fun b => some (Value.bool b)) (by simp only [partBad, h20, h26, h31, h38, h43, bS])), trivial⟩ rfl rfl
      ·refine go 7 ?_
       refine sx_drop ?_
       exact q_cut ⟨rfl, rfl, rfl, rfl, (congrArg (fun b => some (Value.bool b)) (by simp only [partBad, h20, h26, h31, h38, h43, bS])), trivial⟩ rfl rfl
 ·refine cb rfl (fun h48 p48 => ?_) (fun h48 p48 => ?_)
  ·refine go 7 ?_
   refine fin1 rfl rfl ?_
   exact q_v (congrArg Value.bool (by simp only [rightP, h48]; rfl))
  ·refine go 12 ?_
   refine c_loop (α := Nat) 0 (fun i => I)
    (fun i => [(2, .pointer (some ⟨g2, 0, none⟩)), (3, .pointer (some ⟨g3, 0, none⟩)), (5, .func (.func 177) #[] #[]), (6, .func (.func 178) #[] #[]), (50, .slice D p.props.length d), (51, .int .i64 (p.props.length : Int)), (52, .int .i64 (i : Int))])
    (fun i => [.blk g3 89 (p.cells (.slice D p.props.length d)), .blk g2 25 [v]])
    (fun i => i ≤ p.props.length ∧ allP (fun _ q => propOk q) p.props i = true)
    (fun i => p.props.length - i) ⟨Nat.zero_le _, rfl⟩ rfl sb rfl ?_
   intro i ⟨hi, hn⟩
   refine go 6 ?_
   refine cb rfl (fun h53 p53 => ?_) (fun h53 p53 => ?_)
   ·have hlt : i < p.props.length := by omega
    refine go 6 ?_
    obtain ⟨b54, o54, w54, e54, c54, r54⟩ := RdA.at_ hDA (i := i) hlt
    obtain rfl := r54
    refine o_v rfl (v_idx he rfl rfl e54 (i) (by omega) hlt) ?_
    refine o_v rfl (v_ldIa he rfl c54 rfl) ?_
    refine go 1 ?_
    refine o_alloc he rfl (fun g10 => ?_)
    refine go 1 ?_
    refine o_stw _ he rfl rfl rfl rfl rfl rfl ?_
    refine go 7 ?_
    refine o_callV (right2 _ p.props[i] (hs.2 _ (List.getElem_mem hlt))) rfl rfl ?_
    refine go 3 ?_
    refine cb rfl (fun h59 p59 => ?_) (fun h59 p59 => ?_)
    ·refine go 11 ?_
     refine fin1 rfl rfl ?_
     exact q_v (congrArg Value.bool (by simp only [rightP, h48, allP_not (f := fun _ q => propOk q) hlt (by simpa using h59), bS]))
    ·refine go 8 ?_
     refine sx_drop ?_
     exact q_next (i + 1) ⟨by omega, allP_succ hn hlt (by simpa using h59)⟩ (by omega) rfl sb rfl
   ·have hAll : allP (fun _ q => propOk q) p.props p.props.length = true := (show i = p.props.length by omega) ▸ hn
    refine go 10 ?_
    refine o_callV (ordered_Prp _ _ p.props hD _ Prp.key (fun x vs hr => right3 _ x vs hr)) rfl rfl ?_
    refine go 1 ?_
    refine sxb 64 rfl (fun h64 p64 => ?_) (fun h64 p64 => ?_)
    ·refine go 3 ?_
     refine o_cons (o_yes rfl rfl h64 (o_val rfl (v_ldp (p.life.km.cells) m0 he rfl rfl rfl) ?_))
     refine go 1 ?_
     refine o_yes rfl rfl h64 (o_callV (right1 _ p.life.km) rfl rfl ?_)
     refine go 2 ?_
     refine sxb 71 rfl (fun h71 p71 => ?_) (fun h71 p71 => ?_)
     ·refine go 3 ?_
      refine o_cons (o_yes rfl rfl h71 (o_val rfl (v_ldp (p.life.cycles.cells) m0 he rfl rfl rfl) ?_))
      refine go 1 ?_
      refine o_yes rfl rfl h71 (o_callV (right1 _ p.life.cycles) rfl rfl ?_)
      refine go 2 ?_
      refine sxb 78 rfl (fun h78 p78 => ?_) (fun h78 p78 => ?_)
      ·refine go 3 ?_
       refine o_cons (o_yes rfl rfl h78 (o_val rfl (v_ldp (p.life.damage.cells) m0 he rfl rfl rfl) ?_))
       refine go 1 ?_
       refine o_yes rfl rfl h78 (o_callV (right1 _ p.life.damage) rfl rfl ?_)
       refine go 5 ?_
       refine fin1 rfl rfl ?_
       exact q_v (congrArg Value.bool (by simp only [rightP, h48, hAll, h53, h64, h71, h78, bS]))
      ·refine go 10 ?_
       refine fin1 rfl rfl ?_
       exact q_v (congrArg Value.bool (by simp only [rightP, h48, hAll, h53, h64, h71, h78, bS]))
     ·refine go 17 ?_
      refine fin1 rfl rfl ?_
      exact q_v (congrArg Value.bool (by simp only [rightP, h48, hAll, h53, h64, h71, bS]))
    ·refine go 24 ?_
     refine fin1 rfl rfl ?_
     exact q_v (congrArg Value.bool (by simp only [rightP, h48, hAll, h53, h64, bS]))

theorem eqS_seat (p q : ByteArray × ByteArray) : eqV Tryz.prog 9 196 (enc2 p) (enc2 q) = some (decide (p = q)) := by
  have e : eqV Tryz.prog 9 196 (enc2 p) (enc2 q) = some (decide (p.1 = q.1) && (decide (p.2 = q.2) && true)) := by kernel_rfl
  rw [e]
  obtain ⟨a, b⟩ := p
  obtain ⟨c, d⟩ := q
  simp

theorem flValid (I : IMap) (vc : Value) (c : List Kind) (hvc : RdS I vc c) (hsc : SmC c) (v : Value) (l : List Part) (hv : RdS I v l) (hsf : SmF l) :
    FnV Tryz.prog 126 #[.agg #[vc], .agg #[v]] I (.bool (validS c l)) := by
 have hv0 := hv
 obtain ⟨A, c0, rfl, hA, hc, hm⟩ := hv
 refine enter Tryz.func126 Tryz.call126 rfl Tryz.ntmps126 rfl (fun w0 => ?_)
 refine go 3 ?_
 refine o_box _ rfl rfl rfl (fun g2 => ?_)
 refine go 1 ?_
 refine o_box _ rfl rfl rfl (fun g3 => ?_)
 refine go 5 ?_
 refine c_cut (I' := I) (L' := [(2, .pointer (some ⟨g2, 0, none⟩)), (3, .pointer (some ⟨g3, 0, none⟩)), (26, .bool (bad0S c l))]) (H' := [.blk g3 81 [.slice A l.length c0], .blk g2 25 [vc]]) ?_ ?_
 ·refine go 3 ?_
  refine o_callV (catValid _ _ c hvc hsc) rfl rfl ?_
  refine go 2 ?_
  refine sxb 15 rfl (fun h15 p15 => ?_) (fun h15 p15 => ?_)
  ·refine go 13 ?_
   exact q_cut ⟨rfl, rfl, (congrArg (fun b => some (Value.bool b)) (by simp only [bad0S, h15, bS])), trivial⟩ rfl rfl
  ·refine go 6 ?_
   refine sxb 21 rfl (fun h21 p21 => ?_) (fun h21 p21 => ?_)
   ·refine go 7 ?_
    exact q_cut ⟨rfl, rfl, (congrArg (fun b => some (Value.bool b)) (by simp only [bad0S, h15, h21, bS])), trivial⟩ rfl rfl
   ·refine go 3 ?_
    refine o_yes rfl rfl h21 (o_callV (ordered_Part _ _ l hv0 _ Part.name (fun x vs hr => valid1 _ x vs hr)) rfl rfl ?_)
    refine go 4 ?_
    exact q_cut ⟨rfl, rfl, (congrArg (fun b => some (Value.bool b)) (by simp only [bad0S, h15, h21, bS])), trivial⟩ rfl rfl
 ·refine cb rfl (fun h26 p26 => ?_) (fun h26 p26 => ?_)
  ·refine go 7 ?_
   refine fin1 rfl rfl ?_
   exact q_v (congrArg Value.bool (by simp only [validS, h26]; rfl))
  ·refine go 6 ?_
   refine o_callX0 (flOf _ _ l hv0) rfl rfl (fun v28 s28 q28 => ?_)
   obtain ⟨m28, kvs, rfl, rfl, hIx, _⟩ := q28
   refine go 1 ?_
   refine o_alloc he rfl (fun g5 => ?_)
   refine go 1 ?_
   refine o_stw _ he rfl rfl rfl rfl rfl rfl ?_
   refine go 5 ?_
   refine o_map0 (enc2) he rfl (fun r29 => ?_)
   refine go 13 ?_
   refine bring4 ?_
   refine bring4 ?_
   refine bring3 ?_
   refine bring4 ?_
   refine bring4 ?_
   refine c_loop (α := Nat) 0 (fun i => I)
    (fun i => [(2, .pointer (some ⟨g2, 0, none⟩)), (3, .pointer (some ⟨g3, 0, none⟩)), (5, .pointer (some ⟨g5, 0, none⟩)), (6, .map (some r29)), (31, .slice A l.length c0), (32, .int .i64 (l.length : Int)), (33, .int .i64 (i : Int))])
    (fun i => [.mp r29 (emap enc2 (kvsOf seatOf (fun _ => .bool true) (seated (l.take i)))), .mp m28 (emap Value.string kvs), .blk g5 171 [.slice A l.length c0, .map (some m28)], .blk g3 81 [.slice A l.length c0], .blk g2 25 [vc]])
    (fun i => i ≤ l.length ∧ allP (partFine c l) l i = true)
    (fun i => l.length - i) ⟨Nat.zero_le _, rfl⟩ rfl sb rfl ?_
   intro i ⟨hi, hn⟩
   refine go 6 ?_
   refine cb rfl (fun h34 p34 => ?_) (fun h34 p34 => ?_)
   ·have hlt : i < l.length := by omega
    refine go 6 ?_
    obtain ⟨b35, o35, w35, e35, c35, r35⟩ := RdA.at_ hA (i := i) hlt
    obtain ⟨q35, rfl, B35, d35, rfl, hB35, hd35, hm35⟩ := r35
    refine o_v rfl (v_idx he rfl rfl e35 (i) (by omega) hlt) ?_
    refine o_v rfl (v_ldIa he rfl c35 rfl) ?_
    refine go 1 ?_
    refine o_alloc he rfl (fun g8 => ?_)
    refine go 1 ?_
    refine o_stw _ he rfl rfl rfl rfl rfl rfl ?_
    refine go 4 ?_
    refine c_cut (I' := I) (L' := [(2, .pointer (some ⟨g2, 0, none⟩)), (3, .pointer (some ⟨g3, 0, none⟩)), (5, .pointer (some ⟨g5, 0, none⟩)), (6, .map (some r29)), (31, .slice A l.length c0), (32, .int .i64 (l.length : Int)), (33, .int .i64 (i : Int)), (8, .pointer (some ⟨g8, 0, none⟩)), (49, .bool (bad1P c l[i]))]) (H' := [.blk g8 89 (l[i].cells (.slice B35 l[i].props.length d35)), .mp r29 (emap enc2 (kvsOf seatOf (fun _ => .bool true) (seated (l.take i)))), .mp m28 (emap Value.string kvs), .blk g5 171 [.slice A l.length c0, .map (some m28)], .blk g3 81 [.slice A l.length c0], .blk g2 25 [vc]]) ?_ ?_
    ·refine go 4 ?_
     refine o_callV (flRight _ _ c hvc l[i] B35 d35 ⟨_, _, rfl, hB35, hd35, hm35⟩ (hsf _ (List.getElem_mem hlt))) rfl rfl ?_
     refine go 2 ?_
     refine sxb 41 rfl (fun h41 p41 => ?_) (fun h41 p41 => ?_)
     ·refine go 10 ?_
      exact q_cut ⟨rfl, rfl, rfl, rfl, rfl, rfl, rfl, rfl, (congrArg (fun b => some (Value.bool b)) (by simp only [bad1P, h34, h41, bS])), trivial⟩ rfl rfl
     ·refine go 6 ?_
      refine o_cons (o_yes rfl rfl h41 (o_val rfl (v_bneq he rfl rfl) ?_))
      refine go 3 ?_
      exact q_cut ⟨rfl, rfl, rfl, rfl, rfl, rfl, rfl, rfl, (congrArg (fun b => some (Value.bool b)) (by simp only [bad1P, h34, h41, bS])), trivial⟩ rfl rfl
    ·refine cb rfl (fun h49 p49 => ?_) (fun h49 p49 => ?_)
     ·refine go 12 ?_
      refine fin1 rfl rfl ?_
      exact q_v (congrArg Value.bool (by simp only [validS, allP_not hlt (show partFine c l (l.take i) l[i] = false by simp only [partFine, h49]; rfl), bS]))
     ·refine go 10 ?_
      refine cb rfl (fun h52 p52 => ?_) (fun h52 p52 => ?_)
      ·refine go 9 ?_
       refine sx_drop ?_
       exact q_next (i + 1) ⟨by omega, allP_succ hn hlt (by simp only [partFine, h49, h52, bS])⟩ (by omega) rfl sb (by rw [seated_take hlt p52])
      ·refine go 8 ?_
       refine bring2 ?_
       refine o_callK (flGet _ _ l hv0 m28 kvs hIx l[i].into) rfl rfl (fun v57 q57 => ?_)
       obtain ⟨vs, rfl, s57, rfl, hs57⟩ := q57
       refine go 4 ?_
       refine o_alloc he rfl (fun g9 => ?_)
       refine go 1 ?_
       refine o_stw _ he rfl rfl rfl rfl rfl (Enc.one (α := Part) (I := I) (x := (findP l l[i].into).getD zPart) ⟨s57, rfl, hs57⟩) ?_
       refine go 10 ?_
       refine o_val rfl (v_build (pl := [(0, 1), (1, 1)]) he he rfl rfl) ?_
       refine go 1 ?_
       refine o_alloc he rfl (fun g11 => ?_)
       refine go 1 ?_
       refine o_stw _ he rfl rfl rfl rfl rfl rfl ?_
       refine go 4 ?_
       refine c_cut (I' := I) (L' := [(2, .pointer (some ⟨g2, 0, none⟩)), (3, .pointer (some ⟨g3, 0, none⟩)), (5, .pointer (some ⟨g5, 0, none⟩)), (6, .map (some r29)), (31, .slice A l.length c0), (32, .int .i64 (l.length : Int)), (33, .int .i64 (i : Int)), (8, .pointer (some ⟨g8, 0, none⟩)), (11, .pointer (some ⟨g11, 0, none⟩)), (90, .bool (bad2P c l (l.take i) l[i]))]) (H' := [.blk g11 196 [.string l[i].into, .string l[i].slot], .blk g8 89 (l[i].cells (.slice B35 l[i].props.length d35)), .mp r29 (emap enc2 (kvsOf seatOf (fun _ => .bool true) (seated (l.take i)))), .mp m28 (emap Value.string kvs), .blk g5 171 [.slice A l.length c0, .map (some m28)], .blk g3 81 [.slice A l.length c0], .blk g2 25 [vc]]) ?_ ?_
       ·refine go 4 ?_
        refine sxb 67 rfl (fun h67 p67 => ?_) (fun h67 p67 => ?_)
        ·refine go 25 ?_
         refine bring1 ?_
         refine sx_drop ?_
         refine bring6 ?_
         refine bring6 ?_
         refine bring6 ?_
         refine bring4 ?_
         refine bring6 ?_
         refine bring6 ?_
         refine bring6 ?_
         exact q_cut ⟨rfl, rfl, rfl, rfl, rfl, rfl, rfl, rfl, rfl, (congrArg (fun b => some (Value.bool b)) (by simp only [bad2P, h49, h52, h67, bS])), trivial⟩ rfl rfl
        ·refine go 4 ?_
         refine sxb 71 rfl (fun h71 p71 => ?_) (fun h71 p71 => ?_)
         ·refine go 21 ?_
          refine bring1 ?_
          refine sx_drop ?_
          refine bring6 ?_
          refine bring6 ?_
          refine bring6 ?_
          refine bring4 ?_
          refine bring6 ?_
          refine bring6 ?_
          refine bring6 ?_
          exact q_cut ⟨rfl, rfl, rfl, rfl, rfl, rfl, rfl, rfl, rfl, (congrArg (fun b => some (Value.bool b)) (by simp only [bad2P, h49, h52, h67, h71, bS])), trivial⟩ rfl rfl
         ·refine go 4 ?_
          refine sxb 75 rfl (fun h75 p75 => ?_) (fun h75 p75 => ?_)
          ·refine go 17 ?_
           refine bring1 ?_
           refine sx_drop ?_
           refine bring6 ?_
           refine bring6 ?_
           refine bring6 ?_
           refine bring4 ?_
           refine bring6 ?_
           refine bring6 ?_
           refine bring6 ?_
           exact q_cut ⟨rfl, rfl, rfl, rfl, rfl, rfl, rfl, rfl, rfl, (congrArg (fun b => some (Value.bool b)) (by simp only [bad2P, h49, h52, h67, h71, h75, bS])), trivial⟩ rfl rfl
          ·refine go 2 ?_
           refine o_cons (o_yes rfl rfl h75 (o_val rfl (v_get m4 (key_pair T.sp_196 eqS_seat) he he (seatOf l[i]) rfl rfl (kvs_hit1 seatOf _ _)) ?_))
           refine go 2 ?_
           refine sxb 80 rfl (fun h80 p80 => ?_) (fun h80 p80 => ?_)
           ·refine go 12 ?_
            refine bring1 ?_
            refine sx_drop ?_
            refine bring6 ?_
            refine bring6 ?_
            refine bring6 ?_
            refine bring4 ?_
            refine bring6 ?_
            refine bring6 ?_
            refine bring6 ?_
            exact q_cut ⟨rfl, rfl, rfl, rfl, rfl, rfl, rfl, rfl, rfl, (congrArg (fun b => some (Value.bool b)) (by simp only [bad2P, h49, h52, h67, h71, h75, h80, bS])), trivial⟩ rfl rfl
           ·refine o_cons (o_yes rfl rfl h80 (o_val rfl (v_ldw m7 he rfl rfl) ?_))
            refine go 7 ?_
            refine o_yes rfl rfl h80 (o_callV (catTakes _ _ c hvc ((findP l l[i].into).getD zPart).kind l[i].slot l[i].kind) rfl rfl ?_)
            refine go 4 ?_
            refine bring1 ?_
            refine sx_drop ?_
            refine bring6 ?_
            refine bring6 ?_
            refine bring6 ?_
            refine bring4 ?_
            refine bring6 ?_
            refine bring6 ?_
            refine bring6 ?_
            exact q_cut ⟨rfl, rfl, rfl, rfl, rfl, rfl, rfl, rfl, rfl, (congrArg (fun b => some (Value.bool b)) (by simp only [bad2P, h49, h52, h67, h71, h75, h80, bS])), trivial⟩ rfl rfl
       ·refine cb rfl (fun h90 p90 => ?_) (fun h90 p90 => ?_)
        ·refine go 12 ?_
         refine fin1 rfl rfl ?_
         exact q_v (congrArg Value.bool (by simp only [validS, allP_not hlt (show partFine c l (l.take i) l[i] = false by simp only [partFine, h52, h90]; simp), bS]))
        ·refine go 6 ?_
         have h90n : hit seatOf (seated (l.take i)) (seatOf l[i]) = false := by revert h90; simp only [bad2P]; cases hit seatOf (seated (l.take i)) (seatOf l[i]) <;> simp
         refine bring2 ?_
         refine o_mapPut (kvsOf seatOf (fun _ => .bool true) (seated (l.take (i + 1)))) (key_pair T.sp_196 eqS_seat) he (seatOf l[i]) rfl rfl rfl ((kvs_put seatOf (fun _ => .bool true) (seated (l.take i)) l[i] (hit_none h90n)).trans (by rw [seated_take' hlt p52])) ?_
         refine go 8 ?_
         refine bring1 ?_
         refine sx_drop ?_
         refine bring1 ?_
         refine sx_drop ?_
         exact q_next (i + 1) ⟨by omega, allP_succ hn hlt (by simp only [partFine, h49, h90, bS])⟩ (by omega) rfl sb rfl
   ·refine go 11 ?_
    refine fin1 rfl rfl ?_
    have e : i = l.length := (by omega)
    subst e
    exact q_v (congrArg Value.bool (by simp only [validS, h26, hn, bS]))

theorem bsearch_Part (I : IMap) (v : Value) (l : List Part) (hv : RdS I v l) (hl : l.length ≤ 1000000) (s : ByteArray) (f : FuncId) (cs : List Value) (nm : Part → ByteArray) (hp : ∀ x vs, Enc.rd I vs x → FnV Tryz.prog f ([Value.agg vs.toArray, Value.string s] ++ cs).toArray I (.int .i64 (cmpS (nm x) s))) (hs : Srt nm l) :
    FnV Tryz.prog 158 #[v, .string s, .func (.func f) #[] cs.toArray] I (.tuple #[.int .i64 (posF nm l s : Nat), .bool (atF nm l s)]) := by
 obtain ⟨A, c0, rfl, hA, hc, hm⟩ := hv
 refine enter Tryz.func158 Tryz.call158 rfl Tryz.ntmps158 rfl (fun w0 => ?_)
 refine go 22 ?_
 refine c_loop2 ((0 : Nat)) (l.length) (fun i j => I)
  (fun i j => [(0, .slice A l.length c0), (1, .string s), (2, .func (.func f) #[] cs.toArray), (8, .int .i64 (l.length : Int)), (9, .int .i64 (i : Int)), (10, .int .i64 (j : Int))])
  (fun i j => [])
  (fun i j => i ≤ j ∧ j ≤ l.length ∧ (∀ q x, q < i → l[q]? = some x → sLt (nm x) s = true) ∧ (∀ q x, j ≤ q → l[q]? = some x → sLt (nm x) s = false))
  (fun i j => j - i) ⟨Nat.zero_le _, Nat.le_refl _, fun q x h => absurd h (Nat.not_lt_zero q), fun q x h hx => by rw [List.getElem?_eq_none h] at hx; cases hx⟩ rfl sb rfl ?_
 intro i j ⟨hij, hj, hlo, hhi⟩
 refine go 8 ?_
 refine cb rfl (fun h17 p17 => ?_) (fun h17 p17 => ?_)
 ·have hlt : (i + j) / 2 < l.length := by omega
  refine go 8 ?_
  refine o_v rfl (v_conv he he rfl (m := (i : Int) + (j : Int)) (wrap_u64 _ (by omega) (by omega))) ?_
  refine o_v rfl (v_shr1 rfl (by decide)) ?_
  refine o_v rfl (v_conv he he rfl (m := (((i + j) / 2 : Nat) : Int)) (by rw [IntKind.wrap_i64]; omega)) ?_
  refine go 8 ?_
  obtain ⟨b27, o27, w27, e27, c27, r27⟩ := RdA.at_ hA (i := (i + j) / 2) hlt
  refine o_v rfl (v_idx he rfl rfl e27 ((i + j) / 2) (by omega) hlt) ?_
  refine o_v rfl (v_ldIa he rfl c27 (Enc.len r27)) ?_
  refine go 2 ?_
  refine o_callV (hp _ _ r27) rfl rfl ?_
  refine go 3 ?_
  refine cb rfl (fun h31 p31 => ?_) (fun h31 p31 => ?_)
  ·refine go 7 ?_
   exact q_next2 ((i + j) / 2 + 1) (j) ⟨by omega, hj, bs_lo hs hlt (cmpS_neg.1 p31), hhi⟩ (by omega) rfl sb rfl
  ·refine go 6 ?_
   exact q_next2 (i) ((i + j) / 2) ⟨by omega, by omega, hlo, bs_hi hs hlt (by simpa [cmpS_neg] using p31)⟩ (by omega) rfl sb rfl
 ·have hpos : posF nm l s = i := pos_eq (by omega) hlo (fun q x hq hx => hhi q x (by omega) hx)
  refine go 12 ?_
  refine sxb 39 rfl (fun h39 p39 => ?_) (fun h39 p39 => ?_)
  ·have hlt : i < l.length := by omega
   refine go 3 ?_
   obtain ⟨b43, o43, w43, e43, c43, r43⟩ := RdA.at_ hA (i := i) hlt
   refine o_cons (o_yes rfl rfl h39 (o_val rfl (v_idx he rfl rfl e43 (i) (by omega) hlt) ?_))
   refine o_cons (o_yes rfl rfl h39 (o_val rfl (v_ldIa he rfl c43 (Enc.len r43)) ?_))
   refine go 2 ?_
   refine o_yes rfl rfl h39 (o_callV (hp _ _ r43) rfl rfl ?_)
   refine go 7 ?_
   refine fin2 rfl rfl rfl ?_
   exact q_v (by rw [hpos, at_of hpos hlt]; simp only [cmpS_zero])
  ·refine go 14 ?_
   refine fin2 rfl rfl rfl ?_
   exact q_v (by rw [hpos, at_no hpos (by omega)])

theorem put1_Part (I : IMap) (x : Part) (vs : List Value) (h : Enc.rd I vs x) (s : ByteArray) (f : FuncId) (nm : Part → ByteArray) (hp : FnV Tryz.prog f #[.agg vs.toArray] I (.string (nm x))) (g : Nat) (hg : ICells I g 0 [.func (.func f) #[] #[]]) :
    FnV Tryz.prog 159 #[.agg vs.toArray, .string s, .pointer (some ⟨g, 0, none⟩)] I (.int .i64 (cmpS (nm x) s)) := by
 have hl := Enc.len h
 refine enter Tryz.func159 Tryz.call159 rfl Tryz.ntmps159 rfl (fun w0 => ?_)
 refine go 3 ?_
 refine o_box _ rfl rfl rfl (fun g3 => ?_)
 refine go 5 ?_
 refine o_v rfl (v_ldI he rfl (hg 0 _ rfl)) ?_
 refine o_v rfl (v_ldw m0 he rfl hl) ?_
 refine go 1 ?_
 refine o_callV (hp) rfl rfl ?_
 refine go 2 ?_
 refine o_callV (compare_string _ _ _) rfl rfl ?_
 refine go 4 ?_
 refine fin1 rfl rfl ?_
 exact q_v rfl

theorem bsearch_Prp (I : IMap) (v : Value) (l : List Prp) (hv : RdS I v l) (hl : l.length ≤ 1000000) (s : ByteArray) (f : FuncId) (cs : List Value) (nm : Prp → ByteArray) (hp : ∀ x vs, Enc.rd I vs x → FnV Tryz.prog f ([Value.agg vs.toArray, Value.string s] ++ cs).toArray I (.int .i64 (cmpS (nm x) s))) (hs : Srt nm l) :
    FnV Tryz.prog 168 #[v, .string s, .func (.func f) #[] cs.toArray] I (.tuple #[.int .i64 (posF nm l s : Nat), .bool (atF nm l s)]) := by
 obtain ⟨A, c0, rfl, hA, hc, hm⟩ := hv
 refine enter Tryz.func168 Tryz.call168 rfl Tryz.ntmps168 rfl (fun w0 => ?_)
 refine go 22 ?_
 refine c_loop2 ((0 : Nat)) (l.length) (fun i j => I)
  (fun i j => [(0, .slice A l.length c0), (1, .string s), (2, .func (.func f) #[] cs.toArray), (8, .int .i64 (l.length : Int)), (9, .int .i64 (i : Int)), (10, .int .i64 (j : Int))])
  (fun i j => [])
  (fun i j => i ≤ j ∧ j ≤ l.length ∧ (∀ q x, q < i → l[q]? = some x → sLt (nm x) s = true) ∧ (∀ q x, j ≤ q → l[q]? = some x → sLt (nm x) s = false))
  (fun i j => j - i) ⟨Nat.zero_le _, Nat.le_refl _, fun q x h => absurd h (Nat.not_lt_zero q), fun q x h hx => by rw [List.getElem?_eq_none h] at hx; cases hx⟩ rfl sb rfl ?_
 intro i j ⟨hij, hj, hlo, hhi⟩
 refine go 8 ?_
 refine cb rfl (fun h17 p17 => ?_) (fun h17 p17 => ?_)
 ·have hlt : (i + j) / 2 < l.length := by omega
  refine go 8 ?_
  refine o_v rfl (v_conv he he rfl (m := (i : Int) + (j : Int)) (wrap_u64 _ (by omega) (by omega))) ?_
  refine o_v rfl (v_shr1 rfl (by decide)) ?_
  refine o_v rfl (v_conv he he rfl (m := (((i + j) / 2 : Nat) : Int)) (by rw [IntKind.wrap_i64]; omega)) ?_
  refine go 8 ?_
  obtain ⟨b27, o27, w27, e27, c27, r27⟩ := RdA.at_ hA (i := (i + j) / 2) hlt
  refine o_v rfl (v_idx he rfl rfl e27 ((i + j) / 2) (by omega) hlt) ?_
  refine o_v rfl (v_ldIa he rfl c27 (Enc.len r27)) ?_
  refine go 2 ?_
  refine o_callV (hp _ _ r27) rfl rfl ?_
  refine go 3 ?_
  refine cb rfl (fun h31 p31 => ?_) (fun h31 p31 => ?_)
  ·refine go 7 ?_
   exact q_next2 ((i + j) / 2 + 1) (j) ⟨by omega, hj, bs_lo hs hlt (cmpS_neg.1 p31), hhi⟩ (by omega) rfl sb rfl
  ·refine go 6 ?_
   exact q_next2 (i) ((i + j) / 2) ⟨by omega, by omega, hlo, bs_hi hs hlt (by simpa [cmpS_neg] using p31)⟩ (by omega) rfl sb rfl
 ·have hpos : posF nm l s = i := pos_eq (by omega) hlo (fun q x hq hx => hhi q x (by omega) hx)
  refine go 12 ?_
  refine sxb 39 rfl (fun h39 p39 => ?_) (fun h39 p39 => ?_)
  ·have hlt : i < l.length := by omega
   refine go 3 ?_
   obtain ⟨b43, o43, w43, e43, c43, r43⟩ := RdA.at_ hA (i := i) hlt
   refine o_cons (o_yes rfl rfl h39 (o_val rfl (v_idx he rfl rfl e43 (i) (by omega) hlt) ?_))
   refine o_cons (o_yes rfl rfl h39 (o_val rfl (v_ldIa he rfl c43 (Enc.len r43)) ?_))
   refine go 2 ?_
   refine o_yes rfl rfl h39 (o_callV (hp _ _ r43) rfl rfl ?_)
   refine go 7 ?_
   refine fin2 rfl rfl rfl ?_
   exact q_v (by rw [hpos, at_of hpos hlt]; simp only [cmpS_zero])
  ·refine go 14 ?_
   refine fin2 rfl rfl rfl ?_
   exact q_v (by rw [hpos, at_no hpos (by omega)])

theorem put1_Prp (I : IMap) (x : Prp) (vs : List Value) (h : Enc.rd I vs x) (s : ByteArray) (f : FuncId) (nm : Prp → ByteArray) (hp : FnV Tryz.prog f #[.agg vs.toArray] I (.string (nm x))) (g : Nat) (hg : ICells I g 0 [.func (.func f) #[] #[]]) :
    FnV Tryz.prog 169 #[.agg vs.toArray, .string s, .pointer (some ⟨g, 0, none⟩)] I (.int .i64 (cmpS (nm x) s)) := by
 have hl := Enc.len h
 refine enter Tryz.func169 Tryz.call169 rfl Tryz.ntmps169 rfl (fun w0 => ?_)
 refine go 3 ?_
 refine o_box _ rfl rfl rfl (fun g3 => ?_)
 refine go 5 ?_
 refine o_v rfl (v_ldI he rfl (hg 0 _ rfl)) ?_
 refine o_v rfl (v_ldw m0 he rfl hl) ?_
 refine go 1 ?_
 refine o_callV (hp) rfl rfl ?_
 refine go 2 ?_
 refine o_callV (compare_string _ _ _) rfl rfl ?_
 refine go 4 ?_
 refine fin1 rfl rfl ?_
 exact q_v rfl

theorem clone_Part (I : IMap) (v : Value) (l : List Part) (hv : RdS I v l) (hl : l.length ≤ 1000000) :
    FnX Tryz.prog 161 #[v] I [] (fun u r => ∃ xss, r = .row u 89 14 l.length xss.flatten ∧ FlatC I xss l) := by
 have hv0 := hv
 obtain ⟨A, c0, rfl, hA, hc, hm⟩ := hv
 refine enter Tryz.func161 Tryz.call161 rfl Tryz.ntmps161 rfl (fun w0 => ?_)
 refine go 9 ?_
 refine o_v rfl (v_seqnil he rfl) ?_
 refine go 2 ?_
 refine cb rfl (fun h4 p4 => ?_) (fun h4 p4 => ?_)
 ·obtain rfl : l = [] := List.eq_nil_of_length_eq_zero (by rcases Nat.eq_zero_or_pos l.length with h | h; exact h; obtain ⟨_, _, e, _⟩ := hA h; subst e; cases h4)
  refine sx_nilrow 89 14 ?_
  refine go 7 ?_
  refine fin1 rfl rfl ?_
  exact q_x ⟨[], rfl, .nil⟩
 ·refine go 5 ?_
  refine o_buildSlice he he rfl rfl rfl rfl rfl rfl rfl (fun v5 => ?_)
  refine go 2 ?_
  refine o_appendR (hv0) rfl he he rfl rfl rfl rfl (by omega) (by omega) rfl (fun v7 x7 f7 => ?_)
  refine go 4 ?_
  refine fin1 rfl rfl ?_
  exact q_x (by obtain ⟨xss, rfl, hx⟩ := FlatC.of f7; exact ⟨xss, by rw [Nat.zero_add]; rfl, hx⟩)

theorem clone_Prp (I : IMap) (v : Value) (l : List Prp) (hv : RdS I v l) (hl : l.length ≤ 1000000) :
    FnX Tryz.prog 170 #[v] I [] (fun u r => ∃ xss, r = .row u 184 2 l.length xss.flatten ∧ FlatC I xss l) := by
 have hv0 := hv
 obtain ⟨A, c0, rfl, hA, hc, hm⟩ := hv
 refine enter Tryz.func170 Tryz.call170 rfl Tryz.ntmps170 rfl (fun w0 => ?_)
 refine go 9 ?_
 refine o_v rfl (v_seqnil he rfl) ?_
 refine go 2 ?_
 refine cb rfl (fun h4 p4 => ?_) (fun h4 p4 => ?_)
 ·obtain rfl : l = [] := List.eq_nil_of_length_eq_zero (by rcases Nat.eq_zero_or_pos l.length with h | h; exact h; obtain ⟨_, _, e, _⟩ := hA h; subst e; cases h4)
  refine sx_nilrow 184 2 ?_
  refine go 7 ?_
  refine fin1 rfl rfl ?_
  exact q_x ⟨[], rfl, .nil⟩
 ·refine go 5 ?_
  refine o_buildSlice he he rfl rfl rfl rfl rfl rfl rfl (fun v5 => ?_)
  refine go 2 ?_
  refine o_appendR (hv0) rfl he he rfl rfl rfl rfl (by omega) (by omega) rfl (fun v7 x7 f7 => ?_)
  refine go 4 ?_
  refine fin1 rfl rfl ?_
  exact q_x (by obtain ⟨xss, rfl, hx⟩ := FlatC.of f7; exact ⟨xss, by rw [Nat.zero_add]; rfl, hx⟩)

theorem clone_Evt (I : IMap) (v : Value) (l : List Evt) (hv : RdS I v l) (hl : l.length ≤ 1000000) :
    FnX Tryz.prog 56 #[v] I [] (fun u r => ∃ xss, r = .row u 49 14 l.length xss.flatten ∧ FlatC I xss l) := by
 have hv0 := hv
 obtain ⟨A, c0, rfl, hA, hc, hm⟩ := hv
 refine enter Tryz.func56 Tryz.call56 rfl Tryz.ntmps56 rfl (fun w0 => ?_)
 refine go 9 ?_
 refine o_v rfl (v_seqnil he rfl) ?_
 refine go 2 ?_
 refine cb rfl (fun h4 p4 => ?_) (fun h4 p4 => ?_)
 ·obtain rfl : l = [] := List.eq_nil_of_length_eq_zero (by rcases Nat.eq_zero_or_pos l.length with h | h; exact h; obtain ⟨_, _, e, _⟩ := hA h; subst e; cases h4)
  refine sx_nilrow 49 14 ?_
  refine go 7 ?_
  refine fin1 rfl rfl ?_
  exact q_x ⟨[], rfl, .nil⟩
 ·refine go 5 ?_
  refine o_buildSlice he he rfl rfl rfl rfl rfl rfl rfl (fun v5 => ?_)
  refine go 2 ?_
  refine o_appendR (hv0) rfl he he rfl rfl rfl rfl (by omega) (by omega) rfl (fun v7 x7 f7 => ?_)
  refine go 4 ?_
  refine fin1 rfl rfl ?_
  exact q_x (by obtain ⟨xss, rfl, hx⟩ := FlatC.of f7; exact ⟨xss, by rw [Nat.zero_add]; rfl, hx⟩)

theorem ext_overlaps_Part (args : Array Value) (w : World) : (callFunc 182 args).run Tryz.prog w = ((Extern.SlicesOverlaps.overlaps #[79, 79] #[4] args).run Tryz.prog w).andThen fun v w' => .ok (.value v) w' := by
  have h1 : Extern.findNext Tryz.f182 = none := by kernel_rfl
  have h2 : Extern.find Tryz.f182 = some (Extern.SlicesOverlaps.overlaps #[79, 79] #[4]) := by kernel_rfl
  have h3 : (Tryz.f182.name == "runtime.NumGoroutine") = false := by kernel_rfl
  have h4 : Tryz.f182.body.isNone = true := rfl
  simp only [callFunc, Sem.run_bind, run_program, Result.andThen_ok, Tryz.func182, h3, h4, h1, h2]
  simp
theorem overlaps_Part (I : IMap) (b g la ca lb cb o : Nat) (c : List Value) (cs : List Value) (tt : Nat) (B : Option Addr) (hB : B = some ⟨g, o, none⟩) (hb : I b = some (.cells c.toArray tt (0, 0))) (hcs : cs.length ≠ 0) :
    FnK Tryz.prog 182 #[.slice (some ⟨b, 0, none⟩) la ca, .slice B lb cb] I (.blk g 89 cs) (fun u => u = .bool false) := by
  subst hB
  refine ⟨fun w m => ?_⟩
  unfold After
  have hg : w.heap[g]? = some (.cells cs.toArray 89 (0, 0)) := m.blk
  have hbw := m.con b _ hb
  have hne : b ≠ g := by
    rintro rfl
    have := (m.priv _ (List.mem_cons_self ..) b rfl).1
    rw [hb] at this; cases this
  rw [ext_overlaps_Part, Lib.run_overlaps_apart (P := Tryz.prog) w 79 4 89 he 14 (fun w => (tyK_spec he w).2) ⟨b, 0, none⟩ ⟨g, o, none⟩ la ca lb cb hne tt 89 c.length cs.length (by simp [World.shape?, hbw]) (by simp [World.shape?, hg]) hcs (by simp [World.frozen?, hbw]) (by simp [World.frozen?, hbw])]
  exact ⟨_, I, [_], rfl, m, rfl, rfl, rfl⟩

theorem insertNil_Part (I : IMap) (y : Value) (x : Part) (hy : RdS I y [x]) :
    FnX Tryz.prog 162 #[.slice none 0 0, .int .i64 0, y] I [] (fun u r => ∃ zss, r = .row u 89 14 1 zss.flatten ∧ FlatC I zss [x]) := by
 have hy0 := hy
 obtain ⟨Y, yc, rfl, hA, hc, hm⟩ := hy
 refine enter Tryz.func162 Tryz.call162 rfl Tryz.ntmps162 rfl (fun w0 => ?_)
 refine sx_nilrow 89 14 ?_
 refine go 9 ?_
 refine o_v rfl (v_slice_lo he rfl rfl 0 rfl (Nat.le_refl _)) ?_
 refine go 16 ?_
 refine c_false rfl ?_
 refine go 17 ?_
 refine c_true rfl ?_
 refine go 5 ?_
 refine o_appendR (hy0) rfl he he rfl rfl rfl rfl (by simp) (by simp) rfl (fun v25 x25 f25 => ?_)
 refine go 5 ?_
 refine fin1 rfl rfl ?_
 exact q_x (by obtain ⟨xss, rfl, hx⟩ := FlatC.of f25; exact ⟨xss, rfl, hx⟩)

theorem insertBlk_Part (I : IMap) (l : List Part) (xss rest : List (List Value)) (g cap i b yc : Nat) (hx : FlatC I xss l) (hR : Uk 14 rest) (hcap : l.length + rest.length = cap) (hmax : cap ≤ maxLen) (hl : l.length ≤ 1000000) (hi : i ≤ l.length) (x : Part) (c c2 : List Value) (hb : I b = some (.cells (c ++ c2).toArray 89 (0, 0))) (hc : Enc.rd I c x) (hyc : 1 ≤ yc) (hyc2 : yc ≤ 9223372036854775807) :
    FnX Tryz.prog 162 #[.slice (some ⟨g, 0, none⟩) l.length cap, .int .i64 (i : Nat), .slice (some ⟨b, 0, none⟩) 1 yc] I [(.blk g 89 (xss ++ rest).flatten)] (fun u r => ∃ zss, r = .row u 89 14 (l.length + 1) zss.flatten ∧ FlatC I zss (l.take i ++ x :: l.drop i)) := by
 have hU : Uk 14 xss := hx.uk
 have hlen := hx.len
 have hV1 : Uk 14 [c] := (fun d hd => by rw [List.mem_singleton.1 hd]; exact Enc.len hc)
 have hcI : ICells I b 0 c := (fun j u hu => ⟨_, _, _, hb, by rw [Nat.zero_add]; simpa using (List.getElem?_append_left (List.getElem?_eq_some_iff.1 hu).1).trans hu⟩)
 have hY : RdS I (.slice (some ⟨b, 0, none⟩) 1 yc) [x] := ⟨_, yc, rfl, fun _ => ⟨b, 0, rfl, fun q z hq => by cases q with | zero => (cases hq; exact ⟨c, by simpa using hcI, hc⟩) | succ q => simp at hq⟩, hyc, hyc2⟩
 refine enter Tryz.func162 Tryz.call162 rfl Tryz.ntmps162 rfl (fun w0 => ?_)
 refine go 9 ?_
 refine o_v rfl (v_slice_lo he rfl rfl i rfl hi) ?_
 refine go 16 ?_
 refine c_false rfl ?_
 refine go 17 ?_
 refine cb rfl (fun h22 p22 => ?_) (fun h22 p22 => ?_)
 ·obtain rfl : i = l.length := by omega
  refine go 5 ?_
  refine sx_unrow hU hR hlen hcap hmax ?_
  refine o_appendR (hY) rfl he he rfl rfl rfl rfl (by simp; omega) (by simp; omega) rfl (fun v25 x25 f25 => ?_)
  refine go 5 ?_
  refine fin1 rfl rfl ?_
  exact q_x (by obtain ⟨zss, rfl, hz⟩ := FlatC.of f25; exact ⟨xss ++ zss, by rw [List.flatten_append]; rfl, by rw [List.take_length, List.drop_length]; exact hx.append hz⟩)
 ·refine go 9 ?_
  refine o_v rfl (v_cap he rfl) ?_
  refine go 3 ?_
  refine cb rfl (fun h31 p31 => ?_) (fun h31 p31 => ?_)
  ·refine go 4 ?_
   refine o_v rfl (v_slice_hi he rfl rfl i rfl (by omega)) ?_
   refine go 4 ?_
   refine o_v rfl (OV.cast (u := .int .i64 ((l.length + 1 - i : Nat) : Int)) (v_sub rfl rfl ⟨by omega, by omega⟩) (congrArg (Value.int .i64) (by omega))) ?_
   refine go 1 ?_
   refine o_appendMake (xss.take i) he he he rfl rfl rfl rfl (hU.append hR) (by rw [List.length_take]; omega) (hU.take i) (fun _ => ⟨rfl, by rw [List.take_append_of_le_length (by omega)]⟩) (by omega) (by omega) (by omega) (by unfold maxLen; omega) rfl (fun g40 r40 hr40 => ?_)
   refine go 7 ?_
   refine o_v rfl (v_slice_lo he rfl rfl i rfl (by omega)) ?_
   refine go 2 ?_
   have hU1 : Uk 14 (xss.take i ++ List.replicate (l.length + 1 - i + r40) _) := (hU.take i).append (Uk.rep (c := [.string ⟨#[]⟩, .string ⟨#[]⟩, .string ⟨#[]⟩, .string ⟨#[]⟩, .int .i64 0, .int .i64 0, .bool false, .slice none 0 0, .int .i64 0, .int .i64 0, .int .i64 0, .int .i64 0, .int .i64 0, .int .i64 0]) rfl _)
   refine o_copy [c] i he rfl rfl (by simp; omega) hU1 hV1 (by simpa using Enc.one hc) (fun _ => cutA_some (by omega)) (fun _ => ⟨b, 0, rfl, fun w mm j u hu => (hcI j u (by simpa using hu)).at_ mm.con⟩) (by simp; omega) rfl ?_
   refine go 3 ?_
   refine d_start1 T.mixed ?_
   refine d_tv 0 rfl rfl (by kernel_rfl) rfl (.cons _ (.refl _)) rfl (v_move rfl) ?_
   refine d_tv 1 rfl rfl (by kernel_rfl) rfl (.cons _ (.refl _)) rfl (v_move rfl) ?_
   refine d_tv 2 rfl rfl (by kernel_rfl) rfl (.cons _ (.refl _)) rfl (v_move rfl) ?_
   refine d_tv 3 rfl rfl (by kernel_rfl) rfl (.cons _ (.refl _)) rfl (v_add rfl rfl ⟨by omega, by omega⟩) ?_
   refine d_tv 4 rfl rfl (by kernel_rfl) rfl (.cons _ (.refl _)) rfl (v_slice_lo he rfl rfl (i + 1) (by omega) (by omega)) ?_
   refine d_tv 5 rfl rfl (by kernel_rfl) rfl (.cons _ (.refl _)) rfl (v_move rfl) ?_
   refine d_tv 6 rfl rfl (by kernel_rfl) rfl (.cons _ (.refl _)) rfl (v_move rfl) ?_
   refine d_tv 7 rfl rfl (by kernel_rfl) rfl (.cons _ (.refl _)) rfl (v_slice_lo he rfl rfl i rfl (by omega)) ?_
   refine d_one 8 (by kernel_rfl) rfl ?_
   have hU2 := ((hU1.take i).append (hV1.append (hU1.drop (i + [c].length))))
   refine o_copy (xss.drop i) (i + 1) he rfl rfl (by simp; omega) hU2 (hU.drop i) (hx.drop i).one (fun _ => cutA_some (by omega)) (fun h => ⟨g, i * 14, cutA_some (by simp at h; omega), fun w mm j u hu => src_blk (o := i) (m := l.length - i) m1 (hU.append hR) w mm j u (by rw [List.drop_append_of_le_length (by omega), List.take_append_of_le_length (by simp; omega), List.take_of_length_le (by simp; omega)]; exact hu)⟩) (by simp; omega) rfl ?_
   refine d_on (fun _ m => m.keeps (.cons _ (.refl _))) ?_
   refine d_done (by kernel_rfl) ?_
   refine go 9 ?_
   refine fin1 rfl rfl ?_
   refine bring1 ?_
   refine sx_drop ?_
   refine sx_blk_eq (ins_grow hlen hi (by omega)) ?_
   refine sx_unrow (m := i + (l.length + 1 - i)) (cap := i + (l.length + 1 - i) + r40) ((hU.take i).append (fun d hd => by rcases List.mem_cons.1 hd with rfl | hd; exact Enc.len hc; exact hU.drop i d hd)) (Uk.rep rfl _) (by simp <;> omega) (by simp <;> omega) (by omega) ?_
   exact q_x (by exact ⟨_, by congr 1 <;> omega, (hx.take i).append (.cons hc (hx.drop i))⟩)
  ·have hr1 : 0 < rest.length := by omega
   refine go 8 ?_
   refine o_v rfl (v_slice_hi he rfl rfl (l.length + 1) (by omega) (by omega)) ?_
   refine go 11 ?_
   refine o_v rfl (v_slice_lo he rfl rfl (i + 1) (by omega) (by omega)) ?_
   refine go 1 ?_
   refine o_callK (overlaps_Part I b g 1 yc _ _ _ (c ++ c2) _ 89 _ (cutA_some (k := 14) (show i + 1 < cap by omega)) hb (by rw [flat_len (hU.append hR), List.length_append]; omega)) rfl rfl (fun v67 q67 => ?_)
   obtain rfl := q67
   refine go 3 ?_
   refine c_true rfl ?_
   refine go 1 ?_
   refine d_start1 T.mixed ?_
   refine d_tv 0 rfl rfl (by kernel_rfl) rfl (.cons _ .slnil) rfl (v_move rfl) ?_
   refine d_tv 1 rfl rfl (by kernel_rfl) rfl (.cons _ .slnil) rfl (v_move rfl) ?_
   refine d_tv 2 rfl rfl (by kernel_rfl) rfl (.cons _ .slnil) rfl (v_move rfl) ?_
   refine d_tv 3 rfl rfl (by kernel_rfl) rfl (.cons _ .slnil) rfl (v_add rfl rfl ⟨by omega, by omega⟩) ?_
   refine d_tv 4 rfl rfl (by kernel_rfl) rfl (.cons _ .slnil) rfl (v_slice_lo he rfl rfl (i + 1) (by omega) (by omega)) ?_
   refine d_tv 5 rfl rfl (by kernel_rfl) rfl (.cons _ .slnil) rfl (v_move rfl) ?_
   refine d_tv 6 rfl rfl (by kernel_rfl) rfl (.cons _ .slnil) rfl (v_move rfl) ?_
   refine d_tv 7 rfl rfl (by kernel_rfl) rfl (.cons _ .slnil) rfl (v_slice_lo he rfl rfl i rfl (by omega)) ?_
   refine d_one 8 (by kernel_rfl) rfl ?_
   refine o_copy (((xss ++ rest).drop i).take (l.length - i)) (i + 1) he rfl rfl (by simp; omega) (hU.append hR) (((hU.append hR).drop i).take _) (by rw [List.drop_append_of_le_length (by omega), List.take_append_of_le_length (by simp; omega)]; exact ((hx.drop i).take _).one) (fun _ => cutA_some (by omega)) (fun h => ⟨g, i * 14, cutA_some (by omega), fun w mm j u hu => src_blk (o := i) m0 (hU.append hR) w mm j u hu⟩) (by simp; omega) rfl ?_
   refine d_on (fun _ m => m.keeps (.cons _ .slnil)) ?_
   refine d_done (by kernel_rfl) ?_
   refine go 5 ?_
   refine o_v rfl (v_slice_lo he rfl rfl i rfl (by omega)) ?_
   refine go 2 ?_
   have hU3 := (((hU.append hR).take (i + 1)).append ((((hU.append hR).drop i).take (l.length - i)).append ((hU.append hR).drop (i + 1 + (((xss ++ rest).drop i).take (l.length - i)).length))))
   refine o_copy [c] i he rfl rfl (by simp; omega) hU3 hV1 (by simpa using Enc.one hc) (fun _ => cutA_some (by omega)) (fun _ => ⟨b, 0, rfl, fun w mm j u hu => (hcI j u (by simpa using hu)).at_ mm.con⟩) (by simp; omega) rfl ?_
   refine go 10 ?_
   refine fin1 rfl rfl ?_
   refine sx_blk_eq (ins_place hlen hi hr1) ?_
   refine sx_unrow (m := l.length + 1) (cap := cap) ((hU.take i).append (fun d hd => by rcases List.mem_cons.1 hd with rfl | hd; exact Enc.len hc; exact hU.drop i d hd)) (hR.drop 1) (by simp <;> omega) (by simp <;> omega) hmax ?_
   exact q_x (by exact ⟨_, by congr 1 <;> omega, (hx.take i).append (.cons hc (hx.drop i))⟩)

theorem ext_overlaps_Prp (args : Array Value) (w : World) : (callFunc 189 args).run Tryz.prog w = ((Extern.SlicesOverlaps.overlaps #[85, 85] #[4] args).run Tryz.prog w).andThen fun v w' => .ok (.value v) w' := by
  have h1 : Extern.findNext Tryz.f189 = none := by kernel_rfl
  have h2 : Extern.find Tryz.f189 = some (Extern.SlicesOverlaps.overlaps #[85, 85] #[4]) := by kernel_rfl
  have h3 : (Tryz.f189.name == "runtime.NumGoroutine") = false := by kernel_rfl
  have h4 : Tryz.f189.body.isNone = true := rfl
  simp only [callFunc, Sem.run_bind, run_program, Result.andThen_ok, Tryz.func189, h3, h4, h1, h2]
  simp
theorem overlaps_Prp (I : IMap) (b g la ca lb cb o : Nat) (c : List Value) (cs : List Value) (tt : Nat) (B : Option Addr) (hB : B = some ⟨g, o, none⟩) (hb : I b = some (.cells c.toArray tt (0, 0))) (hcs : cs.length ≠ 0) :
    FnK Tryz.prog 189 #[.slice (some ⟨b, 0, none⟩) la ca, .slice B lb cb] I (.blk g 184 cs) (fun u => u = .bool false) := by
  subst hB
  refine ⟨fun w m => ?_⟩
  unfold After
  have hg : w.heap[g]? = some (.cells cs.toArray 184 (0, 0)) := m.blk
  have hbw := m.con b _ hb
  have hne : b ≠ g := by
    rintro rfl
    have := (m.priv _ (List.mem_cons_self ..) b rfl).1
    rw [hb] at this; cases this
  rw [ext_overlaps_Prp, Lib.run_overlaps_apart (P := Tryz.prog) w 85 4 184 he 2 (fun w => (tyK_spec he w).2) ⟨b, 0, none⟩ ⟨g, o, none⟩ la ca lb cb hne tt 184 c.length cs.length (by simp [World.shape?, hbw]) (by simp [World.shape?, hg]) hcs (by simp [World.frozen?, hbw]) (by simp [World.frozen?, hbw])]
  exact ⟨_, I, [_], rfl, m, rfl, rfl, rfl⟩

theorem insertNil_Prp (I : IMap) (y : Value) (x : Prp) (hy : RdS I y [x]) :
    FnX Tryz.prog 171 #[.slice none 0 0, .int .i64 0, y] I [] (fun u r => ∃ zss, r = .row u 184 2 1 zss.flatten ∧ FlatC I zss [x]) := by
 have hy0 := hy
 obtain ⟨Y, yc, rfl, hA, hc, hm⟩ := hy
 refine enter Tryz.func171 Tryz.call171 rfl Tryz.ntmps171 rfl (fun w0 => ?_)
 refine sx_nilrow 184 2 ?_
 refine go 9 ?_
 refine o_v rfl (v_slice_lo he rfl rfl 0 rfl (Nat.le_refl _)) ?_
 refine go 16 ?_
 refine c_false rfl ?_
 refine go 17 ?_
 refine c_true rfl ?_
 refine go 5 ?_
 refine o_appendR (hy0) rfl he he rfl rfl rfl rfl (by simp) (by simp) rfl (fun v25 x25 f25 => ?_)
 refine go 5 ?_
 refine fin1 rfl rfl ?_
 exact q_x (by obtain ⟨xss, rfl, hx⟩ := FlatC.of f25; exact ⟨xss, rfl, hx⟩)

theorem insertBlk_Prp (I : IMap) (l : List Prp) (xss rest : List (List Value)) (g cap i b yc : Nat) (hx : FlatC I xss l) (hR : Uk 2 rest) (hcap : l.length + rest.length = cap) (hmax : cap ≤ maxLen) (hl : l.length ≤ 1000000) (hi : i ≤ l.length) (x : Prp) (c c2 : List Value) (hb : I b = some (.cells (c ++ c2).toArray 184 (0, 0))) (hc : Enc.rd I c x) (hyc : 1 ≤ yc) (hyc2 : yc ≤ 9223372036854775807) :
    FnX Tryz.prog 171 #[.slice (some ⟨g, 0, none⟩) l.length cap, .int .i64 (i : Nat), .slice (some ⟨b, 0, none⟩) 1 yc] I [(.blk g 184 (xss ++ rest).flatten)] (fun u r => ∃ zss, r = .row u 184 2 (l.length + 1) zss.flatten ∧ FlatC I zss (l.take i ++ x :: l.drop i)) := by
 have hU : Uk 2 xss := hx.uk
 have hlen := hx.len
 have hV1 : Uk 2 [c] := (fun d hd => by rw [List.mem_singleton.1 hd]; exact Enc.len hc)
 have hcI : ICells I b 0 c := (fun j u hu => ⟨_, _, _, hb, by rw [Nat.zero_add]; simpa using (List.getElem?_append_left (List.getElem?_eq_some_iff.1 hu).1).trans hu⟩)
 have hY : RdS I (.slice (some ⟨b, 0, none⟩) 1 yc) [x] := ⟨_, yc, rfl, fun _ => ⟨b, 0, rfl, fun q z hq => by cases q with | zero => (cases hq; exact ⟨c, by simpa using hcI, hc⟩) | succ q => simp at hq⟩, hyc, hyc2⟩
 refine enter Tryz.func171 Tryz.call171 rfl Tryz.ntmps171 rfl (fun w0 => ?_)
 refine go 9 ?_
 refine o_v rfl (v_slice_lo he rfl rfl i rfl hi) ?_
 refine go 16 ?_
 refine c_false rfl ?_
 refine go 17 ?_
 refine cb rfl (fun h22 p22 => ?_) (fun h22 p22 => ?_)
 ·obtain rfl : i = l.length := by omega
  refine go 5 ?_
  refine sx_unrow hU hR hlen hcap hmax ?_
  refine o_appendR (hY) rfl he he rfl rfl rfl rfl (by simp; omega) (by simp; omega) rfl (fun v25 x25 f25 => ?_)
  refine go 5 ?_
  refine fin1 rfl rfl ?_
  exact q_x (by obtain ⟨zss, rfl, hz⟩ := FlatC.of f25; exact ⟨xss ++ zss, by rw [List.flatten_append]; rfl, by rw [List.take_length, List.drop_length]; exact hx.append hz⟩)
 ·refine go 9 ?_
  refine o_v rfl (v_cap he rfl) ?_
  refine go 3 ?_
  refine cb rfl (fun h31 p31 => ?_) (fun h31 p31 => ?_)
  ·refine go 4 ?_
   refine o_v rfl (v_slice_hi he rfl rfl i rfl (by omega)) ?_
   refine go 4 ?_
   refine o_v rfl (OV.cast (u := .int .i64 ((l.length + 1 - i : Nat) : Int)) (v_sub rfl rfl ⟨by omega, by omega⟩) (congrArg (Value.int .i64) (by omega))) ?_
   refine go 1 ?_
   refine o_appendMake (xss.take i) he he he rfl rfl rfl rfl (hU.append hR) (by rw [List.length_take]; omega) (hU.take i) (fun _ => ⟨rfl, by rw [List.take_append_of_le_length (by omega)]⟩) (by omega) (by omega) (by omega) (by unfold maxLen; omega) rfl (fun g40 r40 hr40 => ?_)
   refine go 7 ?_
   refine o_v rfl (v_slice_lo he rfl rfl i rfl (by omega)) ?_
   refine go 2 ?_
   have hU1 : Uk 2 (xss.take i ++ List.replicate (l.length + 1 - i + r40) _) := (hU.take i).append (Uk.rep (c := [.string ⟨#[]⟩, .string ⟨#[]⟩]) rfl _)
   refine o_copy [c] i he rfl rfl (by simp; omega) hU1 hV1 (by simpa using Enc.one hc) (fun _ => cutA_some (by omega)) (fun _ => ⟨b, 0, rfl, fun w mm j u hu => (hcI j u (by simpa using hu)).at_ mm.con⟩) (by simp; omega) rfl ?_
   refine go 3 ?_
   refine d_start1 T.mixed ?_
   refine d_tv 0 rfl rfl (by kernel_rfl) rfl (.cons _ (.refl _)) rfl (v_move rfl) ?_
   refine d_tv 1 rfl rfl (by kernel_rfl) rfl (.cons _ (.refl _)) rfl (v_move rfl) ?_
   refine d_tv 2 rfl rfl (by kernel_rfl) rfl (.cons _ (.refl _)) rfl (v_move rfl) ?_
   refine d_tv 3 rfl rfl (by kernel_rfl) rfl (.cons _ (.refl _)) rfl (v_add rfl rfl ⟨by omega, by omega⟩) ?_
   refine d_tv 4 rfl rfl (by kernel_rfl) rfl (.cons _ (.refl _)) rfl (v_slice_lo he rfl rfl (i + 1) (by omega) (by omega)) ?_
   refine d_tv 5 rfl rfl (by kernel_rfl) rfl (.cons _ (.refl _)) rfl (v_move rfl) ?_
   refine d_tv 6 rfl rfl (by kernel_rfl) rfl (.cons _ (.refl _)) rfl (v_move rfl) ?_
   refine d_tv 7 rfl rfl (by kernel_rfl) rfl (.cons _ (.refl _)) rfl (v_slice_lo he rfl rfl i rfl (by omega)) ?_
   refine d_one 8 (by kernel_rfl) rfl ?_
   have hU2 := ((hU1.take i).append (hV1.append (hU1.drop (i + [c].length))))
   refine o_copy (xss.drop i) (i + 1) he rfl rfl (by simp; omega) hU2 (hU.drop i) (hx.drop i).one (fun _ => cutA_some (by omega)) (fun h => ⟨g, i * 2, cutA_some (by simp at h; omega), fun w mm j u hu => src_blk (o := i) (m := l.length - i) m1 (hU.append hR) w mm j u (by rw [List.drop_append_of_le_length (by omega), List.take_append_of_le_length (by simp; omega), List.take_of_length_le (by simp; omega)]; exact hu)⟩) (by simp; omega) rfl ?_
   refine d_on (fun _ m => m.keeps (.cons _ (.refl _))) ?_
   refine d_done (by kernel_rfl) ?_
   refine go 9 ?_
   refine fin1 rfl rfl ?_
   refine bring1 ?_
   refine sx_drop ?_
   refine sx_blk_eq (ins_grow hlen hi (by omega)) ?_
   refine sx_unrow (m := i + (l.length + 1 - i)) (cap := i + (l.length + 1 - i) + r40) ((hU.take i).append (fun d hd => by rcases List.mem_cons.1 hd with rfl | hd; exact Enc.len hc; exact hU.drop i d hd)) (Uk.rep rfl _) (by simp <;> omega) (by simp <;> omega) (by omega) ?_
   exact q_x (by exact ⟨_, by congr 1 <;> omega, (hx.take i).append (.cons hc (hx.drop i))⟩)
  ·have hr1 : 0 < rest.length := by omega
   refine go 8 ?_
   refine o_v rfl (v_slice_hi he rfl rfl (l.length + 1) (by omega) (by omega)) ?_
   refine go 11 ?_
   refine o_v rfl (v_slice_lo he rfl rfl (i + 1) (by omega) (by omega)) ?_
   refine go 1 ?_
   refine o_callK (overlaps_Prp I b g 1 yc _ _ _ (c ++ c2) _ 184 _ (cutA_some (k := 2) (show i + 1 < cap by omega)) hb (by rw [flat_len (hU.append hR), List.length_append]; omega)) rfl rfl (fun v67 q67 => ?_)
   obtain rfl := q67
   refine go 3 ?_
   refine c_true rfl ?_
   refine go 1 ?_
   refine d_start1 T.mixed ?_
   refine d_tv 0 rfl rfl (by kernel_rfl) rfl (.cons _ .slnil) rfl (v_move rfl) ?_
   refine d_tv 1 rfl rfl (by kernel_rfl) rfl (.cons _ .slnil) rfl (v_move rfl) ?_
   refine d_tv 2 rfl rfl (by kernel_rfl) rfl (.cons _ .slnil) rfl (v_move rfl) ?_
   refine d_tv 3 rfl rfl (by kernel_rfl) rfl (.cons _ .slnil) rfl (v_add rfl rfl ⟨by omega, by omega⟩) ?_
   refine d_tv 4 rfl rfl (by kernel_rfl) rfl (.cons _ .slnil) rfl (v_slice_lo he rfl rfl (i + 1) (by omega) (by omega)) ?_
   refine d_tv 5 rfl rfl (by kernel_rfl) rfl (.cons _ .slnil) rfl (v_move rfl) ?_
   refine d_tv 6 rfl rfl (by kernel_rfl) rfl (.cons _ .slnil) rfl (v_move rfl) ?_
   refine d_tv 7 rfl rfl (by kernel_rfl) rfl (.cons _ .slnil) rfl (v_slice_lo he rfl rfl i rfl (by omega)) ?_
   refine d_one 8 (by kernel_rfl) rfl ?_
   refine o_copy (((xss ++ rest).drop i).take (l.length - i)) (i + 1) he rfl rfl (by simp; omega) (hU.append hR) (((hU.append hR).drop i).take _) (by rw [List.drop_append_of_le_length (by omega), List.take_append_of_le_length (by simp; omega)]; exact ((hx.drop i).take _).one) (fun _ => cutA_some (by omega)) (fun h => ⟨g, i * 2, cutA_some (by omega), fun w mm j u hu => src_blk (o := i) m0 (hU.append hR) w mm j u hu⟩) (by simp; omega) rfl ?_
   refine d_on (fun _ m => m.keeps (.cons _ .slnil)) ?_
   refine d_done (by kernel_rfl) ?_
   refine go 5 ?_
   refine o_v rfl (v_slice_lo he rfl rfl i rfl (by omega)) ?_
   refine go 2 ?_
   have hU3 := (((hU.append hR).take (i + 1)).append ((((hU.append hR).drop i).take (l.length - i)).append ((hU.append hR).drop (i + 1 + (((xss ++ rest).drop i).take (l.length - i)).length))))
   refine o_copy [c] i he rfl rfl (by simp; omega) hU3 hV1 (by simpa using Enc.one hc) (fun _ => cutA_some (by omega)) (fun _ => ⟨b, 0, rfl, fun w mm j u hu => (hcI j u (by simpa using hu)).at_ mm.con⟩) (by simp; omega) rfl ?_
   refine go 10 ?_
   refine fin1 rfl rfl ?_
   refine sx_blk_eq (ins_place hlen hi hr1) ?_
   refine sx_unrow (m := l.length + 1) (cap := cap) ((hU.take i).append (fun d hd => by rcases List.mem_cons.1 hd with rfl | hd; exact Enc.len hc; exact hU.drop i d hd)) (hR.drop 1) (by simp <;> omega) (by simp <;> omega) hmax ?_
   exact q_x (by exact ⟨_, by congr 1 <;> omega, (hx.take i).append (.cons hc (hx.drop i))⟩)

theorem insert_Part (I : IMap) (v : Value) (l : List Part) (xss : List (List Value)) (i b yc : Nat) (hx : FlatC I xss l) (hl : l.length ≤ 1000000) (hi : i ≤ l.length) (x : Part) (c c2 : List Value) (hb : I b = some (.cells (c ++ c2).toArray 89 (0, 0))) (hc : Enc.rd I c x) (hyc : 1 ≤ yc) (hyc2 : yc ≤ 9223372036854775807) :
    FnX Tryz.prog 162 #[v, .int .i64 (i : Nat), .slice (some ⟨b, 0, none⟩) 1 yc] I [.row v 89 14 l.length xss.flatten] (fun u r => ∃ zss, r = .row u 89 14 (l.length + 1) zss.flatten ∧ FlatC I zss (l.take i ++ x :: l.drop i)) :=
  FnX.of_row (args := fun v => [v, .int .i64 (i : Nat), .slice (some ⟨b, 0, none⟩) 1 yc]) hx.uk hx.len (fun h0 => by
    obtain rfl := List.eq_nil_of_length_eq_zero h0
    obtain rfl : i = 0 := by simp at hi; omega
    have hcI : ICells I b 0 c := (fun j u hu => ⟨_, _, _, hb, by rw [Nat.zero_add]; simpa using (List.getElem?_append_left (List.getElem?_eq_some_iff.1 hu).1).trans hu⟩)
    exact insertNil_Part I _ x ⟨_, yc, rfl, fun _ => ⟨b, 0, rfl, fun q z hq => by cases q with | zero => (cases hq; exact ⟨c, by simpa using hcI, hc⟩) | succ q => simp at hq⟩, hyc, hyc2⟩)
    (fun g cap rest h1 h2 h3 => insertBlk_Part I l xss rest g cap i b yc hx h1 h2 h3 hl hi x c c2 hb hc hyc hyc2)

theorem put_Part (I : IMap) (v : Value) (l : List Part) (hv : RdS I v l) (hl : l.length ≤ 1000000) (x : Part) (B : Option Addr) (d : Nat) (hr : Enc.rd I (x.cells (.slice B x.props.length d)) x) (f : FuncId) (nm : Part → ByteArray) (hp : ∀ J, ILe I J → ∀ y vs, Enc.rd J vs y → FnV Tryz.prog f #[.agg vs.toArray] J (.string (nm y))) (hs : Srt nm l) :
    FnI Tryz.prog 130 #[v, .agg (x.cells (.slice B x.props.length d)).toArray, .func (.func f) #[] #[]] I (fun u J => RdS J u (putL nm l x)) := by
 refine enter Tryz.func130 Tryz.call130 rfl Tryz.ntmps130 rfl (fun w0 => ?_)
 refine go 3 ?_
 refine o_box _ rfl rfl rfl (fun g4 => ?_)
 refine go 1 ?_
 refine o_box _ rfl rfl rfl (fun g5 => ?_)
 refine go 9 ?_
 refine o_callV (hp _ (ILe.refl _) x _ hr) rfl rfl ?_
 refine sx_pub (fun Ig5 jg5 cg5 => ?_)
 have hv := hv.le jg5
 have hr := Enc.mono jg5 hr
 refine o_v rfl (v_makeFunc rfl rfl) ?_
 refine go 1 ?_
 refine o_callV (bsearch_Part Ig5 v l hv hl (nm x) _ [.pointer (some ⟨g5, 0, none⟩)] nm (fun y vs hr => put1_Part _ y vs hr (nm x) f nm (hp _ jg5 y vs hr) g5 cg5) hs) rfl rfl ?_
 refine go 11 ?_
 refine o_callX0 (clone_Part _ v l hv hl) rfl rfl (fun v20 s20 q20 => ?_)
 obtain ⟨xss, rfl, hx⟩ := q20
 refine go 9 ?_
 refine cb rfl (fun h21 p21 => ?_) (fun h21 p21 => ?_)
 ·have hlt := atF_lt h21
  refine sx_row hx.uk hx.len (fun h0 _ => absurd hlt (by omega)) (fun g20 cap20 rest20 e20 hr20 hc20 hm20 => ?_)
  subst e20
  refine go 5 ?_
  refine o_v rfl (v_idx he rfl rfl rfl (posF nm l (nm x)) (by omega) hlt) ?_
  refine go 1 ?_
  refine o_stc _ (posF nm l (nm x)) (hx.uk.append hr20) he rfl rfl rfl rfl (Enc.one hr) (Nat.zero_add _) (by rw [List.length_append, hx.len]; omega) ?_
  refine sx_blk_eq (List.set_append_left _ _ (by rw [hx.len]; exact hlt)) ?_
  refine sx_unrow (m := l.length) (cap := cap20) (hx.uk.set rfl _) hr20 (by simp [hx.len]) hc20 hm20 ?_
  refine go 10 ?_
  refine fin1 rfl rfl ?_
  refine sx_pubrow (l := l.set (posF nm l (nm x)) x) rfl (by simp) ((hx.set hr _).flat) (fun I9 j9 R9 => ?_)
  exact q_i (by simp only [putL, h21, if_true]; exact R9)
 ·refine go 8 ?_
  refine o_buildSlice he he rfl rfl rfl rfl rfl rfl rfl (fun v30 => ?_)
  refine sx_row (xss := [x.cells (.slice B x.props.length d)]) (fun d hd => by rw [List.mem_singleton.1 hd]; rfl) rfl (fun h => absurd h (by decide)) (fun b30 cap30 rest30 e30 hr30 hc30 hm30 => ?_)
  subst e30
  refine sx_pubB (fun I30 j30 B30 => ?_)
  have hx := hx.le j30
  have hv := hv.le j30
  have hr := Enc.mono j30 hr
  refine go 1 ?_
  refine o_callX1 (insert_Part _ _ l xss (posF nm l (nm x)) b30 cap30 hx hl (pos_le _ _ _) x _ rest30.flatten B30 hr (by omega) (by unfold maxLen at hm30; omega)) rfl rfl (fun v31 s31 q31 => ?_)
  obtain ⟨zss, rfl, hz⟩ := q31
  refine go 4 ?_
  refine fin1 rfl rfl ?_
  refine sx_pubrow (l := l.take (posF nm l (nm x)) ++ x :: l.drop (posF nm l (nm x))) rfl (by have := pos_le nm l (nm x); simp; omega) hz.flat (fun I9 j9 R9 => ?_)
  exact q_i (by simp only [putL, h21]; exact R9)

theorem insert_Prp (I : IMap) (v : Value) (l : List Prp) (xss : List (List Value)) (i b yc : Nat) (hx : FlatC I xss l) (hl : l.length ≤ 1000000) (hi : i ≤ l.length) (x : Prp) (c c2 : List Value) (hb : I b = some (.cells (c ++ c2).toArray 184 (0, 0))) (hc : Enc.rd I c x) (hyc : 1 ≤ yc) (hyc2 : yc ≤ 9223372036854775807) :
    FnX Tryz.prog 171 #[v, .int .i64 (i : Nat), .slice (some ⟨b, 0, none⟩) 1 yc] I [.row v 184 2 l.length xss.flatten] (fun u r => ∃ zss, r = .row u 184 2 (l.length + 1) zss.flatten ∧ FlatC I zss (l.take i ++ x :: l.drop i)) :=
  FnX.of_row (args := fun v => [v, .int .i64 (i : Nat), .slice (some ⟨b, 0, none⟩) 1 yc]) hx.uk hx.len (fun h0 => by
    obtain rfl := List.eq_nil_of_length_eq_zero h0
    obtain rfl : i = 0 := by simp at hi; omega
    have hcI : ICells I b 0 c := (fun j u hu => ⟨_, _, _, hb, by rw [Nat.zero_add]; simpa using (List.getElem?_append_left (List.getElem?_eq_some_iff.1 hu).1).trans hu⟩)
    exact insertNil_Prp I _ x ⟨_, yc, rfl, fun _ => ⟨b, 0, rfl, fun q z hq => by cases q with | zero => (cases hq; exact ⟨c, by simpa using hcI, hc⟩) | succ q => simp at hq⟩, hyc, hyc2⟩)
    (fun g cap rest h1 h2 h3 => insertBlk_Prp I l xss rest g cap i b yc hx h1 h2 h3 hl hi x c c2 hb hc hyc hyc2)

theorem put_Prp (I : IMap) (v : Value) (l : List Prp) (hv : RdS I v l) (hl : l.length ≤ 1000000) (x : Prp)  (hr : Enc.rd I (x.cells) x) (f : FuncId) (nm : Prp → ByteArray) (hp : ∀ J, ILe I J → ∀ y vs, Enc.rd J vs y → FnV Tryz.prog f #[.agg vs.toArray] J (.string (nm y))) (hs : Srt nm l) :
    FnI Tryz.prog 139 #[v, .agg (x.cells).toArray, .func (.func f) #[] #[]] I (fun u J => RdS J u (putL nm l x)) := by
 refine enter Tryz.func139 Tryz.call139 rfl Tryz.ntmps139 rfl (fun w0 => ?_)
 refine go 3 ?_
 refine o_box _ rfl rfl rfl (fun g4 => ?_)
 refine go 1 ?_
 refine o_box _ rfl rfl rfl (fun g5 => ?_)
 refine go 9 ?_
 refine o_callV (hp _ (ILe.refl _) x _ hr) rfl rfl ?_
 refine sx_pub (fun Ig5 jg5 cg5 => ?_)
 have hv := hv.le jg5
 have hr := Enc.mono jg5 hr
 refine o_v rfl (v_makeFunc rfl rfl) ?_
 refine go 1 ?_
 refine o_callV (bsearch_Prp Ig5 v l hv hl (nm x) _ [.pointer (some ⟨g5, 0, none⟩)] nm (fun y vs hr => put1_Prp _ y vs hr (nm x) f nm (hp _ jg5 y vs hr) g5 cg5) hs) rfl rfl ?_
 refine go 11 ?_
 refine o_callX0 (clone_Prp _ v l hv hl) rfl rfl (fun v20 s20 q20 => ?_)
 obtain ⟨xss, rfl, hx⟩ := q20
 refine go 9 ?_
 refine cb rfl (fun h21 p21 => ?_) (fun h21 p21 => ?_)
 ·have hlt := atF_lt h21
  refine sx_row hx.uk hx.len (fun h0 _ => absurd hlt (by omega)) (fun g20 cap20 rest20 e20 hr20 hc20 hm20 => ?_)
  subst e20
  refine go 5 ?_
  refine o_v rfl (v_idx he rfl rfl rfl (posF nm l (nm x)) (by omega) hlt) ?_
  refine go 1 ?_
  refine o_stc _ (posF nm l (nm x)) (hx.uk.append hr20) he rfl rfl rfl rfl (Enc.one hr) (Nat.zero_add _) (by rw [List.length_append, hx.len]; omega) ?_
  refine sx_blk_eq (List.set_append_left _ _ (by rw [hx.len]; exact hlt)) ?_
  refine sx_unrow (m := l.length) (cap := cap20) (hx.uk.set rfl _) hr20 (by simp [hx.len]) hc20 hm20 ?_
  refine go 10 ?_
  refine fin1 rfl rfl ?_
  refine sx_pubrow (l := l.set (posF nm l (nm x)) x) rfl (by simp) ((hx.set hr _).flat) (fun I9 j9 R9 => ?_)
  exact q_i (by simp only [putL, h21, if_true]; exact R9)
 ·refine go 8 ?_
  refine o_buildSlice he he rfl rfl rfl rfl rfl rfl rfl (fun v30 => ?_)
  refine sx_row (xss := [x.cells]) (fun d hd => by rw [List.mem_singleton.1 hd]; rfl) rfl (fun h => absurd h (by decide)) (fun b30 cap30 rest30 e30 hr30 hc30 hm30 => ?_)
  subst e30
  refine sx_pubB (fun I30 j30 B30 => ?_)
  have hx := hx.le j30
  have hv := hv.le j30
  have hr := Enc.mono j30 hr
  refine go 1 ?_
  refine o_callX1 (insert_Prp _ _ l xss (posF nm l (nm x)) b30 cap30 hx hl (pos_le _ _ _) x _ rest30.flatten B30 hr (by omega) (by unfold maxLen at hm30; omega)) rfl rfl (fun v31 s31 q31 => ?_)
  obtain ⟨zss, rfl, hz⟩ := q31
  refine go 4 ?_
  refine fin1 rfl rfl ?_
  refine sx_pubrow (l := l.take (posF nm l (nm x)) ++ x :: l.drop (posF nm l (nm x))) rfl (by have := pos_le nm l (nm x); simp; omega) hz.flat (fun I9 j9 R9 => ?_)
  exact q_i (by simp only [putL, h21]; exact R9)

end Go.Proofs.YtdkjmaoelojpeaaGreat

/- Walks, printed by a program out of the code of the functions: each theorem is a contract of one function. -/
namespace Go.Proofs.YtdkjmaoelojpeaaGreat
open Go Go.Sx
set_option linter.all false
set_option maxRecDepth 20000
set_option maxHeartbeats 4000000
instance T.pl_184 : Has (plK Tryz.prog 184) [(0, 1), (1, 1)] := ⟨by kernel_rfl⟩
instance T.pl_81 : Has (plK Tryz.prog 81) [(0, 1)] := ⟨by kernel_rfl⟩
instance T.pl_87 : Has (plK Tryz.prog 87) [(0, 2), (2, 2), (4, 2)] := ⟨by kernel_rfl⟩
instance T.ty_87 : Has (tyK Tryz.prog 87) (true, 6) := ⟨by kernel_rfl⟩
instance T.zero_81 : Has (zeroK Tryz.prog 81) [.slice none 0 0] := ⟨by kernel_rfl⟩
instance T.zero_87 : Has (zeroK Tryz.prog 87) [.int .i64 0, .int .i64 0, .int .i64 0, .int .i64 0, .int .i64 0, .int .i64 0] := ⟨by kernel_rfl⟩
theorem apply1 (I : IMap) (v : Value) (l : List Part) (hv : RdS I v l) (hl : l.length ≤ 1000000) (x : Part) (B : Option Addr) (d : Nat) (hr : Enc.rd I (x.cells (.slice B x.props.length d)) x) (g4 : Nat) (c4 : ICells I g4 0 [v]) (hs : Srt Part.name l) :
    FnI Tryz.prog 129 #[.agg (x.cells (.slice B x.props.length d)).toArray, .pointer (some ⟨g4, 0, none⟩)] I (fun u J => ∃ w, u = .tuple #[.agg #[w], .int .i64 0] ∧ RdS J w (putL Part.name l x)) := by
 refine enter Tryz.func129 Tryz.call129 rfl Tryz.ntmps129 rfl (fun w0 => ?_)
 refine go 3 ?_
 refine o_box _ rfl rfl rfl (fun g2 => ?_)
 refine go 1 ?_
 refine o_alloc he rfl (fun g3 => ?_)
 refine go 6 ?_
 refine o_v rfl (v_ldI he rfl (c4 0 _ rfl)) ?_
 refine go 2 ?_
 refine o_call (put_Part _ v l hv hl x B d hr _ Part.name (fun J hJ y vs hr => apply11 J y vs hr) hs) rfl rfl (fun v8 I8 j8 q8 => ?_)
 obtain ⟨B8, d8, rfl, h8⟩ := q8
 refine go 1 ?_
 refine o_val rfl (v_build (pl := [(0, 1)]) he he rfl rfl) ?_
 refine go 1 ?_
 refine o_stw _ he rfl rfl rfl rfl rfl rfl ?_
 refine go 4 ?_
 refine fin2 rfl ⟨_, _, _, rfl, m0, .inr ⟨_, he, rfl, rfl⟩⟩ rfl ?_
 exact q_i ⟨_, rfl, B8, d8, rfl, h8⟩

theorem apply2 (I : IMap) (n : Int) :
    FnV Tryz.prog 132 #[.int .i64 n] I (.tuple #[.agg #[.slice none 0 0], .int .i64 n]) := by
 refine enter Tryz.func132 Tryz.call132 rfl Tryz.ntmps132 rfl (fun w0 => ?_)
 refine go 3 ?_
 refine o_alloc he rfl (fun g2 => ?_)
 refine go 6 ?_
 refine o_val rfl (v_build (pl := [(0, 1)]) he he rfl rfl) ?_
 refine go 2 ?_
 refine o_stw _ he rfl rfl rfl rfl rfl rfl ?_
 refine go 4 ?_
 refine fin2 rfl ⟨_, _, _, rfl, m0, .inr ⟨_, he, rfl, rfl⟩⟩ rfl ?_
 exact q_v rfl

theorem apply3 (I : IMap) (v : Value) (l : List Part) (hv : RdS I v l) (g4 : Nat) (c4 : ICells I g4 0 [v]) (f : FuncId) (cs : List Value) (p : Part → Bool) (hp : ∀ x ∈ l, ∀ vs, Enc.rd I vs x → FnV Tryz.prog f ([Value.agg vs.toArray] ++ cs).toArray I (.bool (p x))) :
    FnV Tryz.prog 135 #[.func (.func f) #[] cs.toArray, .pointer (some ⟨g4, 0, none⟩)] I (.bool (l.any p)) := by
 refine enter Tryz.func135 Tryz.call135 rfl Tryz.ntmps135 rfl (fun w0 => ?_)
 refine go 8 ?_
 refine o_v rfl (v_ldI he rfl (c4 0 _ rfl)) ?_
 refine go 2 ?_
 refine o_callV (containsFunc_Part _ v l hv f cs p hp) rfl rfl ?_
 refine go 4 ?_
 refine fin1 rfl rfl ?_
 exact q_v rfl

theorem apply4 (I : IMap) (x : Part) (vs : List Value) (h : Enc.rd I vs x) (g : Nat) (e : Evt) (cg : ICells I g 0 e.cells) :
    FnV Tryz.prog 138 #[.agg vs.toArray, .pointer (some ⟨g, 0, none⟩)] I (.bool (decide (x.into = e.into) && decide (x.slot = e.slot))) := by
 obtain ⟨ps, rfl, hps⟩ := h
 refine enter Tryz.func138 Tryz.call138 rfl Tryz.ntmps138 rfl (fun w0 => ?_)
 refine go 3 ?_
 refine o_box _ rfl rfl rfl (fun g2 => ?_)
 refine go 8 ?_
 refine o_v rfl (v_ldI he rfl (cg 4 _ rfl)) ?_
 refine go 2 ?_
 refine sxb 9 rfl (fun h9 p9 => ?_) (fun h9 p9 => ?_)
 ·refine go 3 ?_
  refine o_cons (o_yes rfl rfl h9 (o_val rfl (v_ldI he rfl (cg 5 _ rfl)) ?_))
  refine go 6 ?_
  refine fin1 rfl rfl ?_
  exact q_v (congrArg Value.bool (by simp only [h9, bS]))
 ·refine go 10 ?_
  refine fin1 rfl rfl ?_
  exact q_v (congrArg Value.bool (by simp only [h9, bS]))

theorem apply6 (I : IMap) (x : Part) (vs : List Value) (h : Enc.rd I vs x) (g : Nat) (q : Part) (s : Value) (cg : ICells I g 0 (q.cells s)) :
    FnV Tryz.prog 141 #[.agg vs.toArray, .pointer (some ⟨g, 0, none⟩)] I (.bool (decide (x.into = q.name))) := by
 obtain ⟨ps, rfl, hps⟩ := h
 refine enter Tryz.func141 Tryz.call141 rfl Tryz.ntmps141 rfl (fun w0 => ?_)
 refine go 3 ?_
 refine o_box _ rfl rfl rfl (fun g2 => ?_)
 refine go 8 ?_
 refine o_v rfl (v_ldI he rfl (cg 0 _ rfl)) ?_
 refine go 5 ?_
 refine fin1 rfl rfl ?_
 exact q_v rfl

theorem flApply (I : IMap) (vc : Value) (c : List Kind) (hvc : RdS I vc c) (hsc : SmC c) (v : Value) (l : List Part) (hv : RdS I v l) (hsf : SmF l) (e : Evt) (hse : SmE e) :
    FnI Tryz.prog 110 #[.agg #[vc], .agg #[v], .agg e.cells.toArray] I (fun u J => StIs J (applyF c l e) u) := by
 have hv0 := hv
 obtain ⟨A, c0, rfl, hA, hc, hm⟩ := hv
 refine enter Tryz.func110 Tryz.call110 rfl Tryz.ntmps110 rfl (fun w0 => ?_)
 refine go 3 ?_
 refine o_box _ rfl rfl rfl (fun g3 => ?_)
 refine go 1 ?_
 refine o_box _ rfl rfl rfl (fun g4 => ?_)
 refine go 1 ?_
 refine o_box _ rfl rfl rfl (fun g5 => ?_)
 refine go 1 ?_
 refine o_alloc he rfl (fun g6 => ?_)
 refine go 5 ?_
 refine c_cut (I' := I) (L' := [(3, .pointer (some ⟨g3, 0, none⟩)), (4, .pointer (some ⟨g4, 0, none⟩)), (5, .pointer (some ⟨g5, 0, none⟩)), (6, .pointer (some ⟨g6, 0, none⟩)), (28, .bool (!validS c l || !validE e))]) (H' := [.blk g6 81 [.slice none 0 0], .blk g5 49 e.cells, .blk g4 81 [.slice A l.length c0], .blk g3 25 [vc]]) ?_ ?_
 ·refine go 4 ?_
  refine o_callV (flValid _ vc c hvc hsc _ l hv0 hsf) rfl rfl ?_
  refine go 2 ?_
  refine sxb 24 rfl (fun h24 p24 => ?_) (fun h24 p24 => ?_)
  ·refine go 6 ?_
   exact q_cut ⟨rfl, rfl, rfl, rfl, (congrArg (fun b => some (Value.bool b)) (by simp only [h24, bS])), trivial⟩ rfl rfl
  ·refine go 2 ?_
   refine o_yes rfl rfl h24 (o_callV (evValid _ e hse) rfl rfl ?_)
   refine go 4 ?_
   exact q_cut ⟨rfl, rfl, rfl, rfl, (congrArg (fun b => some (Value.bool b)) (by simp only [h24, bS])), trivial⟩ rfl rfl
 ·refine cb rfl (fun h28 p28 => ?_) (fun h28 p28 => ?_)
  ·refine go 3 ?_
   refine o_val rfl (v_build (pl := [(0, 1)]) he he rfl rfl) ?_
   refine go 1 ?_
   refine o_stw _ he rfl rfl rfl rfl rfl rfl ?_
   refine go 5 ?_
   refine fin2 rfl ⟨_, _, _, rfl, m0, .inr ⟨_, he, rfl, rfl⟩⟩ rfl ?_
   exact q_i (StIs.fail (by simp only [applyF, h28, if_true]))
  ·have hV : validS c l = true ∧ validE e = true := by revert h28; simp
   obtain ⟨hsrt, hlen⟩ := validS_ord hV.1
   have hl6 : l.length ≤ 1000000 := by omega
   refine go 6 ?_
   refine o_callX0 (flOf _ _ l hv0) rfl rfl (fun v31 s31 q31 => ?_)
   obtain ⟨m31, kvs, rfl, rfl, hIx, _⟩ := q31
   refine go 1 ?_
   refine o_alloc he rfl (fun g8 => ?_)
   refine go 1 ?_
   refine o_stw _ he rfl rfl rfl rfl rfl rfl ?_
   refine go 4 ?_
   refine bring4 ?_
   refine sx_pub (fun Ig4 jg4 cg4 => ?_)
   have hvc := hvc.le jg4
   have hv0 := hv0.le jg4
   refine o_v rfl (v_makeFunc rfl rfl) ?_
   refine go 14 ?_
   refine bring1 ?_
   refine o_callK (flGet _ _ l hv0 m31 kvs hIx e.part) rfl rfl (fun v37 q37 => ?_)
   obtain ⟨vs11, rfl, s11, rfl, hs11⟩ := q37
   refine go 4 ?_
   refine o_alloc he rfl (fun g11 => ?_)
   refine go 1 ?_
   refine o_stw _ he rfl rfl rfl rfl rfl (Enc.one (α := Part) (I := Ig4) (x := partP l e) ⟨s11, rfl, hs11⟩) ?_
   refine go 11 ?_
   refine cb rfl (fun h42 p42 => ?_) (fun h42 p42 => ?_)
   ·refine go 6 ?_
    refine cb rfl (fun h43 p43 => ?_) (fun h43 p43 => ?_)
    ·refine go 4 ?_
     refine o_callV (apply2 _ 3) rfl rfl ?_
     refine go 3 ?_
     refine bring3 ?_
     refine o_stw _ he rfl rfl rfl rfl rfl rfl ?_
     refine go 6 ?_
     refine fin2 rfl ⟨_, _, _, rfl, m0, .inr ⟨_, he, rfl, rfl⟩⟩ rfl ?_
     exact q_i (StIs.fail (by simp only [applyF, h28, p42, applyMake, h43, Bool.true_eq_false, decide_true, decide_false, Int.reduceEq, reduceIte, if_true, if_false, Bool.false_eq_true, not_true, not_false_eq_true, bS]))
    ·refine go 9 ?_
     refine o_callE (catFind _ vc c hvc e.kind) rfl rfl (fun v52 q52 => ?_)
     obtain ⟨vs13, rfl, s13, rfl, hs13⟩ := q52
     refine go 4 ?_
     refine o_alloc he rfl (fun g13 => ?_)
     refine go 1 ?_
     refine o_stw _ he rfl rfl rfl rfl rfl (Enc.one (α := Kind) (I := Ig4) (x := (findK c e.kind).getD zKind) ⟨s13, rfl, hs13⟩) ?_
     refine go 9 ?_
     refine cb rfl (fun h56 p56 => ?_) (fun h56 p56 => ?_)
     ·refine go 4 ?_
      refine o_callV (apply2 _ 4) rfl rfl ?_
      refine go 3 ?_
      refine bring4 ?_
      refine o_stw _ he rfl rfl rfl rfl rfl rfl ?_
      refine go 6 ?_
      refine fin2 rfl ⟨_, _, _, rfl, m0, .inr ⟨_, he, rfl, rfl⟩⟩ rfl ?_
      exact q_i (StIs.fail (by simp only [applyF, h28, p42, applyMake, h43, p56, Bool.true_eq_false, decide_true, decide_false, Int.reduceEq, reduceIte, if_true, if_false, Bool.false_eq_true, not_true, not_false_eq_true, bS]))
     ·refine go 6 ?_
      refine o_v rfl (v_ldI he rfl (cg4 0 _ rfl)) ?_
      refine go 4 ?_
      refine cb rfl (fun h64 p64 => ?_) (fun h64 p64 => ?_)
      ·refine go 4 ?_
       refine o_callV (apply2 _ 7) rfl rfl ?_
       refine go 3 ?_
       refine bring4 ?_
       refine o_stw _ he rfl rfl rfl rfl rfl rfl ?_
       refine go 6 ?_
       refine fin2 rfl ⟨_, _, _, rfl, m0, .inr ⟨_, he, rfl, rfl⟩⟩ rfl ?_
       exact q_i (StIs.fail (by simp only [applyF, h28, p42, applyMake, h43, p56, p64, Bool.true_eq_false, Bool.true_eq_false, decide_true, decide_false, Int.reduceEq, reduceIte, if_true, if_false, Bool.false_eq_true, not_true, not_false_eq_true, bS]))
      ·refine go 14 ?_
       refine o_val rfl (v_build (pl := [(0, 1), (1, 1), (2, 1), (3, 1), (4, 1), (5, 1), (6, 1), (7, 1), (8, 6)]) he he rfl rfl) ?_
       refine go 1 ?_
       refine o_call (apply1 _ _ l hv0 hl6 (newP e) none 0 ⟨_, rfl, RdS.nil'⟩ g4 cg4 hsrt) rfl rfl (fun v79 I79 j79 q79 => ?_)
       obtain ⟨w79, rfl, ⟨B79, d79, rfl, hw79⟩⟩ := q79
       refine go 3 ?_
       refine bring4 ?_
       refine o_stw _ he rfl rfl rfl rfl rfl rfl ?_
       refine go 5 ?_
       refine fin2 rfl ⟨_, _, _, rfl, m0, .inr ⟨_, he, rfl, rfl⟩⟩ rfl ?_
       exact q_i (StIs.put (by simp only [applyF, h28, p42, applyMake, h43, p56, p64, Bool.true_eq_false, Bool.true_eq_false, decide_true, decide_false, Int.reduceEq, reduceIte, if_true, if_false, Bool.false_eq_true, not_true, not_false_eq_true, bS]) ⟨B79, d79, rfl, hw79⟩)
   ·refine go 7 ?_
    refine o_alloc he rfl (fun g15 => ?_)
    refine go 1 ?_
    refine o_stw _ he rfl rfl rfl rfl rfl (Enc.one (α := Part) (I := Ig4) (x := partP l e) ⟨s11, rfl, hs11⟩) ?_
    refine go 4 ?_
    refine c_cutx (α := Value) (Ix := (fun s15 => Ig4)) (Lx := (fun s15 => [(3, .pointer (some ⟨g3, 0, none⟩)), (4, .pointer (some ⟨g4, 0, none⟩)), (5, .pointer (some ⟨g5, 0, none⟩)), (6, .pointer (some ⟨g6, 0, none⟩)), (9, .func (.func 129) #[] #[.pointer (some ⟨g4, 0, none⟩)]), (10, .func (.func 132) #[] #[]), (11, .pointer (some ⟨g11, 0, none⟩)), (12, .bool (findP l e.part).isSome), (15, .pointer (some ⟨g15, 0, none⟩)), (16, .bool (otherO l e).isSome)])) (Hx := (fun s15 => [.blk g15 89 ((otherP l e).cells s15), .blk g11 89 ((partP l e).cells s11), .blk g6 81 [.slice none 0 0], .blk g5 49 e.cells, .blk g3 25 [vc]])) (p := (fun s15 => RdS Ig4 s15 (otherP l e).props)) ?_ ?_
    ·refine go 7 ?_
     refine cb rfl (fun h86 p86 => ?_) (fun h86 p86 => ?_)
     ·refine go 5 ?_
      refine bring2 ?_
      refine o_callK (flGet _ _ l hv0 m31 kvs hIx e.into) rfl rfl (fun v91 q91 => ?_)
      obtain ⟨vs15, rfl, s15, rfl, hs15⟩ := q91
      refine go 4 ?_
      refine bring1 ?_
      refine o_stw _ he rfl rfl rfl rfl rfl (Enc.one (α := Part) (I := Ig4) (x := (findP l e.into).getD zPart) ⟨s15, rfl, hs15⟩) ?_
      refine go 3 ?_
      refine bring1 ?_
      refine sx_drop ?_
      refine bring2 ?_
      refine sx_drop ?_
      exact q_cutx s15 (by simp only [otherP, otherO, p86, if_true]; exact hs15) ⟨rfl, rfl, rfl, rfl, rfl, rfl, rfl, rfl, rfl, (by simp only [otherO, p86, if_true, if_false]; rfl), trivial⟩ (by simp only [otherP, otherO, p86, if_true, if_false]; rfl) rfl
     ·refine go 2 ?_
      refine bring2 ?_
      refine sx_drop ?_
      refine bring2 ?_
      refine sx_drop ?_
      exact q_cutx s11 (by simp only [otherP, otherO, p86, if_false]; exact hs11) ⟨rfl, rfl, rfl, rfl, rfl, rfl, rfl, rfl, rfl, (by simp only [otherO, p86, if_true, if_false]; rfl), trivial⟩ (by simp only [otherP, otherO, p86, if_true, if_false]; rfl) rfl
    ·intro s15 hs15
     refine go 6 ?_
     refine sxb 96 rfl (fun h96 p96 => ?_) (fun h96 p96 => ?_)
     ·refine go 5 ?_
      refine c_true rfl ?_
      refine go 4 ?_
      refine o_callV (apply2 _ 2) rfl rfl ?_
      refine go 3 ?_
      refine bring2 ?_
      refine o_stw _ he rfl rfl rfl rfl rfl rfl ?_
      refine go 5 ?_
      refine fin2 rfl ⟨_, _, _, rfl, m0, .inr ⟨_, he, rfl, rfl⟩⟩ rfl ?_
      exact q_i (StIs.fail (by simp only [applyF, h28, p42, applyRest, h96, Bool.true_eq_false, decide_true, decide_false, Int.reduceEq, reduceIte, if_true, if_false, Bool.false_eq_true, not_true, not_false_eq_true, bS]))
     ·refine go 5 ?_
      refine cb rfl (fun h99 p99 => ?_) (fun h99 p99 => ?_)
      ·refine go 4 ?_
       refine o_callV (apply2 _ 2) rfl rfl ?_
       refine go 3 ?_
       refine bring2 ?_
       refine o_stw _ he rfl rfl rfl rfl rfl rfl ?_
       refine go 5 ?_
       refine fin2 rfl ⟨_, _, _, rfl, m0, .inr ⟨_, he, rfl, rfl⟩⟩ rfl ?_
       exact q_i (StIs.fail (by simp only [applyF, h28, p42, applyRest, h96, h99, Bool.true_eq_false, decide_true, decide_false, Int.reduceEq, reduceIte, if_true, if_false, Bool.false_eq_true, not_true, not_false_eq_true, bS]))
      ·have hmem : partP l e ∈ l := partP_mem (by simpa using h96)
       refine go 8 ?_
       refine sxb 106 rfl (fun h106 p106 => ?_) (fun h106 p106 => ?_)
       ·refine go 5 ?_
        refine c_true rfl ?_
        refine go 4 ?_
        refine o_callV (apply2 _ 5) rfl rfl ?_
        refine go 3 ?_
        refine bring2 ?_
        refine o_stw _ he rfl rfl rfl rfl rfl rfl ?_
        refine go 5 ?_
        refine fin2 rfl ⟨_, _, _, rfl, m0, .inr ⟨_, he, rfl, rfl⟩⟩ rfl ?_
        exact q_i (StIs.fail (by simp only [applyF, h28, p42, applyRest, h96, h99, h106, Bool.true_eq_false, decide_true, decide_false, Int.reduceEq, reduceIte, if_true, if_false, Bool.false_eq_true, not_true, not_false_eq_true, bS]))
       ·refine go 5 ?_
        refine cb rfl (fun h109 p109 => ?_) (fun h109 p109 => ?_)
        ·refine go 4 ?_
         refine o_callV (apply2 _ 5) rfl rfl ?_
         refine go 3 ?_
         refine bring2 ?_
         refine o_stw _ he rfl rfl rfl rfl rfl rfl ?_
         refine go 5 ?_
         refine fin2 rfl ⟨_, _, _, rfl, m0, .inr ⟨_, he, rfl, rfl⟩⟩ rfl ?_
         exact q_i (StIs.fail (by simp only [applyF, h28, p42, applyRest, h96, h99, h106, h109, Bool.true_eq_false, decide_true, decide_false, Int.reduceEq, reduceIte, if_true, if_false, Bool.false_eq_true, not_true, not_false_eq_true, bS]))
        ·refine go 4 ?_
         refine o_v rfl (v_makeFunc rfl rfl) ?_
         refine go 9 ?_
         refine o_callE (catFind _ vc c hvc (partP l e).kind) rfl rfl (fun v119 q119 => ?_)
         obtain ⟨vs18, rfl, s18, rfl, hs18⟩ := q119
         refine go 4 ?_
         refine o_alloc he rfl (fun g18 => ?_)
         refine go 1 ?_
         refine o_stw _ he rfl rfl rfl rfl rfl (Enc.one (α := Kind) (I := Ig4) (x := kindP c l e) ⟨s18, rfl, hs18⟩) ?_
         refine go 4 ?_
         refine c_cutx3 (Ix := (fun J p2 s2 => J)) (Lx := (fun J p2 s2 => [(6, .pointer (some ⟨g6, 0, none⟩)), (9, .func (.func 129) #[] #[.pointer (some ⟨g4, 0, none⟩)]), (11, .pointer (some ⟨g11, 0, none⟩))])) (Hx := (fun J p2 s2 => [.blk g11 89 (p2.cells s2), .blk g6 81 [.slice none 0 0]])) (p := (fun J p2 s2 => ILe Ig4 J ∧ RdS J s2 p2.props ∧ applyF c l e = putR l p2)) ?_ ?_
         ·refine go 13 ?_
          refine cb rfl (fun h124 p124 => ?_) (fun h124 p124 => ?_)
          ·refine go 7 ?_
           refine sxb 129 rfl (fun h129 p129 => ?_) (fun h129 p129 => ?_)
           ·refine go 13 ?_
            refine c_true rfl ?_
            refine go 4 ?_
            refine o_callV (apply2 _ 4) rfl rfl ?_
            refine go 3 ?_
            refine bring3 ?_
            refine o_stw _ he rfl rfl rfl rfl rfl rfl ?_
            refine go 8 ?_
            refine fin2 rfl ⟨_, _, _, rfl, m0, .inr ⟨_, he, rfl, rfl⟩⟩ rfl ?_
            exact q_i (StIs.fail (by simp only [applyF, h28, p42, applyRest, applyOp, applyFit, applyRemove, applyRun, applyNote, applyScrap, seatTaken, holdsAny, kindP, noted, p28, p42, p96, p99, p106, p109, p124, p129, h96, h99, h106, h109, h124, h129, Bool.true_eq_false, decide_true, decide_false, Int.reduceEq, reduceIte, if_true, if_false, Bool.false_eq_true, not_true, not_false_eq_true, bS]))
           ·refine go 8 ?_
            refine o_yes rfl rfl h129 (o_callV (catTakes _ vc c hvc (otherP l e).kind e.slot (partP l e).kind) rfl rfl ?_)
            refine go 5 ?_
            refine cb rfl (fun h126 p126 => ?_) (fun h126 p126 => ?_)
            ·refine go 4 ?_
             refine o_callV (apply2 _ 4) rfl rfl ?_
             refine go 3 ?_
             refine bring3 ?_
             refine o_stw _ he rfl rfl rfl rfl rfl rfl ?_
             refine go 8 ?_
             refine fin2 rfl ⟨_, _, _, rfl, m0, .inr ⟨_, he, rfl, rfl⟩⟩ rfl ?_
             exact q_i (StIs.fail (by simp only [applyF, h28, p42, applyRest, applyOp, applyFit, applyRemove, applyRun, applyNote, applyScrap, seatTaken, holdsAny, kindP, noted, p28, p42, p96, p99, p106, p109, p124, p129, p126, h96, h99, h106, h109, h124, h129, h126, Bool.true_eq_false, decide_true, decide_false, Int.reduceEq, reduceIte, if_true, if_false, Bool.false_eq_true, not_true, not_false_eq_true, bS]))
            ·refine go 8 ?_
             refine cb rfl (fun h144 p144 => ?_) (fun h144 p144 => ?_)
             ·refine go 4 ?_
              refine o_callV (apply2 _ 5) rfl rfl ?_
              refine go 3 ?_
              refine bring3 ?_
              refine o_stw _ he rfl rfl rfl rfl rfl rfl ?_
              refine go 8 ?_
              refine fin2 rfl ⟨_, _, _, rfl, m0, .inr ⟨_, he, rfl, rfl⟩⟩ rfl ?_
              exact q_i (StIs.fail (by simp only [applyF, h28, p42, applyRest, applyOp, applyFit, applyRemove, applyRun, applyNote, applyScrap, seatTaken, holdsAny, kindP, noted, p28, p42, p96, p99, p106, p109, p124, p129, p126, p144, h96, h99, h106, h109, h124, h129, h126, h144, Bool.true_eq_false, decide_true, decide_false, Int.reduceEq, reduceIte, if_true, if_false, Bool.false_eq_true, not_true, not_false_eq_true, bS]))
             ·refine go 3 ?_
              refine bring4 ?_
              refine sx_pub (fun Ig5 jg5 cg5 => ?_)
              have hvc := hvc.le jg5
              have hv0 := hv0.le jg5
              have cg4 := cg4.le jg5
              have hs11 := hs11.le jg5
              have hs18 := hs18.le jg5
              refine o_v rfl (v_makeFunc rfl rfl) ?_
              refine go 1 ?_
              refine o_callV (apply3 _ _ l hv0 g4 cg4 _ [.pointer (some ⟨g5, 0, none⟩)] (fun x => decide (x.into = e.into) && decide (x.slot = e.slot)) (fun x hx vs hr => apply4 _ x vs hr g5 e cg5)) rfl rfl ?_
              refine go 3 ?_
              refine cb rfl (fun h152 p152 => ?_) (fun h152 p152 => ?_)
              ·refine go 4 ?_
               refine o_callV (apply2 _ 6) rfl rfl ?_
               refine go 3 ?_
               refine bring3 ?_
               refine o_stw _ he rfl rfl rfl rfl rfl rfl ?_
               refine go 8 ?_
               refine fin2 rfl ⟨_, _, _, rfl, m0, .inr ⟨_, he, rfl, rfl⟩⟩ rfl ?_
               exact q_i (StIs.fail (by simp only [applyF, h28, p42, applyRest, applyOp, applyFit, applyRemove, applyRun, applyNote, applyScrap, seatTaken, holdsAny, kindP, noted, p28, p42, p96, p99, p106, p109, p124, p129, p126, p144, p152, h96, h99, h106, h109, h124, h129, h126, h144, h152, Bool.true_eq_false, decide_true, decide_false, Int.reduceEq, reduceIte, if_true, if_false, Bool.false_eq_true, not_true, not_false_eq_true, bS]))
              ·refine go 3 ?_
               refine bring2 ?_
               refine d_start1 T.mixed ?_
               refine d_tv 0 rfl rfl (by kernel_rfl) rfl (.cons _ (.refl _)) rfl (v_fieldAddr he rfl) ?_
               refine d_tv 1 rfl rfl (by kernel_rfl) rfl (.cons _ (.refl _)) rfl (v_ldI he rfl (cg5 4 _ rfl)) ?_
               refine d_tv 2 rfl rfl (by kernel_rfl) rfl (.cons _ (.refl _)) rfl (v_fieldAddr he rfl) ?_
               refine d_tv 3 rfl rfl (by kernel_rfl) rfl (.cons _ (.refl _)) rfl (v_ldI he rfl (cg5 5 _ rfl)) ?_
               refine d_tv 4 rfl rfl (by kernel_rfl) rfl (.cons _ (.refl _)) rfl (v_fieldAddr he rfl) ?_
               refine d_one 5 (by kernel_rfl) rfl ?_
               refine o_st1 he rfl rfl rfl rfl ?_
               refine d_on (fun _ m => m.keeps (.cons _ (.refl _))) ?_
               refine d_tv 6 rfl rfl (by kernel_rfl) rfl (.cons _ (.refl _)) rfl (v_fieldAddr he rfl) ?_
               refine d_one 7 (by kernel_rfl) rfl ?_
               refine o_st1 he rfl rfl rfl rfl ?_
               refine d_on (fun _ m => m.keeps (.cons _ (.refl _))) ?_
               refine d_done (by kernel_rfl) ?_
               refine go 2 ?_
               refine bring1 ?_
               refine sx_drop ?_
               refine bring1 ?_
               refine sx_drop ?_
               refine bring2 ?_
               refine sx_drop ?_
               exact q_cutx3 (_) ({ partP l e with into := e.into, slot := e.slot }) (_) ⟨jg5, hs11, by simp only [applyF, h28, p42, applyRest, h96, h99, h106, h109, applyOp, applyFit, applyRemove, applyRun, applyNote, applyScrap, seatTaken, holdsAny, kindP, noted, overhauled, p28, p42, p96, p99, p106, p109, p124, p129, p126, p144, p152, h96, h99, h106, h109, h124, h129, h126, h144, h152, Bool.true_eq_false, decide_true, decide_false, Int.reduceEq, reduceIte, if_true, if_false, Bool.false_eq_true, not_true, not_false_eq_true, bS]⟩ sb rfl rfl
          ·refine go 6 ?_
           refine cb rfl (fun h166 p166 => ?_) (fun h166 p166 => ?_)
           ·refine go 8 ?_
            refine cb rfl (fun h170 p170 => ?_) (fun h170 p170 => ?_)
            ·refine go 4 ?_
             refine o_callV (apply2 _ 5) rfl rfl ?_
             refine go 3 ?_
             refine bring3 ?_
             refine o_stw _ he rfl rfl rfl rfl rfl rfl ?_
             refine go 7 ?_
             refine fin2 rfl ⟨_, _, _, rfl, m0, .inr ⟨_, he, rfl, rfl⟩⟩ rfl ?_
             exact q_i (StIs.fail (by simp only [applyF, h28, p42, applyRest, applyOp, applyFit, applyRemove, applyRun, applyNote, applyScrap, seatTaken, holdsAny, kindP, noted, p28, p42, p96, p99, p106, p109, p124, p166, p170, h96, h99, h106, h109, h124, h166, h170, Bool.true_eq_false, decide_true, decide_false, Int.reduceEq, reduceIte, if_true, if_false, Bool.false_eq_true, not_true, not_false_eq_true, bS]))
            ·refine go 5 ?_
             refine bring2 ?_
             refine o_st1 he rfl rfl rfl rfl ?_
             refine go 2 ?_
             refine o_st1 he rfl rfl rfl rfl ?_
             refine go 3 ?_
             refine bring1 ?_
             refine sx_drop ?_
             refine bring1 ?_
             refine sx_drop ?_
             refine bring2 ?_
             refine sx_drop ?_
             refine bring2 ?_
             refine sx_drop ?_
             exact q_cutx3 (_) ({ partP l e with into := nil8, slot := nil8 }) (_) ⟨ILe.refl _, hs11, by simp only [applyF, h28, p42, applyRest, h96, h99, h106, h109, applyOp, applyFit, applyRemove, applyRun, applyNote, applyScrap, seatTaken, holdsAny, kindP, noted, overhauled, p28, p42, p96, p99, p106, p109, p124, p166, p170, h96, h99, h106, h109, h124, h166, h170, Bool.true_eq_false, decide_true, decide_false, Int.reduceEq, reduceIte, if_true, if_false, Bool.false_eq_true, not_true, not_false_eq_true, bS]⟩ sb rfl rfl
           ·refine go 6 ?_
            refine cb rfl (fun h177 p177 => ?_) (fun h177 p177 => ?_)
            ·refine go 7 ?_
             refine cb rfl (fun h181 p181 => ?_) (fun h181 p181 => ?_)
             ·refine go 4 ?_
              refine o_callV (apply2 _ 4) rfl rfl ?_
              refine go 3 ?_
              refine bring3 ?_
              refine o_stw _ he rfl rfl rfl rfl rfl rfl ?_
              refine go 6 ?_
              refine fin2 rfl ⟨_, _, _, rfl, m0, .inr ⟨_, he, rfl, rfl⟩⟩ rfl ?_
              exact q_i (StIs.fail (by simp only [applyF, h28, p42, applyRest, applyOp, applyFit, applyRemove, applyRun, applyNote, applyScrap, seatTaken, holdsAny, kindP, noted, p28, p42, p96, p99, p106, p109, p124, p166, p177, p181, h96, h99, h106, h109, h124, h166, h177, h181, Bool.true_eq_false, decide_true, decide_false, Int.reduceEq, reduceIte, if_true, if_false, Bool.false_eq_true, not_true, not_false_eq_true, bS]))
             ·refine go 3 ?_
              refine sx_drop ?_
              refine sx_drop ?_
              refine bring2 ?_
              refine sx_drop ?_
              refine bring2 ?_
              refine sx_drop ?_
              exact q_cutx3 (_) (partP l e) (_) ⟨ILe.refl _, hs11, by simp only [applyF, h28, p42, applyRest, h96, h99, h106, h109, applyOp, applyFit, applyRemove, applyRun, applyNote, applyScrap, seatTaken, holdsAny, kindP, noted, overhauled, p28, p42, p96, p99, p106, p109, p124, p166, p177, p181, h96, h99, h106, h109, h124, h166, h177, h181, Bool.true_eq_false, decide_true, decide_false, Int.reduceEq, reduceIte, if_true, if_false, Bool.false_eq_true, not_true, not_false_eq_true, bS]⟩ sb rfl rfl
            ·refine go 6 ?_
             refine cb rfl (fun h186 p186 => ?_) (fun h186 p186 => ?_)
             ·refine go 5 ?_
              refine o_v rfl (v_imax rfl rfl) ?_
              refine go 1 ?_
              refine o_val rfl (v_build (pl := [(0, 2), (2, 2), (4, 2)]) he he rfl rfl) ?_
              refine go 2 ?_
              refine bring2 ?_
              refine o_st1 he rfl rfl rfl rfl ?_
              refine go 2 ?_
              refine o_st _ _ he rfl rfl rfl rfl rfl rfl rfl ?_
              refine go 3 ?_
              refine bring1 ?_
              refine sx_drop ?_
              refine bring1 ?_
              refine sx_drop ?_
              refine bring2 ?_
              refine sx_drop ?_
              refine bring2 ?_
              refine sx_drop ?_
              exact q_cutx3 (_) (overhauled e (partP l e)) (_) ⟨ILe.refl _, hs11, by simp only [applyF, h28, p42, applyRest, h96, h99, h106, h109, applyOp, applyFit, applyRemove, applyRun, applyNote, applyScrap, seatTaken, holdsAny, kindP, noted, overhauled, p28, p42, p96, p99, p106, p109, p124, p166, p177, p186, h96, h99, h106, h109, h124, h166, h177, h186, Bool.true_eq_false, decide_true, decide_false, Int.reduceEq, reduceIte, if_true, if_false, Bool.false_eq_true, not_true, not_false_eq_true, bS]⟩ sb rfl rfl
             ·refine go 6 ?_
              refine cb rfl (fun h196 p196 => ?_) (fun h196 p196 => ?_)
              ·refine go 9 ?_
               refine o_val rfl (v_build (pl := [(0, 1), (1, 1)]) he he rfl rfl) ?_
               refine go 1 ?_
               refine o_call (put_Prp _ s11 (partP l e).props hs11 (by have := (validS_part hV.1 hmem).2; omega) ⟨e.key, e.value⟩ rfl _ Prp.key (fun J hJ y vs hr => apply5 J y vs hr) (validS_part hV.1 hmem).1) rfl rfl (fun v205 I205 j205 q205 => ?_)
               obtain ⟨B205, d205, rfl, h205⟩ := q205
               refine go 2 ?_
               refine bring2 ?_
               refine o_st1 he rfl rfl rfl rfl ?_
               refine go 10 ?_
               refine cb rfl (fun h210 p210 => ?_) (fun h210 p210 => ?_)
               ·refine go 4 ?_
                refine o_callV (apply2 _ 7) rfl rfl ?_
                refine go 3 ?_
                refine bring3 ?_
                refine o_stw _ he rfl rfl rfl rfl rfl rfl ?_
                refine go 6 ?_
                refine fin2 rfl ⟨_, _, _, rfl, m0, .inr ⟨_, he, rfl, rfl⟩⟩ rfl ?_
                exact q_i (StIs.fail (by simp only [applyF, h28, p42, applyRest, applyOp, applyFit, applyRemove, applyRun, applyNote, applyScrap, seatTaken, holdsAny, kindP, noted, p28, p42, p96, p99, p106, p109, p124, p166, p177, p186, p196, p210, h96, h99, h106, h109, h124, h166, h177, h186, h196, h210, Bool.true_eq_false, decide_true, decide_false, Int.reduceEq, reduceIte, if_true, if_false, Bool.false_eq_true, not_true, not_false_eq_true, bS]))
               ·refine go 3 ?_
                refine bring1 ?_
                refine sx_drop ?_
                refine bring1 ?_
                refine sx_drop ?_
                refine bring2 ?_
                refine sx_drop ?_
                refine bring2 ?_
                refine sx_drop ?_
                exact q_cutx3 (_) (noted e (partP l e)) (_) ⟨j205, ⟨B205, d205, rfl, h205⟩, by simp only [applyF, h28, p42, applyRest, h96, h99, h106, h109, applyOp, applyFit, applyRemove, applyRun, applyNote, applyScrap, seatTaken, holdsAny, kindP, noted, overhauled, p28, p42, p96, p99, p106, p109, p124, p166, p177, p186, p196, p210, h96, h99, h106, h109, h124, h166, h177, h186, h196, h210, Bool.true_eq_false, decide_true, decide_false, Int.reduceEq, reduceIte, if_true, if_false, Bool.false_eq_true, not_true, not_false_eq_true, bS]⟩ sb rfl rfl
              ·refine go 6 ?_
               refine cb rfl (fun h215 p215 => ?_) (fun h215 p215 => ?_)
               ·refine go 7 ?_
                refine sxb 220 rfl (fun h220 p220 => ?_) (fun h220 p220 => ?_)
                ·refine go 6 ?_
                 refine c_true rfl ?_
                 refine go 4 ?_
                 refine o_callV (apply2 _ 5) rfl rfl ?_
                 refine go 3 ?_
                 refine bring3 ?_
                 refine o_stw _ he rfl rfl rfl rfl rfl rfl ?_
                 refine go 7 ?_
                 refine fin2 rfl ⟨_, _, _, rfl, m0, .inr ⟨_, he, rfl, rfl⟩⟩ rfl ?_
                 exact q_i (StIs.fail (by simp only [applyF, h28, p42, applyRest, applyOp, applyFit, applyRemove, applyRun, applyNote, applyScrap, seatTaken, holdsAny, kindP, noted, p28, p42, p96, p99, p106, p109, p124, p166, p177, p186, p196, p215, p220, h96, h99, h106, h109, h124, h166, h177, h186, h196, h215, h220, Bool.true_eq_false, decide_true, decide_false, Int.reduceEq, reduceIte, if_true, if_false, Bool.false_eq_true, not_true, not_false_eq_true, bS]))
                ·refine go 1 ?_
                 refine o_cons (o_yes rfl rfl h220 (o_val rfl (v_makeFunc rfl rfl) ?_))
                 refine go 1 ?_
                 refine o_yes rfl rfl h220 (o_lendB m2 (fun I2 hI2 c2 => apply3 I2 _ l (hv0.le hI2) g4 (cg4.le hI2) _ [.pointer (some ⟨g11, 0, none⟩)] (fun x => decide (x.into = (partP l e).name)) (fun x hx vs hr => apply6 I2 x vs hr g11 _ _ c2)) rfl rfl ?_)
                 refine go 3 ?_
                 refine cb rfl (fun h224 p224 => ?_) (fun h224 p224 => ?_)
                 ·refine go 4 ?_
                  refine o_callV (apply2 _ 5) rfl rfl ?_
                  refine go 3 ?_
                  refine bring3 ?_
                  refine o_stw _ he rfl rfl rfl rfl rfl rfl ?_
                  refine go 7 ?_
                  refine fin2 rfl ⟨_, _, _, rfl, m0, .inr ⟨_, he, rfl, rfl⟩⟩ rfl ?_
                  exact q_i (StIs.fail (by simp only [applyF, h28, p42, applyRest, applyOp, applyFit, applyRemove, applyRun, applyNote, applyScrap, seatTaken, holdsAny, kindP, noted, p28, p42, p96, p99, p106, p109, p124, p166, p177, p186, p196, p215, p220, p224, h96, h99, h106, h109, h124, h166, h177, h186, h196, h215, h220, h224, Bool.true_eq_false, decide_true, decide_false, Int.reduceEq, reduceIte, if_true, if_false, Bool.false_eq_true, not_true, not_false_eq_true, bS]))
                 ·refine go 5 ?_
                  refine bring2 ?_
                  refine o_st1 he rfl rfl rfl rfl ?_
                  refine go 3 ?_
                  refine bring1 ?_
                  refine sx_drop ?_
                  refine bring1 ?_
                  refine sx_drop ?_
                  refine bring2 ?_
                  refine sx_drop ?_
                  refine bring2 ?_
                  refine sx_drop ?_
                  exact q_cutx3 (_) ({ partP l e with scrapped := true }) (_) ⟨ILe.refl _, hs11, by simp only [applyF, h28, p42, applyRest, h96, h99, h106, h109, applyOp, applyFit, applyRemove, applyRun, applyNote, applyScrap, seatTaken, holdsAny, kindP, noted, overhauled, p28, p42, p96, p99, p106, p109, p124, p166, p177, p186, p196, p215, p220, p224, h96, h99, h106, h109, h124, h166, h177, h186, h196, h215, h220, h224, Bool.true_eq_false, decide_true, decide_false, Int.reduceEq, reduceIte, if_true, if_false, Bool.false_eq_true, not_true, not_false_eq_true, bS]⟩ sb rfl rfl
               ·refine go 3 ?_
                refine sx_drop ?_
                refine sx_drop ?_
                refine bring2 ?_
                refine sx_drop ?_
                refine bring2 ?_
                refine sx_drop ?_
                exact q_cutx3 (_) (partP l e) (_) ⟨ILe.refl _, hs11, by simp only [applyF, h28, p42, applyRest, h96, h99, h106, h109, applyOp, applyFit, applyRemove, applyRun, applyNote, applyScrap, seatTaken, holdsAny, kindP, noted, overhauled, p28, p42, p96, p99, p106, p109, p124, p166, p177, p186, p196, p215, h96, h99, h106, h109, h124, h166, h177, h186, h196, h215, Bool.true_eq_false, decide_true, decide_false, Int.reduceEq, reduceIte, if_true, if_false, Bool.false_eq_true, not_true, not_false_eq_true, bS]⟩ sb rfl rfl
         ·rintro J p2 s2 ⟨hJ, ⟨B2, d2, rfl, hB2⟩, hA⟩
          refine go 5 ?_
          refine o_call (apply1 _ _ l (hv0.le hJ) hl6 p2 B2 d2 ⟨_, rfl, B2, d2, rfl, hB2⟩ g4 (cg4.le hJ) hsrt) rfl rfl (fun v232 I232 j232 q232 => ?_)
          obtain ⟨w232, rfl, ⟨B232, d232, rfl, hw232⟩⟩ := q232
          refine go 3 ?_
          refine bring1 ?_
          refine o_stw _ he rfl rfl rfl rfl rfl rfl ?_
          refine go 4 ?_
          refine fin2 rfl ⟨_, _, _, rfl, m0, .inr ⟨_, he, rfl, rfl⟩⟩ rfl ?_
          exact q_i (StIs.put hA ⟨B232, d232, rfl, hw232⟩)

end Go.Proofs.YtdkjmaoelojpeaaGreat

/- Walks, printed by a program out of the code of the functions: each theorem is a contract of one function. -/
namespace Go.Proofs.YtdkjmaoelojpeaaGreat
open Go Go.Sx
set_option linter.all false
set_option maxRecDepth 20000
set_option maxHeartbeats 4000000
theorem swapRange (I : IMap) (l : List Evt) (N : Nat) (hN : l.length = N) (g a b n : Nat) (f : FuncId) (h : a + n ≤ b) (hb : b + n ≤ l.length) (hl : l.length ≤ 1000000) :
    FnM Tryz.prog 200 #[.slice (some ⟨g, 0, none⟩) N N, .int .i64 ((a : Nat) : Int), .int .i64 ((b : Nat) : Int), .int .i64 ((n : Nat) : Int), .func (.func f) #[] #[]] I (.blk g 49 (evCh (l)).flatten) (.blk g 49 (evCh (swpN l a b n)).flatten) := by
 refine enter Tryz.func200 Tryz.call200 rfl Tryz.ntmps200 rfl (fun w0 => ?_)
 refine go 6 ?_
 refine c_loop (α := Nat) 0 (fun i => I)
  (fun i => [(0, .slice (some ⟨g, 0, none⟩) N N), (1, .int .i64 ((a : Nat) : Int)), (2, .int .i64 ((b : Nat) : Int)), (3, .int .i64 ((n : Nat) : Int)), (10, .int .i64 ((i : Nat) : Int))])
  (fun i => [.blk g 49 (evCh (swpN l a b i)).flatten])
  (fun i => i ≤ n)
  (fun i => n - i) (Nat.zero_le _) rfl sb rfl ?_
 intro i hi
 refine go 8 ?_
 refine cb rfl (fun h13 p13 => ?_) (fun h13 p13 => ?_)
 ·have hlt : i < n := by omega
  have hm := swpN_len l a b i
  have h1 : a + i < (swpN l a b i).length := by omega
  have h2 : b + i < (swpN l a b i).length := by omega
  refine go 4 ?_
  refine d_start1 T.mixed ?_
  refine d_tv 0 rfl rfl (by kernel_rfl) rfl (.cons _ .slnil) rfl (v_move rfl) ?_
  refine d_tv 1 rfl rfl (by kernel_rfl) rfl (.cons _ .slnil) rfl (v_move rfl) ?_
  refine d_tv 2 rfl rfl (by kernel_rfl) rfl (.cons _ .slnil) rfl (v_move rfl) ?_
  refine d_tv 3 rfl rfl (by kernel_rfl) rfl (.cons _ .slnil) rfl (v_add rfl rfl ⟨by omega, by omega⟩) ?_
  refine d_tv 4 rfl rfl (by kernel_rfl) rfl (.cons _ .slnil) rfl (v_move rfl) ?_
  refine d_tv 5 rfl rfl (by kernel_rfl) rfl (.cons _ .slnil) rfl (v_move rfl) ?_
  refine d_tv 6 rfl rfl (by kernel_rfl) rfl (.cons _ .slnil) rfl (v_move rfl) ?_
  refine d_tv 7 rfl rfl (by kernel_rfl) rfl (.cons _ .slnil) rfl (v_add rfl rfl ⟨by omega, by omega⟩) ?_
  refine d_tv 8 rfl rfl (by kernel_rfl) rfl (.cons _ .slnil) rfl (v_move rfl) ?_
  refine d_tv 9 rfl rfl (by kernel_rfl) rfl (.cons _ .slnil) rfl (v_move rfl) ?_
  refine d_tv 10 rfl rfl (by kernel_rfl) rfl (.cons _ .slnil) rfl (v_move rfl) ?_
  refine d_tv 11 rfl rfl (by kernel_rfl) rfl (.cons _ .slnil) rfl (v_add rfl rfl ⟨by omega, by omega⟩) ?_
  refine d_tv 12 rfl rfl (by kernel_rfl) rfl (.cons _ .slnil) rfl (v_idx he rfl rfl rfl (b + i) (by omega) (by omega)) ?_
  refine d_tv 14 rfl rfl (by kernel_rfl) rfl (.cons _ .slnil) rfl (v_move rfl) ?_
  refine d_tv 15 rfl rfl (by kernel_rfl) rfl (.cons _ .slnil) rfl (v_move rfl) ?_
  refine d_tv 16 rfl rfl (by kernel_rfl) rfl (.cons _ .slnil) rfl (v_move rfl) ?_
  refine d_tv 17 rfl rfl (by kernel_rfl) rfl (.cons _ .slnil) rfl (v_add rfl rfl ⟨by omega, by omega⟩) ?_
  refine d_tv 18 rfl rfl (by kernel_rfl) rfl (.cons _ .slnil) rfl (v_idx he rfl rfl rfl (a + i) (by omega) (by omega)) ?_
  refine d_two 13 19 (by kernel_rfl) rfl rfl ?_ ?_
  ·refine o_val rfl (v_ldc m0 (evCh_ukE _) he rfl (b + i) (by omega) (evCh_at h2)) ?_
   refine d_on (fun _ m => m.keeps (.cons _ .slnil)) ?_
   refine d_one 19 (by kernel_rfl) rfl ?_
   refine o_val rfl (v_ldc m0 (evCh_ukE _) he rfl (a + i) (by omega) (evCh_at h1)) ?_
   refine d_on (fun _ m => m.keeps (.cons _ .slnil)) ?_
   refine d_tv 20 rfl rfl (by kernel_rfl) rfl (.cons _ .slnil) rfl (v_idx he rfl rfl rfl (a + i) (by omega) (by omega)) ?_
   refine d_one 21 (by kernel_rfl) rfl ?_
   refine o_stc _ (a + i) (by first | exact evCh_ukE _ | exact (evCh_ukE _).set rfl _) he rfl rfl rfl rfl rfl (by omega) (by simp [evCh_len]; omega) ?_
   refine d_on (fun _ m => m.keeps (.cons _ .slnil)) ?_
   refine d_tv 22 rfl rfl (by kernel_rfl) rfl (.cons _ .slnil) rfl (v_idx he rfl rfl rfl (b + i) (by omega) (by omega)) ?_
   refine d_one 23 (by kernel_rfl) rfl ?_
   refine o_stc _ (b + i) (by first | exact evCh_ukE _ | exact (evCh_ukE _).set rfl _) he rfl rfl rfl rfl rfl (by omega) (by simp [evCh_len]; omega) ?_
   refine d_on (fun _ m => m.keeps (.cons _ .slnil)) ?_
   refine d_done (by kernel_rfl) ?_
   refine go 8 ?_
   exact q_next (i + 1) (by omega) (by omega) rfl sb (by rw [swpN]; first | rw [← evCh_swp h1 h2] | rw [← evCh_swp' h1 h2 (by omega)])
  ·refine o_val rfl (v_ldc m0 (evCh_ukE _) he rfl (a + i) (by omega) (evCh_at h1)) ?_
   refine d_on (fun _ m => m.keeps (.cons _ .slnil)) ?_
   refine d_one 13 (by kernel_rfl) rfl ?_
   refine o_val rfl (v_ldc m0 (evCh_ukE _) he rfl (b + i) (by omega) (evCh_at h2)) ?_
   refine d_on (fun _ m => m.keeps (.cons _ .slnil)) ?_
   refine d_tv 20 rfl rfl (by kernel_rfl) rfl (.cons _ .slnil) rfl (v_idx he rfl rfl rfl (a + i) (by omega) (by omega)) ?_
   refine d_one 21 (by kernel_rfl) rfl ?_
   refine o_stc _ (a + i) (by first | exact evCh_ukE _ | exact (evCh_ukE _).set rfl _) he rfl rfl rfl rfl rfl (by omega) (by simp [evCh_len]; omega) ?_
   refine d_on (fun _ m => m.keeps (.cons _ .slnil)) ?_
   refine d_tv 22 rfl rfl (by kernel_rfl) rfl (.cons _ .slnil) rfl (v_idx he rfl rfl rfl (b + i) (by omega) (by omega)) ?_
   refine d_one 23 (by kernel_rfl) rfl ?_
   refine o_stc _ (b + i) (by first | exact evCh_ukE _ | exact (evCh_ukE _).set rfl _) he rfl rfl rfl rfl rfl (by omega) (by simp [evCh_len]; omega) ?_
   refine d_on (fun _ m => m.keeps (.cons _ .slnil)) ?_
   refine d_done (by kernel_rfl) ?_
   refine go 8 ?_
   exact q_next (i + 1) (by omega) (by omega) rfl sb (by rw [swpN]; first | rw [← evCh_swp h1 h2] | rw [← evCh_swp' h1 h2 (by omega)])
 ·refine go 4 ?_
  refine end0 rfl ?_
  obtain rfl : i = n := by omega
  exact q_m

theorem insSort (I : IMap) (l : List Evt) (N : Nat) (hN : l.length = N) (g a b : Nat) (f : FuncId) (hp : ∀ x y : Evt, FnV Tryz.prog f #[.agg (Day.ch x).toArray, .agg (Day.ch y).toArray] I (.int .i64 (cmpI (Day.day x) (Day.day y)))) (hab : a ≤ b) (hb : b ≤ l.length) (hl : l.length ≤ 1000000) :
    FnX Tryz.prog 191 #[.slice (some ⟨g, 0, none⟩) N N, .int .i64 ((a : Nat) : Int), .int .i64 ((b : Nat) : Int), .func (.func f) #[] #[]] I [.blk g 49 (evCh (l)).flatten] (fun u r => u = .tuple #[] ∧ ∃ m, r = .blk g 49 (evCh (m)).flatten ∧ Seg l m a b) := by
 refine enter Tryz.func191 Tryz.call191 rfl Tryz.ntmps191 rfl (fun w0 => ?_)
 refine go 3 ?_
 refine o_v rfl (OV.cast (u := .int .i64 ((a + 1 : Nat) : Int)) (v_add rfl rfl ⟨by omega, by omega⟩) (congrArg (Value.int .i64) (by omega))) ?_
 refine go 4 ?_
 refine c_loop2 (a + 1) (l) (fun i m => I)
  (fun i m => [(0, .slice (some ⟨g, 0, none⟩) N N), (1, .int .i64 ((a : Nat) : Int)), (2, .int .i64 ((b : Nat) : Int)), (3, .func (.func f) #[] #[]), (8, .int .i64 ((i : Nat) : Int))])
  (fun i m => [.blk g 49 (evCh (m)).flatten])
  (fun i m => a + 1 ≤ i ∧ (i ≤ b ∨ (m = l ∧ i = a + 1)) ∧ Seg l m a i)
  (fun i m => b - i) ⟨Nat.le_refl _, .inr ⟨rfl, rfl⟩, Seg.one l a⟩ rfl sb rfl ?_
 intro i m ⟨h1, h2, hs⟩
 refine go 8 ?_
 refine cb rfl (fun h14 p14 => ?_) (fun h14 p14 => ?_)
 ·have hlt : i < b := by omega
  refine go 11 ?_
  refine c_loop2 (i) (m) (fun j k => I)
   (fun j k => [(0, .slice (some ⟨g, 0, none⟩) N N), (1, .int .i64 ((a : Nat) : Int)), (2, .int .i64 ((b : Nat) : Int)), (3, .func (.func f) #[] #[]), (8, .int .i64 ((i : Nat) : Int)), (9, .int .i64 ((j : Nat) : Int))])
   (fun j k => [.blk g 49 (evCh (k)).flatten])
   (fun j k => a ≤ j ∧ j ≤ i ∧ Ins l k a i j)
   (fun j k => j) ⟨by omega, Nat.le_refl _, Ins.start hs⟩ rfl sb rfl ?_
  intro j k ⟨hj1, hj2, hk⟩
  have hkl := hk.len
  refine go 2 ?_
  refine d_startH T.mixed ?_
  refine d_tv 0 rfl rfl (by kernel_rfl) rfl (.refl _) rfl (v_move rfl) ?_
  refine d_tv 1 rfl rfl (by kernel_rfl) rfl (.refl _) rfl (v_move rfl) ?_
  refine d_tv 2 rfl rfl (by kernel_rfl) rfl (.refl _) rfl (v_gtr rfl rfl) ?_
  refine d_tv 3 rfl rfl (by kernel_rfl) rfl (.refl _) rfl (v_move rfl) ?_
  refine sxb 21 rfl (fun h21 p21 => ?_) (fun h21 p21 => ?_)
  ·have hjk : j < k.length := by omega
   have hjk1 : j - 1 < k.length := by omega
   refine d_t 4 rfl rfl (by kernel_rfl) rfl (fun _ m => m.keeps (.refl _)) (y_yes rfl rfl h21 (v_move rfl)) ?_
   refine d_t 5 rfl rfl (by kernel_rfl) rfl (fun _ m => m.keeps (.refl _)) (y_yes rfl rfl h21 (v_move rfl)) ?_
   refine d_t 6 rfl rfl (by kernel_rfl) rfl (fun _ m => m.keeps (.refl _)) (y_yes rfl rfl h21 (v_move rfl)) ?_
   refine d_t 7 rfl rfl (by kernel_rfl) rfl (fun _ m => m.keeps (.refl _)) (y_yes rfl rfl h21 (v_idx he rfl rfl rfl (j) (by omega) (by omega))) ?_
   refine d_t 8 rfl rfl (by kernel_rfl) rfl (fun _ m => m.keeps (.refl _)) (y_yes rfl rfl h21 (v_ldc m0 (evCh_ukE _) he rfl (j) (by omega) (evCh_at hjk))) ?_
   refine d_t 9 rfl rfl (by kernel_rfl) rfl (fun _ m => m.keeps (.refl _)) (y_yes rfl rfl h21 (v_move rfl)) ?_
   refine d_t 10 rfl rfl (by kernel_rfl) rfl (fun _ m => m.keeps (.refl _)) (y_yes rfl rfl h21 (v_move rfl)) ?_
   refine d_t 11 rfl rfl (by kernel_rfl) rfl (fun _ m => m.keeps (.refl _)) (y_yes rfl rfl h21 (v_sub rfl rfl ⟨by omega, by omega⟩)) ?_
   refine d_t 12 rfl rfl (by kernel_rfl) rfl (fun _ m => m.keeps (.refl _)) (y_yes rfl rfl h21 (v_idx he rfl rfl rfl (j - 1) (by omega) (by omega))) ?_
   refine d_t 13 rfl rfl (by kernel_rfl) rfl (fun _ m => m.keeps (.refl _)) (y_yes rfl rfl h21 (v_ldc m0 (evCh_ukE _) he rfl (j - 1) (by omega) (evCh_at hjk1))) ?_
   refine d_one 14 (by kernel_rfl) rfl ?_
   refine o_yes rfl rfl h21 (o_callV (hp _ _) rfl rfl ?_)
   refine d_on (fun _ m => m.keeps (.refl _)) ?_
   refine d_t 15 rfl rfl (by kernel_rfl) rfl (fun _ m => m.keeps (.refl _)) (y_yes rfl rfl h21 (v_lss rfl rfl)) ?_
   refine d_tv 16 rfl rfl (by kernel_rfl) rfl (.refl _) rfl (v_and_t h21 rfl rfl) ?_
   refine d_done (by kernel_rfl) ?_
   refine go 1 ?_
   refine cb rfl (fun h34 p34 => ?_) (fun h34 p34 => ?_)
   ·refine go 4 ?_
    refine d_start1 T.mixed ?_
    refine d_tv 0 rfl rfl (by kernel_rfl) rfl (.cons _ .slnil) rfl (v_move rfl) ?_
    refine d_tv 1 rfl rfl (by kernel_rfl) rfl (.cons _ .slnil) rfl (v_move rfl) ?_
    refine d_tv 2 rfl rfl (by kernel_rfl) rfl (.cons _ .slnil) rfl (v_move rfl) ?_
    refine d_tv 3 rfl rfl (by kernel_rfl) rfl (.cons _ .slnil) rfl (v_move rfl) ?_
    refine d_tv 4 rfl rfl (by kernel_rfl) rfl (.cons _ .slnil) rfl (v_sub rfl rfl ⟨by omega, by omega⟩) ?_
    refine d_tv 5 rfl rfl (by kernel_rfl) rfl (.cons _ .slnil) rfl (v_move rfl) ?_
    refine d_tv 6 rfl rfl (by kernel_rfl) rfl (.cons _ .slnil) rfl (v_move rfl) ?_
    refine d_tv 7 rfl rfl (by kernel_rfl) rfl (.cons _ .slnil) rfl (v_sub rfl rfl ⟨by omega, by omega⟩) ?_
    refine d_tv 8 rfl rfl (by kernel_rfl) rfl (.cons _ .slnil) rfl (v_idx he rfl rfl rfl (j - 1) (by omega) (by omega)) ?_
    refine d_tv 10 rfl rfl (by kernel_rfl) rfl (.cons _ .slnil) rfl (v_move rfl) ?_
    refine d_tv 11 rfl rfl (by kernel_rfl) rfl (.cons _ .slnil) rfl (v_move rfl) ?_
    refine d_tv 12 rfl rfl (by kernel_rfl) rfl (.cons _ .slnil) rfl (v_idx he rfl rfl rfl (j) (by omega) (by omega)) ?_
    refine d_two 9 13 (by kernel_rfl) rfl rfl ?_ ?_
    ·refine o_val rfl (v_ldc m0 (evCh_ukE _) he rfl (j - 1) (by omega) (evCh_at hjk1)) ?_
     refine d_on (fun _ m => m.keeps (.cons _ .slnil)) ?_
     refine d_one 13 (by kernel_rfl) rfl ?_
     refine o_val rfl (v_ldc m0 (evCh_ukE _) he rfl (j) (by omega) (evCh_at hjk)) ?_
     refine d_on (fun _ m => m.keeps (.cons _ .slnil)) ?_
     refine d_tv 14 rfl rfl (by kernel_rfl) rfl (.cons _ .slnil) rfl (v_idx he rfl rfl rfl (j) (by omega) (by omega)) ?_
     refine d_one 15 (by kernel_rfl) rfl ?_
     refine o_stc _ (j) (by first | exact evCh_ukE _ | exact (evCh_ukE _).set rfl _) he rfl rfl rfl rfl rfl (by omega) (by simp [evCh_len]; omega) ?_
     refine d_on (fun _ m => m.keeps (.cons _ .slnil)) ?_
     refine d_tv 16 rfl rfl (by kernel_rfl) rfl (.cons _ .slnil) rfl (v_idx he rfl rfl rfl (j - 1) (by omega) (by omega)) ?_
     refine d_one 17 (by kernel_rfl) rfl ?_
     refine o_stc _ (j - 1) (by first | exact evCh_ukE _ | exact (evCh_ukE _).set rfl _) he rfl rfl rfl rfl rfl (by omega) (by simp [evCh_len]; omega) ?_
     refine d_on (fun _ m => m.keeps (.cons _ .slnil)) ?_
     refine d_done (by kernel_rfl) ?_
     refine go 4 ?_
     refine o_v rfl (OV.cast (u := .int .i64 ((j - 1 : Nat) : Int)) (v_sub rfl rfl ⟨by omega, by omega⟩) (congrArg (Value.int .i64) (by omega))) ?_
     refine go 3 ?_
     exact q_next2 (j - 1) (swp k j (j - 1)) ⟨by omega, by omega, hk.step (by omega) (by omega) (by omega) (by have := p34; simp only [cmpI_neg] at this; rw [dayAt_eq (by omega), dayAt_eq (by omega)]; exact this)⟩ (by omega) rfl sb (by first | rw [← evCh_swp (show j < k.length by omega) (show j - 1 < k.length by omega)] | rw [← evCh_swp' (show j < k.length by omega) (show j - 1 < k.length by omega) (by omega)])
    ·refine o_val rfl (v_ldc m0 (evCh_ukE _) he rfl (j) (by omega) (evCh_at hjk)) ?_
     refine d_on (fun _ m => m.keeps (.cons _ .slnil)) ?_
     refine d_one 9 (by kernel_rfl) rfl ?_
     refine o_val rfl (v_ldc m0 (evCh_ukE _) he rfl (j - 1) (by omega) (evCh_at hjk1)) ?_
     refine d_on (fun _ m => m.keeps (.cons _ .slnil)) ?_
     refine d_tv 14 rfl rfl (by kernel_rfl) rfl (.cons _ .slnil) rfl (v_idx he rfl rfl rfl (j) (by omega) (by omega)) ?_
     refine d_one 15 (by kernel_rfl) rfl ?_
     refine o_stc _ (j) (by first | exact evCh_ukE _ | exact (evCh_ukE _).set rfl _) he rfl rfl rfl rfl rfl (by omega) (by simp [evCh_len]; omega) ?_
     refine d_on (fun _ m => m.keeps (.cons _ .slnil)) ?_
     refine d_tv 16 rfl rfl (by kernel_rfl) rfl (.cons _ .slnil) rfl (v_idx he rfl rfl rfl (j - 1) (by omega) (by omega)) ?_
     refine d_one 17 (by kernel_rfl) rfl ?_
     refine o_stc _ (j - 1) (by first | exact evCh_ukE _ | exact (evCh_ukE _).set rfl _) he rfl rfl rfl rfl rfl (by omega) (by simp [evCh_len]; omega) ?_
     refine d_on (fun _ m => m.keeps (.cons _ .slnil)) ?_
     refine d_done (by kernel_rfl) ?_
     refine go 4 ?_
     refine o_v rfl (OV.cast (u := .int .i64 ((j - 1 : Nat) : Int)) (v_sub rfl rfl ⟨by omega, by omega⟩) (congrArg (Value.int .i64) (by omega))) ?_
     refine go 3 ?_
     exact q_next2 (j - 1) (swp k j (j - 1)) ⟨by omega, by omega, hk.step (by omega) (by omega) (by omega) (by have := p34; simp only [cmpI_neg] at this; rw [dayAt_eq (by omega), dayAt_eq (by omega)]; exact this)⟩ (by omega) rfl sb (by first | rw [← evCh_swp (show j < k.length by omega) (show j - 1 < k.length by omega)] | rw [← evCh_swp' (show j < k.length by omega) (show j - 1 < k.length by omega) (by omega)])
   ·refine go 12 ?_
    exact q_next2 (i + 1) (k) ⟨by omega, .inl (by omega), hk.done (by omega) (by omega) (.inr (by have := p34; simp only [cmpI_neg] at this; rw [dayAt_eq (by omega), dayAt_eq (by omega)]; omega))⟩ (by omega) rfl sb rfl
  ·refine d_t 4 rfl rfl (by kernel_rfl) rfl (fun _ m => m.keeps (.refl _)) (y_no rfl rfl h21) ?_
   refine d_t 5 rfl rfl (by kernel_rfl) rfl (fun _ m => m.keeps (.refl _)) (y_no rfl rfl h21) ?_
   refine d_t 6 rfl rfl (by kernel_rfl) rfl (fun _ m => m.keeps (.refl _)) (y_no rfl rfl h21) ?_
   refine d_t 7 rfl rfl (by kernel_rfl) rfl (fun _ m => m.keeps (.refl _)) (y_no rfl rfl h21) ?_
   refine d_t 8 rfl rfl (by kernel_rfl) rfl (fun _ m => m.keeps (.refl _)) (y_no rfl rfl h21) ?_
   refine d_t 9 rfl rfl (by kernel_rfl) rfl (fun _ m => m.keeps (.refl _)) (y_no rfl rfl h21) ?_
   refine d_t 10 rfl rfl (by kernel_rfl) rfl (fun _ m => m.keeps (.refl _)) (y_no rfl rfl h21) ?_
   refine d_t 11 rfl rfl (by kernel_rfl) rfl (fun _ m => m.keeps (.refl _)) (y_no rfl rfl h21) ?_
   refine d_t 12 rfl rfl (by kernel_rfl) rfl (fun _ m => m.keeps (.refl _)) (y_no rfl rfl h21) ?_
   refine d_t 13 rfl rfl (by kernel_rfl) rfl (fun _ m => m.keeps (.refl _)) (y_no rfl rfl h21) ?_
   refine d_t 14 rfl rfl (by kernel_rfl) rfl (fun _ m => m.keeps (.refl _)) (y_no rfl rfl h21) ?_
   refine d_t 15 rfl rfl (by kernel_rfl) rfl (fun _ m => m.keeps (.refl _)) (y_no rfl rfl h21) ?_
   refine d_tv 16 rfl rfl (by kernel_rfl) rfl (.refl _) rfl (v_and_f h21 rfl) ?_
   refine d_done (by kernel_rfl) ?_
   refine go 1 ?_
   refine c_false rfl ?_
   refine go 12 ?_
   exact q_next2 (i + 1) (k) ⟨by omega, .inl (by omega), hk.done (by omega) (by omega) (.inl (by omega))⟩ (by omega) rfl sb rfl
 ·refine go 4 ?_
  refine end0 rfl ?_
  exact q_x (by refine ⟨rfl, m, rfl, ?_⟩; rcases h2 with h2 | ⟨rfl, h2⟩; exact (show i = b by omega) ▸ hs; exact Seg.none (by omega))

theorem rotate (I : IMap) (l : List Evt) (N : Nat) (hN : l.length = N) (g a m b : Nat) (f : FuncId) (ham : a < m) (hmb : m < b) (hb : b ≤ l.length) (hl : l.length ≤ 1000000) :
    FnX Tryz.prog 197 #[.slice (some ⟨g, 0, none⟩) N N, .int .i64 ((a : Nat) : Int), .int .i64 ((m : Nat) : Int), .int .i64 ((b : Nat) : Int), .func (.func f) #[] #[]] I [.blk g 49 (evCh (l)).flatten] (fun u r => u = .tuple #[] ∧ ∃ k, r = .blk g 49 (evCh (k)).flatten ∧ k.length = l.length ∧ ∀ q, k[q]? = rotG (l[·]?) m (m - a) (b - m) q) := by
 refine enter Tryz.func197 Tryz.call197 rfl Tryz.ntmps197 rfl (fun w0 => ?_)
 refine go 4 ?_
 refine o_v rfl (OV.cast (u := .int .i64 ((m - a : Nat) : Int)) (v_sub rfl rfl ⟨by omega, by omega⟩) (congrArg (Value.int .i64) (by omega))) ?_
 refine go 7 ?_
 refine o_v rfl (OV.cast (u := .int .i64 ((b - m : Nat) : Int)) (v_sub rfl rfl ⟨by omega, by omega⟩) (congrArg (Value.int .i64) (by omega))) ?_
 refine go 5 ?_
 refine c_loop3 (m - a) (b - m) (l) (fun i j k => I)
  (fun i j k => [(0, .slice (some ⟨g, 0, none⟩) N N), (1, .int .i64 ((a : Nat) : Int)), (2, .int .i64 ((m : Nat) : Int)), (3, .int .i64 ((b : Nat) : Int)), (4, .func (.func f) #[] #[]), (10, .int .i64 ((i : Nat) : Int)), (11, .int .i64 ((j : Nat) : Int))])
  (fun i j k => [.blk g 49 (evCh (k)).flatten])
  (fun i j k => 1 ≤ i ∧ 1 ≤ j ∧ i ≤ m ∧ m + j ≤ l.length ∧ k.length = l.length ∧ ∀ q, rotG (k[·]?) m i j q = rotG (l[·]?) m (m - a) (b - m) q)
  (fun i j k => i + j) ⟨by omega, by omega, by omega, by omega, rfl, fun q => rfl⟩ rfl sb rfl ?_
 intro i j k ⟨hi1, hj1, him, hmj, hkl, hk⟩
 refine go 8 ?_
 refine cb rfl (fun h20 p20 => ?_) (fun h20 p20 => ?_)
 ·refine go 10 ?_
  refine cb rfl (fun h23 p23 => ?_) (fun h23 p23 => ?_)
  ·refine go 5 ?_
   refine o_v rfl (OV.cast (u := .int .i64 ((m - i : Nat) : Int)) (v_sub rfl rfl ⟨by omega, by omega⟩) (congrArg (Value.int .i64) (by omega))) ?_
   refine go 4 ?_
   refine o_callM (swapRange _ k N (by omega) g (m - i) m j f (by omega) (by omega) (by omega)) rfl rfl ?_
   refine go 5 ?_
   refine o_v rfl (OV.cast (u := .int .i64 ((i - j : Nat) : Int)) (v_sub rfl rfl ⟨by omega, by omega⟩) (congrArg (Value.int .i64) (by omega))) ?_
   refine go 4 ?_
   exact q_next3 (i - j) (j) (swpN k (m - i) m j) ⟨by omega, by omega, by omega, by omega, (swpN_len _ _ _ _).trans hkl, fun q => (rot_gt (by omega) (by omega) (swpN_get _ (by omega) (by omega)) q).trans (hk q)⟩ (by omega) rfl sb rfl
  ·refine go 5 ?_
   refine o_v rfl (OV.cast (u := .int .i64 ((m - i : Nat) : Int)) (v_sub rfl rfl ⟨by omega, by omega⟩) (congrArg (Value.int .i64) (by omega))) ?_
   refine go 4 ?_
   refine o_v rfl (OV.cast (u := .int .i64 ((m + j - i : Nat) : Int)) (v_sub rfl rfl ⟨by omega, by omega⟩) (congrArg (Value.int .i64) (by omega))) ?_
   refine go 3 ?_
   refine o_callM (swapRange _ k N (by omega) g (m - i) (m + j - i) i f (by omega) (by omega) (by omega)) rfl rfl ?_
   refine go 5 ?_
   refine o_v rfl (OV.cast (u := .int .i64 ((j - i : Nat) : Int)) (v_sub rfl rfl ⟨by omega, by omega⟩) (congrArg (Value.int .i64) (by omega))) ?_
   refine go 4 ?_
   exact q_next3 (i) (j - i) (swpN k (m - i) (m + j - i) i) ⟨by omega, by omega, by omega, by omega, (swpN_len _ _ _ _).trans hkl, fun q => (rot_lt (by omega) (by omega) (swpN_get _ (by omega) (by omega)) q).trans (hk q)⟩ (by omega) rfl sb rfl
 ·obtain rfl : i = j := by have := p20; omega
  refine go 9 ?_
  refine o_v rfl (OV.cast (u := .int .i64 ((m - i : Nat) : Int)) (v_sub rfl rfl ⟨by omega, by omega⟩) (congrArg (Value.int .i64) (by omega))) ?_
  refine go 4 ?_
  refine o_callM (swapRange _ k N (by omega) g (m - i) m i f (by omega) (by omega) (by omega)) rfl rfl ?_
  refine go 1 ?_
  refine end0 rfl ?_
  exact q_x ⟨rfl, swpN k (m - i) m i, rfl, (swpN_len _ _ _ _).trans hkl, fun q => (rot_eq him (swpN_get _ (by omega) (by omega)) q).trans (hk q)⟩

theorem symMergeW (I : IMap) (N g : Nat) (f : FuncId) (hp : ∀ x y : Evt, FnV Tryz.prog f #[.agg (Day.ch x).toArray, .agg (Day.ch y).toArray] I (.int .i64 (cmpI (Day.day x) (Day.day y)))) (hN0 : N ≤ 1000000) (W : Nat) (ih : ∀ (l : List Evt) (a m b : Nat), l.length = N → b - a < W → a < m → m < b → b ≤ l.length → SrtD l a m → SrtD l m b → FnX Tryz.prog 192 #[.slice (some ⟨g, 0, none⟩) N N, .int .i64 ((a : Nat) : Int), .int .i64 ((m : Nat) : Int), .int .i64 ((b : Nat) : Int), .func (.func f) #[] #[]] I [.blk g 49 (evCh (l)).flatten] (fun u r => u = .tuple #[] ∧ ∃ m, r = .blk g 49 (evCh (m)).flatten ∧ Seg l m a b)) (l : List Evt) (a m b : Nat) (hN : l.length = N) (hW : b - a ≤ W) (ham : a < m) (hmb : m < b) (hb : b ≤ l.length) (m1 : SrtD l a m) (m2 : SrtD l m b) :
    FnX Tryz.prog 192 #[.slice (some ⟨g, 0, none⟩) N N, .int .i64 ((a : Nat) : Int), .int .i64 ((m : Nat) : Int), .int .i64 ((b : Nat) : Int), .func (.func f) #[] #[]] I [.blk g 49 (evCh (l)).flatten] (fun u r => u = .tuple #[] ∧ ∃ m, r = .blk g 49 (evCh (m)).flatten ∧ Seg l m a b) := by
 refine enter Tryz.func192 Tryz.call192 rfl Tryz.ntmps192 rfl (fun w0 => ?_)
 refine go 5 ?_
 refine o_v rfl (OV.cast (u := .int .i64 ((m - a : Nat) : Int)) (v_sub rfl rfl ⟨by omega, by omega⟩) (congrArg (Value.int .i64) (by omega))) ?_
 refine go 3 ?_
 refine cb rfl (fun h28 p28 => ?_) (fun h28 p28 => ?_)
 ·obtain rfl : m = a + 1 := by omega
  refine go 14 ?_
  refine c_loop2 (a + 1) (b) (fun i j => I)
   (fun i j => [(0, .slice (some ⟨g, 0, none⟩) N N), (1, .int .i64 ((a : Nat) : Int)), (2, .int .i64 ((a + 1 : Nat) : Int)), (3, .int .i64 ((b : Nat) : Int)), (4, .func (.func f) #[] #[]), (10, .int .i64 ((i : Nat) : Int)), (11, .int .i64 ((j : Nat) : Int))])
   (fun i j => [.blk g 49 (evCh (l)).flatten])
   (fun i j => a + 1 ≤ i ∧ i ≤ j ∧ j ≤ b ∧ (∀ q, a + 1 ≤ q → q < i → dayAt l q < dayAt l a) ∧ (∀ q, j ≤ q → q < b → dayAt l a ≤ dayAt l q))
   (fun i j => j - i) ⟨by omega, by omega, by omega, fun q _ _ => by omega, fun q _ _ => by omega⟩ rfl sb rfl ?_
  intro i j ⟨hi1, hij, hjb, hlo, hhi⟩
  refine go 8 ?_
  refine cb rfl (fun h33 p33 => ?_) (fun h33 p33 => ?_)
  ·have hh : (i + j) / 2 < l.length := by omega
   have ha0 : a < l.length := by omega
   refine go 8 ?_
   refine o_v rfl (v_conv he he rfl (m := (i : Int) + (j : Int)) (wrap_u64 _ (by omega) (by omega))) ?_
   refine o_v rfl (v_shr1 rfl (by decide)) ?_
   refine o_v rfl (v_conv he he rfl (m := (((i + j) / 2 : Nat) : Int)) (by rw [IntKind.wrap_i64]; omega)) ?_
   refine go 4 ?_
   refine d_startH T.mixed ?_
   refine d_tv 0 rfl rfl (by kernel_rfl) rfl (.refl _) rfl (v_move rfl) ?_
   refine d_tv 1 rfl rfl (by kernel_rfl) rfl (.refl _) rfl (v_move rfl) ?_
   refine d_tv 2 rfl rfl (by kernel_rfl) rfl (.refl _) rfl (v_move rfl) ?_
   refine d_tv 3 rfl rfl (by kernel_rfl) rfl (.refl _) rfl (v_idx he rfl rfl rfl ((i + j) / 2) (by omega) (by omega)) ?_
   refine d_tv 4 rfl rfl (by kernel_rfl) rfl (.refl _) rfl (v_ldc m0 (evCh_ukE _) he rfl ((i + j) / 2) (by omega) (evCh_at hh)) ?_
   refine d_tv 5 rfl rfl (by kernel_rfl) rfl (.refl _) rfl (v_move rfl) ?_
   refine d_tv 6 rfl rfl (by kernel_rfl) rfl (.refl _) rfl (v_move rfl) ?_
   refine d_tv 7 rfl rfl (by kernel_rfl) rfl (.refl _) rfl (v_idx he rfl rfl rfl (a) (by omega) (by omega)) ?_
   refine d_tv 8 rfl rfl (by kernel_rfl) rfl (.refl _) rfl (v_ldc m0 (evCh_ukE _) he rfl (a) (by omega) (evCh_at ha0)) ?_
   refine d_one 9 (by kernel_rfl) rfl ?_
   refine o_callV (hp _ _) rfl rfl ?_
   refine d_on (fun _ m => m.keeps (.refl _)) ?_
   refine d_tv 10 rfl rfl (by kernel_rfl) rfl (.refl _) rfl (v_lss rfl rfl) ?_
   refine d_done (by kernel_rfl) ?_
   refine go 1 ?_
   refine cb rfl (fun h50 p50 => ?_) (fun h50 p50 => ?_)
   ·refine go 7 ?_
    exact q_next2 ((i + j) / 2 + 1) (j) ⟨by omega, by omega, by omega, fun q q1 q2 => by have := m2.le (p := q) (q := (i + j) / 2) q1 (by omega) (by omega); have := day_lt p50; omega, hhi⟩ (by omega) rfl sb rfl
   ·refine go 6 ?_
    exact q_next2 (i) ((i + j) / 2) ⟨by omega, by omega, by omega, hlo, fun q q1 q2 => by have := m2.le (p := (i + j) / 2) (q := q) (by omega) q1 q2; have := day_ge p50; omega⟩ (by omega) rfl sb rfl
  ·obtain rfl : i = j := by omega
   refine go 13 ?_
   refine c_loop (α := Nat) 0 (fun t => I)
    (fun t => [(0, .slice (some ⟨g, 0, none⟩) N N), (1, .int .i64 ((a : Nat) : Int)), (2, .int .i64 ((a + 1 : Nat) : Int)), (3, .int .i64 ((b : Nat) : Int)), (4, .func (.func f) #[] #[]), (10, .int .i64 ((i : Nat) : Int)), (13, .int .i64 ((a + t : Nat) : Int))])
    (fun t => [.blk g 49 (evCh (bub l a t)).flatten])
    (fun t => a + t + 1 ≤ i)
    (fun t => i - t) (by omega) rfl sb rfl ?_
   intro t ht
   refine go 5 ?_
   refine o_v rfl (OV.cast (u := .int .i64 ((i - 1 : Nat) : Int)) (v_sub rfl rfl ⟨by omega, by omega⟩) (congrArg (Value.int .i64) (by omega))) ?_
   refine go 3 ?_
   refine cb rfl (fun h58 p58 => ?_) (fun h58 p58 => ?_)
   ·have hbl := bub_len l a t
    have hk1 : a + t < (bub l a t).length := by omega
    have hk2 : a + t + 1 < (bub l a t).length := by omega
    refine go 4 ?_
    refine d_start1 T.mixed ?_
    refine d_tv 0 rfl rfl (by kernel_rfl) rfl (.cons _ .slnil) rfl (v_move rfl) ?_
    refine d_tv 1 rfl rfl (by kernel_rfl) rfl (.cons _ .slnil) rfl (v_move rfl) ?_
    refine d_tv 2 rfl rfl (by kernel_rfl) rfl (.cons _ .slnil) rfl (v_move rfl) ?_
    refine d_tv 3 rfl rfl (by kernel_rfl) rfl (.cons _ .slnil) rfl (v_move rfl) ?_
    refine d_tv 4 rfl rfl (by kernel_rfl) rfl (.cons _ .slnil) rfl (OV.cast (u := .int .i64 ((a + t + 1 : Nat) : Int)) (v_add rfl rfl ⟨by omega, by omega⟩) (congrArg (Value.int .i64) (by omega))) ?_
    refine d_tv 5 rfl rfl (by kernel_rfl) rfl (.cons _ .slnil) rfl (v_move rfl) ?_
    refine d_tv 6 rfl rfl (by kernel_rfl) rfl (.cons _ .slnil) rfl (v_move rfl) ?_
    refine d_tv 7 rfl rfl (by kernel_rfl) rfl (.cons _ .slnil) rfl (OV.cast (u := .int .i64 ((a + t + 1 : Nat) : Int)) (v_add rfl rfl ⟨by omega, by omega⟩) (congrArg (Value.int .i64) (by omega))) ?_
    refine d_tv 8 rfl rfl (by kernel_rfl) rfl (.cons _ .slnil) rfl (v_idx he rfl rfl rfl (a + t + 1) (by omega) (by omega)) ?_
    refine d_tv 10 rfl rfl (by kernel_rfl) rfl (.cons _ .slnil) rfl (v_move rfl) ?_
    refine d_tv 11 rfl rfl (by kernel_rfl) rfl (.cons _ .slnil) rfl (v_move rfl) ?_
    refine d_tv 12 rfl rfl (by kernel_rfl) rfl (.cons _ .slnil) rfl (v_idx he rfl rfl rfl (a + t) (by omega) (by omega)) ?_
    refine d_two 9 13 (by kernel_rfl) rfl rfl ?_ ?_
    ·refine o_val rfl (v_ldc m0 (evCh_ukE _) he rfl (a + t + 1) (by omega) (evCh_at hk2)) ?_
     refine d_on (fun _ m => m.keeps (.cons _ .slnil)) ?_
     refine d_one 13 (by kernel_rfl) rfl ?_
     refine o_val rfl (v_ldc m0 (evCh_ukE _) he rfl (a + t) (by omega) (evCh_at hk1)) ?_
     refine d_on (fun _ m => m.keeps (.cons _ .slnil)) ?_
     refine d_tv 14 rfl rfl (by kernel_rfl) rfl (.cons _ .slnil) rfl (v_idx he rfl rfl rfl (a + t) (by omega) (by omega)) ?_
     refine d_one 15 (by kernel_rfl) rfl ?_
     refine o_stc _ (a + t) (by first | exact evCh_ukE _ | exact (evCh_ukE _).set rfl _) he rfl rfl rfl rfl rfl (by omega) (by simp [evCh_len]; omega) ?_
     refine d_on (fun _ m => m.keeps (.cons _ .slnil)) ?_
     refine d_tv 16 rfl rfl (by kernel_rfl) rfl (.cons _ .slnil) rfl (v_idx he rfl rfl rfl (a + t + 1) (by omega) (by omega)) ?_
     refine d_one 17 (by kernel_rfl) rfl ?_
     refine o_stc _ (a + t + 1) (by first | exact evCh_ukE _ | exact (evCh_ukE _).set rfl _) he rfl rfl rfl rfl rfl (by omega) (by simp [evCh_len]; omega) ?_
     refine d_on (fun _ m => m.keeps (.cons _ .slnil)) ?_
     refine d_done (by kernel_rfl) ?_
     refine go 4 ?_
     refine o_v rfl (OV.cast (u := .int .i64 ((a + (t + 1) : Nat) : Int)) (v_add rfl rfl ⟨by omega, by omega⟩) (congrArg (Value.int .i64) (by omega))) ?_
     refine go 3 ?_
     exact q_next (t + 1) (by omega) (by omega) rfl sb (by rw [bub]; first | rw [← evCh_swp hk1 hk2] | rw [← evCh_swp' hk1 hk2 (by omega)])
    ·refine o_val rfl (v_ldc m0 (evCh_ukE _) he rfl (a + t) (by omega) (evCh_at hk1)) ?_
     refine d_on (fun _ m => m.keeps (.cons _ .slnil)) ?_
     refine d_one 9 (by kernel_rfl) rfl ?_
     refine o_val rfl (v_ldc m0 (evCh_ukE _) he rfl (a + t + 1) (by omega) (evCh_at hk2)) ?_
     refine d_on (fun _ m => m.keeps (.cons _ .slnil)) ?_
     refine d_tv 14 rfl rfl (by kernel_rfl) rfl (.cons _ .slnil) rfl (v_idx he rfl rfl rfl (a + t) (by omega) (by omega)) ?_
     refine d_one 15 (by kernel_rfl) rfl ?_
     refine o_stc _ (a + t) (by first | exact evCh_ukE _ | exact (evCh_ukE _).set rfl _) he rfl rfl rfl rfl rfl (by omega) (by simp [evCh_len]; omega) ?_
     refine d_on (fun _ m => m.keeps (.cons _ .slnil)) ?_
     refine d_tv 16 rfl rfl (by kernel_rfl) rfl (.cons _ .slnil) rfl (v_idx he rfl rfl rfl (a + t + 1) (by omega) (by omega)) ?_
     refine d_one 17 (by kernel_rfl) rfl ?_
     refine o_stc _ (a + t + 1) (by first | exact evCh_ukE _ | exact (evCh_ukE _).set rfl _) he rfl rfl rfl rfl rfl (by omega) (by simp [evCh_len]; omega) ?_
     refine d_on (fun _ m => m.keeps (.cons _ .slnil)) ?_
     refine d_done (by kernel_rfl) ?_
     refine go 4 ?_
     refine o_v rfl (OV.cast (u := .int .i64 ((a + (t + 1) : Nat) : Int)) (v_add rfl rfl ⟨by omega, by omega⟩) (congrArg (Value.int .i64) (by omega))) ?_
     refine go 3 ?_
     exact q_next (t + 1) (by omega) (by omega) rfl sb (by rw [bub]; first | rw [← evCh_swp hk1 hk2] | rw [← evCh_swp' hk1 hk2 (by omega)])
   ·refine go 7 ?_
    refine fin0 rfl ?_
    exact q_x ⟨rfl, _, rfl, (show i - 1 - a = t by omega) ▸ merge_up m2 hi1 hjb hb hlo hhi⟩
 ·have hma : a + 2 ≤ m := by omega
  refine go 7 ?_
  refine o_v rfl (OV.cast (u := .int .i64 ((b - m : Nat) : Int)) (v_sub rfl rfl ⟨by omega, by omega⟩) (congrArg (Value.int .i64) (by omega))) ?_
  refine go 3 ?_
  refine cb rfl (fun h80 p80 => ?_) (fun h80 p80 => ?_)
  ·obtain rfl : b = m + 1 := by omega
   refine go 14 ?_
   refine c_loop2 (a) (m) (fun i j => I)
    (fun i j => [(0, .slice (some ⟨g, 0, none⟩) N N), (1, .int .i64 ((a : Nat) : Int)), (2, .int .i64 ((m : Nat) : Int)), (3, .int .i64 ((m + 1 : Nat) : Int)), (4, .func (.func f) #[] #[]), (14, .int .i64 ((i : Nat) : Int)), (15, .int .i64 ((j : Nat) : Int))])
    (fun i j => [.blk g 49 (evCh (l)).flatten])
    (fun i j => a ≤ i ∧ i ≤ j ∧ j ≤ m ∧ (∀ q, a ≤ q → q < i → dayAt l q ≤ dayAt l m) ∧ (∀ q, j ≤ q → q < m → dayAt l m < dayAt l q))
    (fun i j => j - i) ⟨by omega, by omega, by omega, fun q _ _ => by omega, fun q _ _ => by omega⟩ rfl sb rfl ?_
   intro i j ⟨hi1, hij, hjb, hlo, hhi⟩
   refine go 8 ?_
   refine cb rfl (fun h85 p85 => ?_) (fun h85 p85 => ?_)
   ·have hh : (i + j) / 2 < l.length := by omega
    have hm0 : m < l.length := by omega
    refine go 8 ?_
    refine o_v rfl (v_conv he he rfl (m := (i : Int) + (j : Int)) (wrap_u64 _ (by omega) (by omega))) ?_
    refine o_v rfl (v_shr1 rfl (by decide)) ?_
    refine o_v rfl (v_conv he he rfl (m := (((i + j) / 2 : Nat) : Int)) (by rw [IntKind.wrap_i64]; omega)) ?_
    refine go 4 ?_
    refine d_startH T.mixed ?_
    refine d_tv 0 rfl rfl (by kernel_rfl) rfl (.refl _) rfl (v_move rfl) ?_
    refine d_tv 1 rfl rfl (by kernel_rfl) rfl (.refl _) rfl (v_move rfl) ?_
    refine d_tv 2 rfl rfl (by kernel_rfl) rfl (.refl _) rfl (v_move rfl) ?_
    refine d_tv 3 rfl rfl (by kernel_rfl) rfl (.refl _) rfl (v_idx he rfl rfl rfl (m) (by omega) (by omega)) ?_
    refine d_tv 4 rfl rfl (by kernel_rfl) rfl (.refl _) rfl (v_ldc m0 (evCh_ukE _) he rfl (m) (by omega) (evCh_at hm0)) ?_
    refine d_tv 5 rfl rfl (by kernel_rfl) rfl (.refl _) rfl (v_move rfl) ?_
    refine d_tv 6 rfl rfl (by kernel_rfl) rfl (.refl _) rfl (v_move rfl) ?_
    refine d_tv 7 rfl rfl (by kernel_rfl) rfl (.refl _) rfl (v_idx he rfl rfl rfl ((i + j) / 2) (by omega) (by omega)) ?_
    refine d_tv 8 rfl rfl (by kernel_rfl) rfl (.refl _) rfl (v_ldc m0 (evCh_ukE _) he rfl ((i + j) / 2) (by omega) (evCh_at hh)) ?_
    refine d_one 9 (by kernel_rfl) rfl ?_
    refine o_callV (hp _ _) rfl rfl ?_
    refine d_on (fun _ m => m.keeps (.refl _)) ?_
    refine d_tv 10 rfl rfl (by kernel_rfl) rfl (.refl _) rfl (v_lss rfl rfl) ?_
    refine d_tv 11 rfl rfl (by kernel_rfl) rfl (.refl _) rfl (v_not rfl) ?_
    refine d_done (by kernel_rfl) ?_
    refine go 1 ?_
    refine cb rfl (fun h103 p103 => ?_) (fun h103 p103 => ?_)
    ·refine go 7 ?_
     exact q_next2 ((i + j) / 2 + 1) (j) ⟨by omega, by omega, by omega, fun q q1 q2 => by have := m1.le (p := q) (q := (i + j) / 2) q1 (by omega) (by omega); have := day_ge p103; omega, hhi⟩ (by omega) rfl sb rfl
    ·refine go 6 ?_
     exact q_next2 (i) ((i + j) / 2) ⟨by omega, by omega, by omega, hlo, fun q q1 q2 => by have := m1.le (p := (i + j) / 2) (q := q) (by omega) q1 q2; have := day_lt p103; omega⟩ (by omega) rfl sb rfl
   ·obtain rfl : i = j := by omega
    refine go 13 ?_
    refine c_loop (α := Nat) 0 (fun t => I)
     (fun t => [(0, .slice (some ⟨g, 0, none⟩) N N), (1, .int .i64 ((a : Nat) : Int)), (2, .int .i64 ((m : Nat) : Int)), (3, .int .i64 ((m + 1 : Nat) : Int)), (4, .func (.func f) #[] #[]), (14, .int .i64 ((i : Nat) : Int)), (17, .int .i64 ((m - t : Nat) : Int))])
     (fun t => [.blk g 49 (evCh (bud l m t)).flatten])
     (fun t => t + i ≤ m)
     (fun t => m - t) (by omega) rfl ⟨rfl, rfl, rfl, rfl, rfl, rfl, congrArg (fun z : Int => some (Value.int .i64 z)) (by omega), trivial⟩ rfl ?_
    intro t ht
    refine go 8 ?_
    refine cb rfl (fun h110 p110 => ?_) (fun h110 p110 => ?_)
    ·have hbl := bud_len l m t
     have hk1 : m - t < (bud l m t).length := by omega
     have hk2 : m - t - 1 < (bud l m t).length := by omega
     refine go 4 ?_
     refine d_start1 T.mixed ?_
     refine d_tv 0 rfl rfl (by kernel_rfl) rfl (.cons _ .slnil) rfl (v_move rfl) ?_
     refine d_tv 1 rfl rfl (by kernel_rfl) rfl (.cons _ .slnil) rfl (v_move rfl) ?_
     refine d_tv 2 rfl rfl (by kernel_rfl) rfl (.cons _ .slnil) rfl (v_move rfl) ?_
     refine d_tv 3 rfl rfl (by kernel_rfl) rfl (.cons _ .slnil) rfl (v_move rfl) ?_
     refine d_tv 4 rfl rfl (by kernel_rfl) rfl (.cons _ .slnil) rfl (OV.cast (u := .int .i64 ((m - t - 1 : Nat) : Int)) (v_sub rfl rfl ⟨by omega, by omega⟩) (congrArg (Value.int .i64) (by omega))) ?_
     refine d_tv 5 rfl rfl (by kernel_rfl) rfl (.cons _ .slnil) rfl (v_move rfl) ?_
     refine d_tv 6 rfl rfl (by kernel_rfl) rfl (.cons _ .slnil) rfl (v_move rfl) ?_
     refine d_tv 7 rfl rfl (by kernel_rfl) rfl (.cons _ .slnil) rfl (OV.cast (u := .int .i64 ((m - t - 1 : Nat) : Int)) (v_sub rfl rfl ⟨by omega, by omega⟩) (congrArg (Value.int .i64) (by omega))) ?_
     refine d_tv 8 rfl rfl (by kernel_rfl) rfl (.cons _ .slnil) rfl (v_idx he rfl rfl rfl (m - t - 1) (by omega) (by omega)) ?_
     refine d_tv 10 rfl rfl (by kernel_rfl) rfl (.cons _ .slnil) rfl (v_move rfl) ?_
     refine d_tv 11 rfl rfl (by kernel_rfl) rfl (.cons _ .slnil) rfl (v_move rfl) ?_
     refine d_tv 12 rfl rfl (by kernel_rfl) rfl (.cons _ .slnil) rfl (v_idx he rfl rfl rfl (m - t) (by omega) (by omega)) ?_
     refine d_two 9 13 (by kernel_rfl) rfl rfl ?_ ?_
     ·refine o_val rfl (v_ldc m0 (evCh_ukE _) he rfl (m - t - 1) (by omega) (evCh_at hk2)) ?_
      refine d_on (fun _ m => m.keeps (.cons _ .slnil)) ?_
      refine d_one 13 (by kernel_rfl) rfl ?_
      refine o_val rfl (v_ldc m0 (evCh_ukE _) he rfl (m - t) (by omega) (evCh_at hk1)) ?_
      refine d_on (fun _ m => m.keeps (.cons _ .slnil)) ?_
      refine d_tv 14 rfl rfl (by kernel_rfl) rfl (.cons _ .slnil) rfl (v_idx he rfl rfl rfl (m - t) (by omega) (by omega)) ?_
      refine d_one 15 (by kernel_rfl) rfl ?_
      refine o_stc _ (m - t) (by first | exact evCh_ukE _ | exact (evCh_ukE _).set rfl _) he rfl rfl rfl rfl rfl (by omega) (by simp [evCh_len]; omega) ?_
      refine d_on (fun _ m => m.keeps (.cons _ .slnil)) ?_
      refine d_tv 16 rfl rfl (by kernel_rfl) rfl (.cons _ .slnil) rfl (v_idx he rfl rfl rfl (m - t - 1) (by omega) (by omega)) ?_
      refine d_one 17 (by kernel_rfl) rfl ?_
      refine o_stc _ (m - t - 1) (by first | exact evCh_ukE _ | exact (evCh_ukE _).set rfl _) he rfl rfl rfl rfl rfl (by omega) (by simp [evCh_len]; omega) ?_
      refine d_on (fun _ m => m.keeps (.cons _ .slnil)) ?_
      refine d_done (by kernel_rfl) ?_
      refine go 4 ?_
      refine o_v rfl (OV.cast (u := .int .i64 ((m - (t + 1) : Nat) : Int)) (v_sub rfl rfl ⟨by omega, by omega⟩) (congrArg (Value.int .i64) (by omega))) ?_
      refine go 3 ?_
      exact q_next (t + 1) (by omega) (by omega) rfl sb (by rw [bud]; first | rw [← evCh_swp hk1 hk2] | rw [← evCh_swp' hk1 hk2 (by omega)])
     ·refine o_val rfl (v_ldc m0 (evCh_ukE _) he rfl (m - t) (by omega) (evCh_at hk1)) ?_
      refine d_on (fun _ m => m.keeps (.cons _ .slnil)) ?_
      refine d_one 9 (by kernel_rfl) rfl ?_
      refine o_val rfl (v_ldc m0 (evCh_ukE _) he rfl (m - t - 1) (by omega) (evCh_at hk2)) ?_
      refine d_on (fun _ m => m.keeps (.cons _ .slnil)) ?_
      refine d_tv 14 rfl rfl (by kernel_rfl) rfl (.cons _ .slnil) rfl (v_idx he rfl rfl rfl (m - t) (by omega) (by omega)) ?_
      refine d_one 15 (by kernel_rfl) rfl ?_
      refine o_stc _ (m - t) (by first | exact evCh_ukE _ | exact (evCh_ukE _).set rfl _) he rfl rfl rfl rfl rfl (by omega) (by simp [evCh_len]; omega) ?_
      refine d_on (fun _ m => m.keeps (.cons _ .slnil)) ?_
      refine d_tv 16 rfl rfl (by kernel_rfl) rfl (.cons _ .slnil) rfl (v_idx he rfl rfl rfl (m - t - 1) (by omega) (by omega)) ?_
      refine d_one 17 (by kernel_rfl) rfl ?_
      refine o_stc _ (m - t - 1) (by first | exact evCh_ukE _ | exact (evCh_ukE _).set rfl _) he rfl rfl rfl rfl rfl (by omega) (by simp [evCh_len]; omega) ?_
      refine d_on (fun _ m => m.keeps (.cons _ .slnil)) ?_
      refine d_done (by kernel_rfl) ?_
      refine go 4 ?_
      refine o_v rfl (OV.cast (u := .int .i64 ((m - (t + 1) : Nat) : Int)) (v_sub rfl rfl ⟨by omega, by omega⟩) (congrArg (Value.int .i64) (by omega))) ?_
      refine go 3 ?_
      exact q_next (t + 1) (by omega) (by omega) rfl sb (by rw [bud]; first | rw [← evCh_swp hk1 hk2] | rw [← evCh_swp' hk1 hk2 (by omega)])
    ·refine go 7 ?_
     refine fin0 rfl ?_
     exact q_x ⟨rfl, _, rfl, (show m - i = t by omega) ▸ merge_down m1 hi1 hjb (by omega) hlo hhi⟩
  ·have hmb2 : m + 2 ≤ b := by omega
   refine go 7 ?_
   refine o_v rfl (v_conv he he rfl (m := (a : Int) + (b : Int)) (wrap_u64 _ (by omega) (by omega))) ?_
   refine o_v rfl (v_shr1 rfl (by decide)) ?_
   refine o_v rfl (v_conv he he rfl (m := (((a + b) / 2 : Nat) : Int)) (by rw [IntKind.wrap_i64]; omega)) ?_
   refine go 7 ?_
   refine o_v rfl (OV.cast (u := .int .i64 ((((a + b) / 2) + m : Nat) : Int)) (v_add rfl rfl ⟨by omega, by omega⟩) (congrArg (Value.int .i64) (by omega))) ?_
   refine go 10 ?_
   refine c_cutx2 (Ix := (fun S R => I)) (Lx := (fun S R => [(0, .slice (some ⟨g, 0, none⟩) N N), (1, .int .i64 ((a : Nat) : Int)), (2, .int .i64 ((m : Nat) : Int)), (3, .int .i64 ((b : Nat) : Int)), (4, .func (.func f) #[] #[]), (18, .int .i64 ((((a + b) / 2) : Nat) : Int)), (19, .int .i64 ((((a + b) / 2) + m : Nat) : Int)), (20, .int .i64 ((S : Nat) : Int)), (21, .int .i64 ((R : Nat) : Int))])) (Hx := (fun S R => [.blk g 49 (evCh (l)).flatten])) (p := (fun S R => (((a + b) / 2) < m ∧ S = ((a + b) / 2) + m - b ∧ R = ((a + b) / 2)) ∨ (m ≤ ((a + b) / 2) ∧ S = a ∧ R = m))) ?_ ?_
   ·refine go 7 ?_
    refine cb rfl (fun h140 p140 => ?_) (fun h140 p140 => ?_)
    ·refine go 4 ?_
     refine o_v rfl (OV.cast (u := .int .i64 ((((a + b) / 2) + m - b : Nat) : Int)) (v_sub rfl rfl ⟨by omega, by omega⟩) (congrArg (Value.int .i64) (by omega))) ?_
     refine go 8 ?_
     exact q_cutx2 (((a + b) / 2) + m - b) (((a + b) / 2)) (.inl ⟨by omega, rfl, rfl⟩) sb rfl rfl
    ·refine go 11 ?_
     exact q_cutx2 (a) (m) (.inr ⟨by omega, rfl, rfl⟩) sb rfl rfl
   ·intro S R hS
    refine go 3 ?_
    refine o_v rfl (OV.cast (u := .int .i64 ((((a + b) / 2) + m - 1 : Nat) : Int)) (v_sub rfl rfl ⟨by omega, by omega⟩) (congrArg (Value.int .i64) (by omega))) ?_
    refine go 5 ?_
    refine c_loop2 (S) (R) (fun s r => I)
     (fun s r => [(0, .slice (some ⟨g, 0, none⟩) N N), (1, .int .i64 ((a : Nat) : Int)), (2, .int .i64 ((m : Nat) : Int)), (3, .int .i64 ((b : Nat) : Int)), (4, .func (.func f) #[] #[]), (18, .int .i64 ((((a + b) / 2) : Nat) : Int)), (19, .int .i64 ((((a + b) / 2) + m : Nat) : Int)), (20, .int .i64 ((s : Nat) : Int)), (21, .int .i64 ((r : Nat) : Int)), (22, .int .i64 ((((a + b) / 2) + m - 1 : Nat) : Int))])
     (fun s r => [.blk g 49 (evCh (l)).flatten])
     (fun s r => S ≤ s ∧ s ≤ r ∧ r ≤ R ∧ (∀ q, S ≤ q → q < s → dayAt l q ≤ dayAt l (((a + b) / 2) + m - 1 - q)) ∧ (∀ q, r ≤ q → q < R → dayAt l (((a + b) / 2) + m - 1 - q) < dayAt l q))
     (fun s r => r - s) ⟨by omega, by omega, by omega, fun q _ _ => by omega, fun q _ _ => by omega⟩ rfl sb rfl ?_
    intro s r ⟨hs1, hsr, hrR, hlo, hhi⟩
    refine go 8 ?_
    refine cb rfl (fun h151 p151 => ?_) (fun h151 p151 => ?_)
    ·have hh : (s + r) / 2 < l.length := by omega
     have hh2 : ((a + b) / 2) + m - 1 - (s + r) / 2 < l.length := by omega
     refine go 8 ?_
     refine o_v rfl (v_conv he he rfl (m := (s : Int) + (r : Int)) (wrap_u64 _ (by omega) (by omega))) ?_
     refine o_v rfl (v_shr1 rfl (by decide)) ?_
     refine o_v rfl (v_conv he he rfl (m := (((s + r) / 2 : Nat) : Int)) (by rw [IntKind.wrap_i64]; omega)) ?_
     refine go 4 ?_
     refine d_startH T.mixed ?_
     refine d_tv 0 rfl rfl (by kernel_rfl) rfl (.refl _) rfl (v_move rfl) ?_
     refine d_tv 1 rfl rfl (by kernel_rfl) rfl (.refl _) rfl (v_move rfl) ?_
     refine d_tv 2 rfl rfl (by kernel_rfl) rfl (.refl _) rfl (v_move rfl) ?_
     refine d_tv 3 rfl rfl (by kernel_rfl) rfl (.refl _) rfl (v_move rfl) ?_
     refine d_tv 4 rfl rfl (by kernel_rfl) rfl (.refl _) rfl (OV.cast (u := .int .i64 ((((a + b) / 2) + m - 1 - (s + r) / 2 : Nat) : Int)) (v_sub rfl rfl ⟨by omega, by omega⟩) (congrArg (Value.int .i64) (by omega))) ?_
     refine d_tv 5 rfl rfl (by kernel_rfl) rfl (.refl _) rfl (v_idx he rfl rfl rfl (((a + b) / 2) + m - 1 - (s + r) / 2) (by omega) (by omega)) ?_
     refine d_tv 6 rfl rfl (by kernel_rfl) rfl (.refl _) rfl (v_ldc m0 (evCh_ukE _) he rfl (((a + b) / 2) + m - 1 - (s + r) / 2) (by omega) (evCh_at hh2)) ?_
     refine d_tv 7 rfl rfl (by kernel_rfl) rfl (.refl _) rfl (v_move rfl) ?_
     refine d_tv 8 rfl rfl (by kernel_rfl) rfl (.refl _) rfl (v_move rfl) ?_
     refine d_tv 9 rfl rfl (by kernel_rfl) rfl (.refl _) rfl (v_idx he rfl rfl rfl ((s + r) / 2) (by omega) (by omega)) ?_
     refine d_tv 10 rfl rfl (by kernel_rfl) rfl (.refl _) rfl (v_ldc m0 (evCh_ukE _) he rfl ((s + r) / 2) (by omega) (evCh_at hh)) ?_
     refine d_one 11 (by kernel_rfl) rfl ?_
     refine o_callV (hp _ _) rfl rfl ?_
     refine d_on (fun _ m => m.keeps (.refl _)) ?_
     refine d_tv 12 rfl rfl (by kernel_rfl) rfl (.refl _) rfl (v_lss rfl rfl) ?_
     refine d_tv 13 rfl rfl (by kernel_rfl) rfl (.refl _) rfl (v_not rfl) ?_
     refine d_done (by kernel_rfl) ?_
     refine go 1 ?_
     refine cb rfl (fun h171 p171 => ?_) (fun h171 p171 => ?_)
     ·refine go 7 ?_
      exact q_next2 ((s + r) / 2 + 1) (r) ⟨by omega, by omega, by omega, spl_up m1 m2 ham hmb rfl hS (h := (s + r) / 2) (r := r) (by omega) (by omega) hrR (day_ge p171), hhi⟩ (by omega) rfl sb rfl
     ·refine go 6 ?_
      exact q_next2 (s) ((s + r) / 2) ⟨by omega, by omega, by omega, hlo, spl_dn m1 m2 ham hmb rfl hS (h := (s + r) / 2) (s := s) hs1 (by omega) (by omega) (day_lt p171)⟩ (by omega) rfl sb rfl
    ·obtain rfl : s = r := by omega
     obtain ⟨hx, hy⟩ := spl_fin m1 m2 ham hmb rfl hS hs1 hrR hlo hhi
     have g0 : a ≤ s := by omega
     have g1 : s ≤ m := by omega
     have g2 : m ≤ ((a + b) / 2 + m - s) := by omega
     have g3 : ((a + b) / 2 + m - s) ≤ b := by omega
     have hc : s + (((a + b) / 2 + m - s) - m) = ((a + b) / 2) := by omega
     refine go 9 ?_
     refine o_v rfl (OV.cast (u := .int .i64 ((((a + b) / 2 + m - s) : Nat) : Int)) (v_sub rfl rfl ⟨by omega, by omega⟩) (congrArg (Value.int .i64) (by omega))) ?_
     refine go 4 ?_
     refine c_cutx (α := List Evt) (Ix := (fun k => I)) (Lx := (fun k => [(0, .slice (some ⟨g, 0, none⟩) N N), (1, .int .i64 ((a : Nat) : Int)), (2, .int .i64 ((m : Nat) : Int)), (3, .int .i64 ((b : Nat) : Int)), (4, .func (.func f) #[] #[]), (18, .int .i64 ((((a + b) / 2) : Nat) : Int)), (20, .int .i64 ((s : Nat) : Int)), (24, .int .i64 ((((a + b) / 2 + m - s) : Nat) : Int))])) (Hx := (fun k => [.blk g 49 (evCh (k)).flatten])) (p := (fun k => Rot l k a s m ((a + b) / 2 + m - s) b)) ?_ ?_
     ·refine go 6 ?_
      refine sxb 181 rfl (fun h181 p181 => ?_) (fun h181 p181 => ?_)
      ·refine go 6 ?_
       refine cb rfl (fun h185 p185 => ?_) (fun h185 p185 => ?_)
       ·refine go 7 ?_
        refine o_callX1 (rotate _ l N hN g s m ((a + b) / 2 + m - s) f (by omega) (by omega) (by omega) (by omega)) rfl rfl (fun v191 s191 q191 => ?_)
        obtain ⟨rfl, k, rfl, hkl, hk⟩ := q191
        refine go 2 ?_
        exact q_cutx k (Rot.of g1 g2 (by omega) hkl hk hx) sb rfl rfl
       ·refine go 2 ?_
        exact q_cutx l (Rot.id (by omega) g1 g2) sb rfl rfl
      ·refine go 6 ?_
       refine c_false rfl ?_
       refine go 2 ?_
       exact q_cutx l (Rot.id (by omega) g1 g2) sb rfl rfl
     ·intro k hk
      refine go 1 ?_
      refine c_cutx (α := List Evt) (Ix := (fun k1 => I)) (Lx := (fun k1 => [(0, .slice (some ⟨g, 0, none⟩) N N), (1, .int .i64 ((a : Nat) : Int)), (2, .int .i64 ((m : Nat) : Int)), (3, .int .i64 ((b : Nat) : Int)), (4, .func (.func f) #[] #[]), (18, .int .i64 ((((a + b) / 2) : Nat) : Int)), (20, .int .i64 ((s : Nat) : Int)), (24, .int .i64 ((((a + b) / 2 + m - s) : Nat) : Int))])) (Hx := (fun k1 => [.blk g 49 (evCh (k1)).flatten])) (p := (fun k1 => Seg k k1 a ((a + b) / 2))) ?_ ?_
      ·refine go 6 ?_
       refine sxb 195 rfl (fun h195 p195 => ?_) (fun h195 p195 => ?_)
       ·refine go 6 ?_
        refine cb rfl (fun h199 p199 => ?_) (fun h199 p199 => ?_)
        ·refine go 7 ?_
         refine o_callX1 (ih k a s ((a + b) / 2) (hk.len.trans hN) (by omega) (by omega) (by omega) (by have := hk.len; omega) (hk.p1 m1 g1) ((hk.p2 m2 g1 g2 g3).sub (Nat.le_refl _) (by omega))) rfl rfl (fun v205 s205 q205 => ?_)
         obtain ⟨rfl, k1, rfl, hk1⟩ := q205
         refine go 2 ?_
         exact q_cutx k1 hk1 sb rfl rfl
        ·refine go 2 ?_
         exact q_cutx k (Seg.refl' (hk.left m1 m2 g1 g2 g3 hc (by omega) g0)) sb rfl rfl
       ·refine go 6 ?_
        refine c_false rfl ?_
        refine go 2 ?_
        exact q_cutx k (Seg.refl' (hk.left m1 m2 g1 g2 g3 hc (by omega) g0)) sb rfl rfl
      ·intro k1 hk1
       have hl1 : k1.length = N := hk1.len.trans (hk.len.trans hN)
       refine go 6 ?_
       refine sxb 209 rfl (fun h209 p209 => ?_) (fun h209 p209 => ?_)
       ·refine go 6 ?_
        refine cb rfl (fun h213 p213 => ?_) (fun h213 p213 => ?_)
        ·refine go 7 ?_
         refine o_callX1 (ih k1 ((a + b) / 2) ((a + b) / 2 + m - s) b hl1 (by omega) (by omega) (by omega) (by omega) (hk1.keepD (Nat.le_refl _) ((hk.p3 m1 g0 g1 g2).sub (by omega) (Nat.le_refl _))) (hk1.keepD (by omega) (hk.p4 m2 g1 g2))) rfl rfl (fun v219 s219 q219 => ?_)
         obtain ⟨rfl, k2, rfl, hk2⟩ := q219
         refine go 1 ?_
         refine end0 rfl ?_
         exact q_x ⟨rfl, k2, rfl, hk.done m1 m2 g0 g1 g2 g3 hb hc hx hy hk1 hk2⟩
        ·refine go 1 ?_
         refine end0 rfl ?_
         exact q_x ⟨rfl, k1, rfl, hk.done m1 m2 g0 g1 g2 g3 hb hc hx hy hk1 (Seg.refl' (hk1.keepD (Nat.le_refl _) (hk.right m1 m2 g0 g1 g2 hc (by omega) g3)))⟩
       ·refine go 6 ?_
        refine c_false rfl ?_
        refine go 1 ?_
        refine end0 rfl ?_
        exact q_x ⟨rfl, k1, rfl, hk.done m1 m2 g0 g1 g2 g3 hb hc hx hy hk1 (Seg.refl' (hk1.keepD (Nat.le_refl _) (hk.right m1 m2 g0 g1 g2 hc (by omega) g3)))⟩

theorem symMerge (I : IMap) (N g : Nat) (f : FuncId) (hp : ∀ x y : Evt, FnV Tryz.prog f #[.agg (Day.ch x).toArray, .agg (Day.ch y).toArray] I (.int .i64 (cmpI (Day.day x) (Day.day y)))) (hN0 : N ≤ 1000000) (W : Nat) : ∀ (l : List Evt) (a m b : Nat), l.length = N → b - a ≤ W → a < m → m < b → b ≤ l.length → SrtD l a m → SrtD l m b → FnX Tryz.prog 192 #[.slice (some ⟨g, 0, none⟩) N N, .int .i64 ((a : Nat) : Int), .int .i64 ((m : Nat) : Int), .int .i64 ((b : Nat) : Int), .func (.func f) #[] #[]] I [.blk g 49 (evCh (l)).flatten] (fun u r => u = .tuple #[] ∧ ∃ m, r = .blk g 49 (evCh (m)).flatten ∧ Seg l m a b) := by
  induction W using Nat.strongRecOn with
  | _ W ih => exact fun l a m b hN hW ham hmb hb m1 m2 => symMergeW I N g f hp hN0 W (fun l' a' m' b' h1 h2 h3 h4 h5 h6 h7 => ih (b' - a') h2 l' a' m' b' h1 (Nat.le_refl _) h3 h4 h5 h6 h7) l a m b hN hW ham hmb hb m1 m2

theorem stable (I : IMap) (N g : Nat) (f : FuncId) (hp : ∀ x y : Evt, FnV Tryz.prog f #[.agg (Day.ch x).toArray, .agg (Day.ch y).toArray] I (.int .i64 (cmpI (Day.day x) (Day.day y)))) (hN0 : N ≤ 1000000) (l : List Evt) (hN : l.length = N) :
    FnX Tryz.prog 172 #[.slice (some ⟨g, 0, none⟩) N N, .int .i64 ((N : Nat) : Int), .func (.func f) #[] #[]] I [.blk g 49 (evCh (l)).flatten] (fun u r => u = .tuple #[] ∧ ∃ m, r = .blk g 49 (evCh (m)).flatten ∧ Stb l m ∧ SrtD m 0 N) := by
 refine enter Tryz.func172 Tryz.call172 rfl Tryz.ntmps172 rfl (fun w0 => ?_)
 refine go 14 ?_
 refine c_loop2 (0) (l) (fun a m => I)
  (fun a m => [(0, .slice (some ⟨g, 0, none⟩) N N), (1, .int .i64 ((N : Nat) : Int)), (2, .func (.func f) #[] #[]), (6, .int .i64 20), (7, .int .i64 ((a : Nat) : Int)), (8, .int .i64 ((a + 20 : Nat) : Int))])
  (fun a m => [.blk g 49 (evCh (m)).flatten])
  (fun a m => a ≤ N ∧ Stb l m ∧ Pre m 20 a)
  (fun a m => N - a) ⟨Nat.zero_le _, Stb.refl l, .zero⟩ rfl sb rfl ?_
 intro a m ⟨ha, hs, hP⟩
 have hmN : m.length = N := hs.1.symm.trans hN
 refine go 8 ?_
 refine cb rfl (fun h13 p13 => ?_) (fun h13 p13 => ?_)
 ·refine go 10 ?_
  refine o_callX1 (insSort _ m N hmN g a (a + 20) f hp (by omega) (by omega) (by omega)) rfl rfl (fun v18 s18 q18 => ?_)
  obtain ⟨rfl, k18, rfl, h18⟩ := q18
  refine go 11 ?_
  refine o_v rfl (OV.cast (u := .int .i64 ((a + 20 + 20 : Nat) : Int)) (v_add rfl rfl ⟨by omega, by omega⟩) (congrArg (Value.int .i64) (by omega))) ?_
  refine go 4 ?_
  exact q_next2 (a + 20) (k18) ⟨by omega, hs.trans h18.stb, hP.put h18⟩ (by omega) rfl sb rfl
 ·refine go 12 ?_
  refine o_callX1 (insSort _ m N hmN g a N f hp ha (by omega) (by omega)) rfl rfl (fun v27 s27 q27 => ?_)
  obtain ⟨rfl, m3, rfl, h27⟩ := q27
  refine go 3 ?_
  refine c_loop2 (20) (m3) (fun q m => I)
   (fun q m => [(0, .slice (some ⟨g, 0, none⟩) N N), (1, .int .i64 ((N : Nat) : Int)), (2, .func (.func f) #[] #[]), (6, .int .i64 ((q : Nat) : Int))])
   (fun q m => [.blk g 49 (evCh (m)).flatten])
   (fun q m => 1 ≤ q ∧ Stb l m ∧ Blk m q N 0)
   (fun q m => N - q) ⟨by omega, hs.trans h27.stb, hP.last h27 ha (by omega)⟩ rfl sb rfl ?_
  intro q m ⟨hq, hs, hB⟩
  have hmN : m.length = N := hs.1.symm.trans hN
  refine go 8 ?_
  refine cb rfl (fun h30 p30 => ?_) (fun h30 p30 => ?_)
  ·refine go 6 ?_
   refine o_v rfl (OV.cast (u := .int .i64 ((2 * q : Nat) : Int)) (v_mul rfl rfl ⟨by omega, by omega⟩) (congrArg (Value.int .i64) (by omega))) ?_
   refine go 6 ?_
   refine c_loop2 (0) (m) (fun a k => I)
    (fun a k => [(0, .slice (some ⟨g, 0, none⟩) N N), (1, .int .i64 ((N : Nat) : Int)), (2, .func (.func f) #[] #[]), (6, .int .i64 ((q : Nat) : Int)), (7, .int .i64 ((a : Nat) : Int)), (8, .int .i64 ((a + 2 * q : Nat) : Int))])
    (fun a k => [.blk g 49 (evCh (k)).flatten])
    (fun a k => a ≤ N ∧ Stb l k ∧ Pre k (2 * q) a ∧ Blk k q N a)
    (fun a k => N - a) ⟨Nat.zero_le _, hs, .zero, hB⟩ rfl ⟨rfl, rfl, rfl, rfl, rfl, congrArg (fun z : Int => some (Value.int .i64 z)) (by omega), trivial⟩ rfl ?_
   intro a k ⟨ha, hkS, hkP, hkB⟩
   have hkN : k.length = N := hkS.1.symm.trans hN
   refine go 8 ?_
   refine cb rfl (fun h35 p35 => ?_) (fun h35 p35 => ?_)
   ·obtain ⟨t1, t2, t3⟩ := hkB.two (by omega) hq
    refine go 9 ?_
    refine o_v rfl (OV.cast (u := .int .i64 ((a + q : Nat) : Int)) (v_add rfl rfl ⟨by omega, by omega⟩) (congrArg (Value.int .i64) (by omega))) ?_
    refine go 3 ?_
    refine o_callX1 (symMerge _ N g f hp hN0 _ k a (a + q) (a + 2 * q) hkN (Nat.le_refl _) (by omega) (by omega) (by omega) t1 t2) rfl rfl (fun v43 s43 q43 => ?_)
    obtain ⟨rfl, k43, rfl, h43⟩ := q43
    refine go 11 ?_
    refine o_v rfl (OV.cast (u := .int .i64 ((2 * q : Nat) : Int)) (v_mul rfl rfl ⟨by omega, by omega⟩) (congrArg (Value.int .i64) (by omega))) ?_
    refine o_v rfl (OV.cast (u := .int .i64 ((a + 2 * q + 2 * q : Nat) : Int)) (v_add rfl rfl ⟨by omega, by omega⟩) (congrArg (Value.int .i64) (by omega))) ?_
    refine go 4 ?_
    exact q_next2 (a + 2 * q) (k43) ⟨by omega, hkS.trans h43.stb, hkP.put h43, t3.same fun z z1 z2 => h43.out z (.inr (by omega))⟩ (by omega) rfl sb rfl
   ·refine go 6 ?_
    refine c_cutx (α := List Evt) (Ix := (fun k => I)) (Lx := (fun k => [(0, .slice (some ⟨g, 0, none⟩) N N), (1, .int .i64 ((N : Nat) : Int)), (2, .func (.func f) #[] #[]), (6, .int .i64 ((q : Nat) : Int))])) (Hx := (fun k => [.blk g 49 (evCh (k)).flatten])) (p := (fun k => Stb l k ∧ Blk k (2 * q) N 0)) ?_ ?_
    ·refine go 4 ?_
     refine o_v rfl (OV.cast (u := .int .i64 ((a + q : Nat) : Int)) (v_add rfl rfl ⟨by omega, by omega⟩) (congrArg (Value.int .i64) (by omega))) ?_
     refine go 10 ?_
     refine cb rfl (fun h54 p54 => ?_) (fun h54 p54 => ?_)
     ·obtain ⟨t1, t2⟩ := hkB.one (by omega)
      refine go 7 ?_
      refine o_callX1 (symMerge _ N g f hp hN0 _ k a (a + q) N hkN (Nat.le_refl _) (by omega) (by omega) (by omega) t1 (t2 (by omega))) rfl rfl (fun v60 s60 q60 => ?_)
      obtain ⟨rfl, k60, rfl, h60⟩ := q60
      refine go 2 ?_
      exact q_cutx k60 ⟨hkS.trans h60.stb, hkP.last h60 ha (by omega)⟩ sb rfl rfl
     ·refine go 2 ?_
      exact q_cutx k ⟨hkS, hkP.last (Seg.refl' (hkB.all (by omega))) ha (by omega)⟩ sb rfl rfl
    ·intro k ⟨hkS, hkB⟩
     refine go 2 ?_
     refine o_v rfl (OV.cast (u := .int .i64 ((2 * q : Nat) : Int)) (v_mul rfl rfl ⟨by omega, by omega⟩) (congrArg (Value.int .i64) (by omega))) ?_
     refine go 4 ?_
     exact q_next2 (2 * q) (k) ⟨by omega, hkS, hkB⟩ (by omega) rfl sb rfl
  ·refine go 4 ?_
   refine end0 rfl ?_
   exact q_x ⟨rfl, m, rfl, hs, hB.all (by omega)⟩

theorem sortStable (I : IMap) (N g : Nat) (f : FuncId) (hp : ∀ x y : Evt, FnV Tryz.prog f #[.agg (Day.ch x).toArray, .agg (Day.ch y).toArray] I (.int .i64 (cmpI (Day.day x) (Day.day y)))) (hN0 : N ≤ 1000000) (l : List Evt) (hN : l.length = N) :
    FnX Tryz.prog 142 #[.slice (some ⟨g, 0, none⟩) N N, .func (.func f) #[] #[]] I [.blk g 49 (evCh (l)).flatten] (fun u r => u = .tuple #[] ∧ ∃ m, r = .blk g 49 (evCh (m)).flatten ∧ Stb l m ∧ SrtD m 0 N) := by
 refine enter Tryz.func142 Tryz.call142 rfl Tryz.ntmps142 rfl (fun w0 => ?_)
 refine go 6 ?_
 refine o_callX1 (stable _ N g f hp hN0 l hN) rfl rfl (fun v8 s8 q8 => ?_)
 obtain ⟨rfl, m8, rfl, h8⟩ := q8
 refine go 1 ?_
 refine end0 rfl ?_
 exact q_x ⟨rfl, m8, rfl, h8⟩

theorem sortedE (I : IMap) (v : Value) (l : List Evt) (hv : RdS I v l) (hl : l.length ≤ 1000000) (f : FuncId) (hp : ∀ x y : Evt, FnV Tryz.prog f #[.agg (Day.ch x).toArray, .agg (Day.ch y).toArray] I (.int .i64 (cmpI (Day.day x) (Day.day y)))) :
    FnI Tryz.prog 111 #[v, .func (.func f) #[] #[]] I (fun u J => RdS J u (sortF l)) := by
 obtain ⟨A, c, rfl, hA, hc, hm⟩ := hv
 refine enter Tryz.func111 Tryz.call111 rfl Tryz.ntmps111 rfl (fun w0 => ?_)
 refine go 10 ?_
 refine o_makeSlice he he rfl rfl rfl (by omega) (by omega) rfl (fun g8 => ?_)
 refine go 8 ?_
 obtain ⟨xss, hx, hcell⟩ := hA.pieces
 obtain rfl := evCh_of hx
 refine o_copy (evCh l) 0 he rfl rfl (by rw [evCh_len]; simp) (Uk.rep (c := [.int .i64 0, .int .i64 0, .string ⟨#[]⟩, .string ⟨#[]⟩, .string ⟨#[]⟩, .string ⟨#[]⟩, .string ⟨#[]⟩, .string ⟨#[]⟩, .int .i64 0, .int .i64 0, .int .i64 0, .int .i64 0, .int .i64 0, .int .i64 0]) rfl _) (evCh_ukE l) hx.one (fun _ => by rw [Nat.zero_mul]) (fun hp => by rw [evCh_len] at hp; obtain ⟨b, o, e, h⟩ := hcell hp; exact ⟨b, o, e, fun w mm j u hu => (h j u hu).at_ mm.con⟩) (by rw [evCh_len]; simp) rfl ?_
 refine sx_blk_eq (yss := evCh l) (by rw [evCh_len]; simp) ?_
 refine go 7 ?_
 refine o_callX1 (sortStable _ l.length g8 f hp hl l rfl) rfl rfl (fun v14 s14 q14 => ?_)
 obtain ⟨rfl, m14, rfl, h14, s14⟩ := q14
 refine go 9 ?_
 refine fin1 rfl rfl ?_
 have hml : m14.length = l.length := h14.1.symm
 obtain rfl := sortF_is h14 (SrtD.pw (by rw [hml]; exact s14))
 refine sx_unrow0 (m := l.length) (evCh_ukE _) (by rw [evCh_len, hml]) (by unfold maxLen; omega) ?_
 refine sx_pubrow (l := sortF l) rfl hml.symm (evCh_flat _).flat (fun J hJ R => ?_)
 exact q_i R

theorem byDay (I : IMap) (x y : Evt) :
    FnV Tryz.prog 112 #[.agg (Day.ch x).toArray, .agg (Day.ch y).toArray] I (.int .i64 (cmpI (Day.day x) (Day.day y))) := by
 refine enter Tryz.func112 Tryz.call112 rfl Tryz.ntmps112 rfl (fun w0 => ?_)
 show SX _ _ _ (argsL [.agg x.cells.toArray, .agg y.cells.toArray] 0) _ _
 refine go 3 ?_
 refine o_box _ rfl rfl rfl (fun g2 => ?_)
 refine go 1 ?_
 refine o_box _ rfl rfl rfl (fun g3 => ?_)
 refine go 10 ?_
 refine o_callV (compare_int _ _ _) rfl rfl ?_
 refine go 4 ?_
 refine fin1 rfl rfl ?_
 exact q_v rfl

theorem cSort (I : IMap) (v : Value) (l : List Evt) (hv : RdS I v l) (hl : l.length ≤ 1000000) :
    FnI Tryz.prog 85 #[v] I (fun u J => RdS J u (sortF l)) := by
 refine enter Tryz.func85 Tryz.call85 rfl Tryz.ntmps85 rfl (fun w0 => ?_)
 refine go 9 ?_
 refine o_call (sortedE _ v l hv hl 112 (fun x y => byDay _ x y)) rfl rfl (fun v4 I4 j4 q4 => ?_)
 refine go 4 ?_
 refine fin1 rfl rfl ?_
 exact q_i q4

end Go.Proofs.YtdkjmaoelojpeaaGreat

