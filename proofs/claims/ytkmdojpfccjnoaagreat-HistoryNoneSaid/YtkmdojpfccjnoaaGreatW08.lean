/- Walks, printed by a program out of the code of the functions: each theorem is a contract of one function. -/
import Derived.Test.YtkmdojpfccjnoaaGreatW05
import Derived.Test.YtkmdojpfccjnoaaGreatM08
namespace Go.Proofs.YtkmdojpfccjnoaaGreat
open Go Go.Sx
set_option linter.all false
set_option maxRecDepth 20000
set_option maxHeartbeats 4000000
instance T.by_9 : Has (bytesK Tryz.prog 9) ([.string ⟨#[]⟩], 1, 16) := ⟨by kernel_rfl⟩
instance T.elt_22 : Has (eltK Tryz.prog 22) (87, 3) := ⟨by kernel_rfl⟩
instance T.elt_67 : Has (eltK Tryz.prog 67) (124, 14) := ⟨by kernel_rfl⟩
instance T.elt_85 : Has (eltK Tryz.prog 85) (103, 3) := ⟨by kernel_rfl⟩
instance T.fld_103_0 : Has (fldK Tryz.prog 103 0) (0, false, 1) := ⟨by kernel_rfl⟩
instance T.fld_103_1 : Has (fldK Tryz.prog 103 1) (1, false, 1) := ⟨by kernel_rfl⟩
instance T.fld_103_2 : Has (fldK Tryz.prog 103 2) (2, false, 1) := ⟨by kernel_rfl⟩
instance T.fld_24_0 : Has (fldK Tryz.prog 24 0) (0, false, 1) := ⟨by kernel_rfl⟩
instance T.fld_87_0 : Has (fldK Tryz.prog 87 0) (0, false, 1) := ⟨by kernel_rfl⟩
instance T.fld_87_1 : Has (fldK Tryz.prog 87 1) (1, false, 1) := ⟨by kernel_rfl⟩
instance T.fld_87_2 : Has (fldK Tryz.prog 87 2) (2, false, 1) := ⟨by kernel_rfl⟩
theorem T.mixed : Tryz.prog.follows .mixedOrders = true := by kernel_rfl
instance T.pl_103 : Has (plK Tryz.prog 103) [(0, 1), (1, 1), (2, 1)] := ⟨by kernel_rfl⟩
instance T.pl_24 : Has (plK Tryz.prog 24) [(0, 1)] := ⟨by kernel_rfl⟩
instance T.pl_87 : Has (plK Tryz.prog 87) [(0, 1), (1, 1), (2, 1)] := ⟨by kernel_rfl⟩
instance T.ty_103 : Has (tyK Tryz.prog 103) (true, 3) := ⟨by kernel_rfl⟩
instance T.ty_124 : Has (tyK Tryz.prog 124) (true, 14) := ⟨by kernel_rfl⟩
instance T.ty_162 : Has (tyK Tryz.prog 162) (false, 1) := ⟨by kernel_rfl⟩
instance T.ty_195 : Has (tyK Tryz.prog 195) (false, 1) := ⟨by kernel_rfl⟩
instance T.ty_22 : Has (tyK Tryz.prog 22) (false, 1) := ⟨by kernel_rfl⟩
instance T.ty_24 : Has (tyK Tryz.prog 24) (true, 1) := ⟨by kernel_rfl⟩
instance T.ty_3 : Has (tyK Tryz.prog 3) (false, 1) := ⟨by kernel_rfl⟩
instance T.ty_4 : Has (tyK Tryz.prog 4) (false, 1) := ⟨by kernel_rfl⟩
instance T.ty_57 : Has (tyK Tryz.prog 57) (false, 1) := ⟨by kernel_rfl⟩
instance T.ty_85 : Has (tyK Tryz.prog 85) (false, 1) := ⟨by kernel_rfl⟩
instance T.ty_87 : Has (tyK Tryz.prog 87) (true, 3) := ⟨by kernel_rfl⟩
instance T.und_22 : Has (Tryz.prog.underlying 22) (.slice 87) := ⟨by kernel_rfl⟩
instance T.und_56 : Has (Tryz.prog.underlying 56) (.map 9 4) := ⟨by kernel_rfl⟩
instance T.und_67 : Has (Tryz.prog.underlying 67) (.slice 124) := ⟨by kernel_rfl⟩
instance T.und_85 : Has (Tryz.prog.underlying 85) (.slice 103) := ⟨by kernel_rfl⟩
instance T.zero_103 : Has (zeroK Tryz.prog 103) [.string ⟨#[]⟩, .slice none 0 0, .int .i64 0] := ⟨by kernel_rfl⟩
instance T.zero_24 : Has (zeroK Tryz.prog 24) [.slice none 0 0] := ⟨by kernel_rfl⟩
instance T.zero_87 : Has (zeroK Tryz.prog 87) [.string ⟨#[]⟩, .bool false, .slice none 0 0] := ⟨by kernel_rfl⟩
instance T.zero_9 : Has (zeroK Tryz.prog 9) [.string ⟨#[]⟩] := ⟨by kernel_rfl⟩
instance T.zv_4 : Has (zvK Tryz.prog 4) (.bool false) := ⟨by kernel_rfl⟩

theorem isNaN_string (I : IMap) (x : ByteArray) :
    FnV Tryz.prog 138 #[.string x] I (.bool false) := by
 refine enter Tryz.func138 Tryz.call138 rfl Tryz.ntmps138 rfl (fun w0 => ?_)
 refine go 14 ?_
 refine fin1 rfl rfl ?_
 exact q_v (by simp)


theorem compare_string (I : IMap) (x y : ByteArray) :
    FnV Tryz.prog 101 #[.string x, .string y] I (.int .i64 (cmpS x y)) := by
 refine enter Tryz.func101 Tryz.call101 rfl Tryz.ntmps101 rfl (fun w0 => ?_)
 refine go 9 ?_
 refine o_callV (isNaN_string I x) rfl rfl ?_
 refine go 7 ?_
 refine o_callV (isNaN_string I y) rfl rfl ?_
 refine go 9 ?_
 refine c_false rfl ?_
 refine go 8 ?_
 refine c_false rfl ?_
 refine go 10 ?_
 refine cb rfl (fun h16 p16 => ?_) (fun h16 p16 => ?_)
 ·refine go 7 ?_
  refine fin1 rfl rfl ?_
  exact q_v (by unfold cmpS; rw [if_pos h16])
 ·refine go 10 ?_
  refine cb rfl (fun h19 p19 => ?_) (fun h19 p19 => ?_)
  ·refine go 7 ?_
   refine fin1 rfl rfl ?_
   exact q_v (by unfold cmpS; rw [if_neg (by rw [h16]; decide), if_pos h19])
  ·refine go 8 ?_
   refine fin1 rfl rfl ?_
   exact q_v (by unfold cmpS; rw [if_neg (by rw [h16]; decide), if_neg (by rw [h19]; decide)])

theorem indexFunc_Kind (I : IMap) (v : Value) (l : List Kind) (hv : RdS I v l) (f : FuncId) (cs : List Value) (p : Kind → Bool) (hp : ∀ x ∈ l, ∀ vs, Enc.rd I vs x → FnV Tryz.prog f ([Value.agg vs.toArray] ++ cs).toArray I (.bool (p x))) :
    FnV Tryz.prog 141 #[v, .func (.func f) #[] cs.toArray] I (.int .i64 (idxF p l)) := by
 obtain ⟨A, c, rfl, hA, hc, hm⟩ := hv
 refine enter Tryz.func141 Tryz.call141 rfl Tryz.ntmps141 rfl (fun w0 => ?_)
 refine go 14 ?_
 refine c_loop (α := Nat) 0 (fun i => I)
  (fun i => [(0, .slice A l.length c), (1, .func (.func f) #[] cs.toArray), (7, .int .i64 (l.length : Int)), (8, .int .i64 (i : Int))])
  (fun i => [])
  (fun i => i ≤ l.length ∧ ∀ j x, j < i → l[j]? = some x → p x = false)
  (fun i => l.length - i) ⟨Nat.zero_le _, fun j x hj => absurd hj (Nat.not_lt_zero j)⟩ rfl sb rfl ?_
 intro i ⟨hi, hn⟩
 refine go 6 ?_
 refine cb rfl (fun h9 p9 => ?_) (fun h9 p9 => ?_)
 ·have hlt : i < l.length := by omega
  refine go 15 ?_
  obtain ⟨b14, o14, w14, e14, c14, r14⟩ := RdA.at_ hA (i := i) hlt
  refine o_v rfl (v_idx he rfl rfl e14 (i) (by omega) hlt) ?_
  refine o_v rfl (v_ldIa he rfl c14 (Enc.len r14)) ?_
  refine go 1 ?_
  refine o_callV (hp _ (List.getElem_mem hlt) _ r14) rfl rfl ?_
  refine go 2 ?_
  refine cb rfl (fun h16 p16 => ?_) (fun h16 p16 => ?_)
  ·refine go 12 ?_
   refine fin1 rfl rfl ?_
   exact q_v (congrArg (Value.int .i64) (idxF_found hlt p16 hn).symm)
  ·refine go 8 ?_
   exact q_next (i + 1) ⟨by omega, idx_next hn hlt p16⟩ (by omega) rfl sb rfl
 ·refine go 11 ?_
  refine fin1 rfl rfl ?_
  exact q_v (congrArg (Value.int .i64) (idxF_none (fun j x hj => hn j x (by omega))).symm)

theorem indexFunc_Slot (I : IMap) (v : Value) (l : List Slot) (hv : RdS I v l) (f : FuncId) (cs : List Value) (p : Slot → Bool) (hp : ∀ x ∈ l, ∀ vs, Enc.rd I vs x → FnV Tryz.prog f ([Value.agg vs.toArray] ++ cs).toArray I (.bool (p x))) :
    FnV Tryz.prog 158 #[v, .func (.func f) #[] cs.toArray] I (.int .i64 (idxF p l)) := by
 obtain ⟨A, c, rfl, hA, hc, hm⟩ := hv
 refine enter Tryz.func158 Tryz.call158 rfl Tryz.ntmps158 rfl (fun w0 => ?_)
 refine go 14 ?_
 refine c_loop (α := Nat) 0 (fun i => I)
  (fun i => [(0, .slice A l.length c), (1, .func (.func f) #[] cs.toArray), (7, .int .i64 (l.length : Int)), (8, .int .i64 (i : Int))])
  (fun i => [])
  (fun i => i ≤ l.length ∧ ∀ j x, j < i → l[j]? = some x → p x = false)
  (fun i => l.length - i) ⟨Nat.zero_le _, fun j x hj => absurd hj (Nat.not_lt_zero j)⟩ rfl sb rfl ?_
 intro i ⟨hi, hn⟩
 refine go 6 ?_
 refine cb rfl (fun h9 p9 => ?_) (fun h9 p9 => ?_)
 ·have hlt : i < l.length := by omega
  refine go 15 ?_
  obtain ⟨b14, o14, w14, e14, c14, r14⟩ := RdA.at_ hA (i := i) hlt
  refine o_v rfl (v_idx he rfl rfl e14 (i) (by omega) hlt) ?_
  refine o_v rfl (v_ldIa he rfl c14 (Enc.len r14)) ?_
  refine go 1 ?_
  refine o_callV (hp _ (List.getElem_mem hlt) _ r14) rfl rfl ?_
  refine go 2 ?_
  refine cb rfl (fun h16 p16 => ?_) (fun h16 p16 => ?_)
  ·refine go 12 ?_
   refine fin1 rfl rfl ?_
   exact q_v (congrArg (Value.int .i64) (idxF_found hlt p16 hn).symm)
  ·refine go 8 ?_
   exact q_next (i + 1) ⟨by omega, idx_next hn hlt p16⟩ (by omega) rfl sb rfl
 ·refine go 11 ?_
  refine fin1 rfl rfl ?_
  exact q_v (congrArg (Value.int .i64) (idxF_none (fun j x hj => hn j x (by omega))).symm)

theorem indexFunc_Part (I : IMap) (v : Value) (l : List Part) (hv : RdS I v l) (f : FuncId) (cs : List Value) (p : Part → Bool) (hp : ∀ x ∈ l, ∀ vs, Enc.rd I vs x → FnV Tryz.prog f ([Value.agg vs.toArray] ++ cs).toArray I (.bool (p x))) :
    FnV Tryz.prog 106 #[v, .func (.func f) #[] cs.toArray] I (.int .i64 (idxF p l)) := by
 obtain ⟨A, c, rfl, hA, hc, hm⟩ := hv
 refine enter Tryz.func106 Tryz.call106 rfl Tryz.ntmps106 rfl (fun w0 => ?_)
 refine go 14 ?_
 refine c_loop (α := Nat) 0 (fun i => I)
  (fun i => [(0, .slice A l.length c), (1, .func (.func f) #[] cs.toArray), (7, .int .i64 (l.length : Int)), (8, .int .i64 (i : Int))])
  (fun i => [])
  (fun i => i ≤ l.length ∧ ∀ j x, j < i → l[j]? = some x → p x = false)
  (fun i => l.length - i) ⟨Nat.zero_le _, fun j x hj => absurd hj (Nat.not_lt_zero j)⟩ rfl sb rfl ?_
 intro i ⟨hi, hn⟩
 refine go 6 ?_
 refine cb rfl (fun h9 p9 => ?_) (fun h9 p9 => ?_)
 ·have hlt : i < l.length := by omega
  refine go 15 ?_
  obtain ⟨b14, o14, w14, e14, c14, r14⟩ := RdA.at_ hA (i := i) hlt
  refine o_v rfl (v_idx he rfl rfl e14 (i) (by omega) hlt) ?_
  refine o_v rfl (v_ldIa he rfl c14 (Enc.len r14)) ?_
  refine go 1 ?_
  refine o_callV (hp _ (List.getElem_mem hlt) _ r14) rfl rfl ?_
  refine go 2 ?_
  refine cb rfl (fun h16 p16 => ?_) (fun h16 p16 => ?_)
  ·refine go 12 ?_
   refine fin1 rfl rfl ?_
   exact q_v (congrArg (Value.int .i64) (idxF_found hlt p16 hn).symm)
  ·refine go 8 ?_
   exact q_next (i + 1) ⟨by omega, idx_next hn hlt p16⟩ (by omega) rfl sb rfl
 ·refine go 11 ?_
  refine fin1 rfl rfl ?_
  exact q_v (congrArg (Value.int .i64) (idxF_none (fun j x hj => hn j x (by omega))).symm)

theorem containsFunc_Part (I : IMap) (v : Value) (l : List Part) (hv : RdS I v l) (f : FuncId) (cs : List Value) (p : Part → Bool) (hp : ∀ x ∈ l, ∀ vs, Enc.rd I vs x → FnV Tryz.prog f ([Value.agg vs.toArray] ++ cs).toArray I (.bool (p x))) :
    FnV Tryz.prog 78 #[v, .func (.func f) #[] cs.toArray] I (.bool (l.any p)) := by
 refine enter Tryz.func78 Tryz.call78 rfl Tryz.ntmps78 rfl (fun w0 => ?_)
 refine go 10 ?_
 refine o_callV (indexFunc_Part I v l hv f cs p hp) rfl rfl ?_
 refine go 5 ?_
 refine fin1 rfl rfl ?_
 exact q_v (congrArg Value.bool (idxF_any p l))

theorem indexFunc_string (I : IMap) (v : Value) (l : List ByteArray) (hv : RdS I v l) (f : FuncId) (cs : List Value) (p : ByteArray → Bool) (hp : ∀ x ∈ l, ∀ vs, Enc.rd I vs x → FnV Tryz.prog f ([Value.string x] ++ cs).toArray I (.bool (p x))) :
    FnV Tryz.prog 90 #[v, .func (.func f) #[] cs.toArray] I (.int .i64 (idxF p l)) := by
 obtain ⟨A, c, rfl, hA, hc, hm⟩ := hv
 refine enter Tryz.func90 Tryz.call90 rfl Tryz.ntmps90 rfl (fun w0 => ?_)
 refine go 14 ?_
 refine c_loop (α := Nat) 0 (fun i => I)
  (fun i => [(0, .slice A l.length c), (1, .func (.func f) #[] cs.toArray), (7, .int .i64 (l.length : Int)), (8, .int .i64 (i : Int))])
  (fun i => [])
  (fun i => i ≤ l.length ∧ ∀ j x, j < i → l[j]? = some x → p x = false)
  (fun i => l.length - i) ⟨Nat.zero_le _, fun j x hj => absurd hj (Nat.not_lt_zero j)⟩ rfl sb rfl ?_
 intro i ⟨hi, hn⟩
 refine go 6 ?_
 refine cb rfl (fun h9 p9 => ?_) (fun h9 p9 => ?_)
 ·have hlt : i < l.length := by omega
  refine go 15 ?_
  obtain ⟨b14, o14, w14, e14, c14, r14⟩ := RdA.at_ hA (i := i) hlt
  obtain rfl := r14
  refine o_v rfl (v_idx he rfl rfl e14 (i) (by omega) hlt) ?_
  refine o_v rfl (v_ldI he rfl (c14 0 _ rfl)) ?_
  refine go 1 ?_
  refine o_callV (hp _ (List.getElem_mem hlt) _ rfl) rfl rfl ?_
  refine go 2 ?_
  refine cb rfl (fun h16 p16 => ?_) (fun h16 p16 => ?_)
  ·refine go 12 ?_
   refine fin1 rfl rfl ?_
   exact q_v (congrArg (Value.int .i64) (idxF_found hlt p16 hn).symm)
  ·refine go 8 ?_
   exact q_next (i + 1) ⟨by omega, idx_next hn hlt p16⟩ (by omega) rfl sb rfl
 ·refine go 11 ?_
  refine fin1 rfl rfl ?_
  exact q_v (congrArg (Value.int .i64) (idxF_none (fun j x hj => hn j x (by omega))).symm)

theorem containsFunc_string (I : IMap) (v : Value) (l : List ByteArray) (hv : RdS I v l) (f : FuncId) (cs : List Value) (p : ByteArray → Bool) (hp : ∀ x ∈ l, ∀ vs, Enc.rd I vs x → FnV Tryz.prog f ([Value.string x] ++ cs).toArray I (.bool (p x))) :
    FnV Tryz.prog 63 #[v, .func (.func f) #[] cs.toArray] I (.bool (l.any p)) := by
 refine enter Tryz.func63 Tryz.call63 rfl Tryz.ntmps63 rfl (fun w0 => ?_)
 refine go 10 ?_
 refine o_callV (indexFunc_string I v l hv f cs p hp) rfl rfl ?_
 refine go 5 ?_
 refine fin1 rfl rfl ?_
 exact q_v (congrArg Value.bool (idxF_any p l))

theorem index_string (I : IMap) (v : Value) (l : List ByteArray) (hv : RdS I v l) (s : ByteArray) :
    FnV Tryz.prog 145 #[v, .string s] I (.int .i64 (idxF (fun x => decide (s = x)) l)) := by
 obtain ⟨A, c, rfl, hA, hc, hm⟩ := hv
 refine enter Tryz.func145 Tryz.call145 rfl Tryz.ntmps145 rfl (fun w0 => ?_)
 refine go 14 ?_
 refine c_loop (α := Nat) 0 (fun i => I)
  (fun i => [(0, .slice A l.length c), (1, .string s), (7, .int .i64 (l.length : Int)), (8, .int .i64 (i : Int))])
  (fun i => [])
  (fun i => i ≤ l.length ∧ ∀ j x, j < i → l[j]? = some x → (fun x => decide (s = x)) x = false)
  (fun i => l.length - i) ⟨Nat.zero_le _, fun j x hj => absurd hj (Nat.not_lt_zero j)⟩ rfl sb rfl ?_
 intro i ⟨hi, hn⟩
 refine go 6 ?_
 refine cb rfl (fun h9 p9 => ?_) (fun h9 p9 => ?_)
 ·have hlt : i < l.length := by omega
  refine go 15 ?_
  obtain ⟨b14, o14, w14, e14, c14, r14⟩ := RdA.at_ hA (i := i) hlt
  obtain rfl := r14
  refine o_v rfl (v_idx he rfl rfl e14 (i) (by omega) hlt) ?_
  refine o_v rfl (v_ldI he rfl (c14 0 _ rfl)) ?_
  refine go 3 ?_
  refine cb rfl (fun h16 p16 => ?_) (fun h16 p16 => ?_)
  ·refine go 12 ?_
   refine fin1 rfl rfl ?_
   exact q_v (congrArg (Value.int .i64) (idxF_found (p := fun x => decide (s = x)) hlt h16 hn).symm)
  ·refine go 8 ?_
   exact q_next (i + 1) ⟨by omega, idx_next (p := fun x => decide (s = x)) hn hlt h16⟩ (by omega) rfl sb rfl
 ·refine go 11 ?_
  refine fin1 rfl rfl ?_
  exact q_v (congrArg (Value.int .i64) (idxF_none (p := fun x => decide (s = x)) (fun j x hj => hn j x (by omega))).symm)

theorem contains_string (I : IMap) (v : Value) (l : List ByteArray) (hv : RdS I v l) (s : ByteArray) :
    FnV Tryz.prog 108 #[v, .string s] I (.bool (decide (s ∈ l))) := by
 refine enter Tryz.func108 Tryz.call108 rfl Tryz.ntmps108 rfl (fun w0 => ?_)
 refine go 10 ?_
 refine o_callV (index_string I v l hv s) rfl rfl ?_
 refine go 5 ?_
 refine fin1 rfl rfl ?_
 exact q_v (congrArg Value.bool ((idxF_any _ l).trans (any_mem s l)))

theorem kindName (I : IMap) (k : Kind) (vs : List Value) (h : Enc.rd I vs k) :
    FnV Tryz.prog 105 #[.agg vs.toArray] I (.string k.name) := by
 obtain ⟨ss, rfl, hs⟩ := h
 refine enter Tryz.func105 Tryz.call105 rfl Tryz.ntmps105 rfl (fun w0 => ?_)
 refine go 3 ?_
 refine o_box _ rfl rfl rfl (fun g1 => ?_)
 refine go 11 ?_
 refine fin1 rfl rfl ?_
 exact q_v rfl

theorem slotName (I : IMap) (k : Slot) (vs : List Value) (h : Enc.rd I vs k) :
    FnV Tryz.prog 144 #[.agg vs.toArray] I (.string k.name) := by
 obtain ⟨ss, rfl, hs⟩ := h
 refine enter Tryz.func144 Tryz.call144 rfl Tryz.ntmps144 rfl (fun w0 => ?_)
 refine go 3 ?_
 refine o_box _ rfl rfl rfl (fun g1 => ?_)
 refine go 11 ?_
 refine fin1 rfl rfl ?_
 exact q_v rfl

theorem indexC_Kind (I : IMap) (k : Kind) (vs : List Value) (h : Enc.rd I vs k) (fn : FuncId) (nm : Kind → ByteArray) (s : ByteArray) (hn : FnV Tryz.prog fn #[.agg vs.toArray] I (.string (nm k))) (g1 g2 : Nat) (c1 : ICells I g1 0 [.func (.func fn) #[] #[]]) (c2 : ICells I g2 0 [.string s]) :
    FnV Tryz.prog 142 #[.agg vs.toArray, .pointer (some ⟨g1, 0, none⟩), .pointer (some ⟨g2, 0, none⟩)] I (.bool (decide (nm k = s))) := by
 have hl := Enc.len h
 refine enter Tryz.func142 Tryz.call142 rfl Tryz.ntmps142 rfl (fun w0 => ?_)
 refine go 3 ?_
 refine o_box _ rfl rfl rfl (fun g3 => ?_)
 refine go 4 ?_
 refine d_startH T.mixed ?_
 refine d_tv 0 rfl rfl (by kernel_rfl) rfl (.refl _) rfl (v_ldI he rfl (c1 0 _ rfl)) ?_
 refine d_tv 1 rfl rfl (by kernel_rfl) rfl (.refl _) rfl (v_ldw m0 he rfl hl) ?_
 refine d_tv 3 rfl rfl (by kernel_rfl) rfl (.refl _) rfl (v_ldI he rfl (c2 0 _ rfl)) ?_
 refine d_one 2 (by kernel_rfl) rfl ?_
 refine o_callV (hn) rfl rfl ?_
 refine d_on (fun _ m => m.keeps (.refl _)) ?_
 refine d_tv 4 rfl rfl (by kernel_rfl) rfl (.refl _) rfl (v_seql rfl rfl) ?_
 refine d_tv 5 rfl rfl (by kernel_rfl) rfl (.refl _) rfl (v_assign rfl) ?_
 refine d_done (by kernel_rfl) ?_
 refine go 2 ?_
 refine fin1 rfl rfl ?_
 exact q_v rfl

theorem index_Kind (I : IMap) (v : Value) (l : List Kind) (hv : RdS I v l) (fn : FuncId) (nm : Kind → ByteArray) (s : ByteArray) (hn : ∀ J, ILe I J → ∀ x ∈ l, ∀ vs, Enc.rd J vs x → FnV Tryz.prog fn #[.agg vs.toArray] J (.string (nm x))) :
    FnV Tryz.prog 104 #[v, .func (.func fn) #[] #[], .string s] I (.int .i64 (idxF (fun x => decide (nm x = s)) l)) := by
 refine enter Tryz.func104 Tryz.call104 rfl Tryz.ntmps104 rfl (fun w0 => ?_)
 refine go 3 ?_
 refine o_box _ rfl rfl rfl (fun g4 => ?_)
 refine go 1 ?_
 refine o_box _ rfl rfl rfl (fun g5 => ?_)
 refine go 6 ?_
 refine bring1 ?_
 refine sx_pub (fun Ig4 jg4 cg4 => ?_)
 refine sx_pub (fun Ig5 jg5 cg5 => ?_)
 refine o_v rfl (v_makeFunc rfl rfl) ?_
 refine go 1 ?_
 refine o_callV (indexFunc_Kind _ v l (hv.le (jg4.trans jg5)) _ [.pointer (some ⟨g4, 0, none⟩), .pointer (some ⟨g5, 0, none⟩)] (fun x => decide (nm x = s)) (fun x hx vs hr => indexC_Kind _ x vs hr fn nm s (hn _ (jg4.trans jg5) x hx vs hr) g4 g5 (cg4.le jg5) cg5)) rfl rfl ?_
 refine go 4 ?_
 refine fin1 rfl rfl ?_
 exact q_vI rfl

theorem indexC_Slot (I : IMap) (k : Slot) (vs : List Value) (h : Enc.rd I vs k) (fn : FuncId) (nm : Slot → ByteArray) (s : ByteArray) (hn : FnV Tryz.prog fn #[.agg vs.toArray] I (.string (nm k))) (g1 g2 : Nat) (c1 : ICells I g1 0 [.func (.func fn) #[] #[]]) (c2 : ICells I g2 0 [.string s]) :
    FnV Tryz.prog 159 #[.agg vs.toArray, .pointer (some ⟨g1, 0, none⟩), .pointer (some ⟨g2, 0, none⟩)] I (.bool (decide (nm k = s))) := by
 have hl := Enc.len h
 refine enter Tryz.func159 Tryz.call159 rfl Tryz.ntmps159 rfl (fun w0 => ?_)
 refine go 3 ?_
 refine o_box _ rfl rfl rfl (fun g3 => ?_)
 refine go 4 ?_
 refine d_startH T.mixed ?_
 refine d_tv 0 rfl rfl (by kernel_rfl) rfl (.refl _) rfl (v_ldI he rfl (c1 0 _ rfl)) ?_
 refine d_tv 1 rfl rfl (by kernel_rfl) rfl (.refl _) rfl (v_ldw m0 he rfl hl) ?_
 refine d_tv 3 rfl rfl (by kernel_rfl) rfl (.refl _) rfl (v_ldI he rfl (c2 0 _ rfl)) ?_
 refine d_one 2 (by kernel_rfl) rfl ?_
 refine o_callV (hn) rfl rfl ?_
 refine d_on (fun _ m => m.keeps (.refl _)) ?_
 refine d_tv 4 rfl rfl (by kernel_rfl) rfl (.refl _) rfl (v_seql rfl rfl) ?_
 refine d_tv 5 rfl rfl (by kernel_rfl) rfl (.refl _) rfl (v_assign rfl) ?_
 refine d_done (by kernel_rfl) ?_
 refine go 2 ?_
 refine fin1 rfl rfl ?_
 exact q_v rfl

theorem index_Slot (I : IMap) (v : Value) (l : List Slot) (hv : RdS I v l) (fn : FuncId) (nm : Slot → ByteArray) (s : ByteArray) (hn : ∀ J, ILe I J → ∀ x ∈ l, ∀ vs, Enc.rd J vs x → FnV Tryz.prog fn #[.agg vs.toArray] J (.string (nm x))) :
    FnV Tryz.prog 143 #[v, .func (.func fn) #[] #[], .string s] I (.int .i64 (idxF (fun x => decide (nm x = s)) l)) := by
 refine enter Tryz.func143 Tryz.call143 rfl Tryz.ntmps143 rfl (fun w0 => ?_)
 refine go 3 ?_
 refine o_box _ rfl rfl rfl (fun g4 => ?_)
 refine go 1 ?_
 refine o_box _ rfl rfl rfl (fun g5 => ?_)
 refine go 6 ?_
 refine bring1 ?_
 refine sx_pub (fun Ig4 jg4 cg4 => ?_)
 refine sx_pub (fun Ig5 jg5 cg5 => ?_)
 refine o_v rfl (v_makeFunc rfl rfl) ?_
 refine go 1 ?_
 refine o_callV (indexFunc_Slot _ v l (hv.le (jg4.trans jg5)) _ [.pointer (some ⟨g4, 0, none⟩), .pointer (some ⟨g5, 0, none⟩)] (fun x => decide (nm x = s)) (fun x hx vs hr => indexC_Slot _ x vs hr fn nm s (hn _ (jg4.trans jg5) x hx vs hr) g4 g5 (cg4.le jg5) cg5)) rfl rfl ?_
 refine go 4 ?_
 refine fin1 rfl rfl ?_
 exact q_vI rfl

theorem catFind (I : IMap) (v : Value) (l : List Kind) (hv : RdS I v l) (s : ByteArray) :
    FnE Tryz.prog 76 #[.agg #[v], .string s] I (KindIs I (findK l s)) := by
 refine enter Tryz.func76 Tryz.call76 rfl Tryz.ntmps76 rfl (fun w0 => ?_)
 refine go 3 ?_
 refine o_box _ rfl rfl rfl (fun g2 => ?_)
 refine go 1 ?_
 refine o_alloc he rfl (fun g4 => ?_)
 refine go 9 ?_
 refine o_callV (index_Kind I _ l hv _ Kind.name s (fun J hJ x _ vs hr => kindName J x vs hr)) rfl rfl ?_
 refine go 10 ?_
 refine cb rfl (fun h12 p12 => ?_) (fun h12 p12 => ?_)
 ·have hN := ((idxF_find (fun x => decide (Kind.name x = s)) l).resolve_right (by rintro ⟨i, hi, e, _⟩; omega)).2
  refine go 3 ?_
  refine o_val rfl (v_build (pl := [(0, 1), (1, 1), (2, 1)]) he he rfl rfl) ?_
  refine go 1 ?_
  refine o_stw _ he rfl rfl rfl rfl rfl rfl ?_
  refine go 5 ?_
  refine fin2 rfl ⟨_, _, _, rfl, m0, .inr ⟨_, he, rfl, rfl⟩⟩ rfl ?_
  exact q_e (KindIs.none hN)
 ·obtain ⟨i, hi, ei, hF⟩ := (idxF_find (fun x => decide (Kind.name x = s)) l).resolve_left (fun h => by omega)
  refine go 7 ?_
  obtain ⟨A, c0, rfl, hA, hc, hm⟩ := hv
  obtain ⟨b17, o17, w17, e17, c17, r17⟩ := RdA.at_ hA (i := i) hi
  obtain ⟨q17, rfl, B17, d17, rfl, hB17, hd17, hm17⟩ := r17
  refine o_v rfl (v_idx he rfl rfl e17 (i) ei hi) ?_
  refine o_v rfl (v_ldIa he rfl c17 rfl) ?_
  refine go 1 ?_
  refine o_stw _ he rfl rfl rfl rfl rfl rfl ?_
  refine go 4 ?_
  refine fin2 rfl ⟨_, _, _, rfl, m0, .inr ⟨_, he, rfl, rfl⟩⟩ rfl ?_
  exact q_e (KindIs.of hF ⟨_, rfl, B17, d17, rfl, hB17, hd17, hm17⟩)

theorem catSlot (I : IMap) (v : Value) (l : List Kind) (hv : RdS I v l) (k s : ByteArray) :
    FnE Tryz.prog 107 #[.agg #[v], .string k, .string s] I (SlotIs I (slotF l k s)) := by
 refine enter Tryz.func107 Tryz.call107 rfl Tryz.ntmps107 rfl (fun w0 => ?_)
 refine go 3 ?_
 refine o_box _ rfl rfl rfl (fun g3 => ?_)
 refine go 1 ?_
 refine o_alloc he rfl (fun g6 => ?_)
 refine go 8 ?_
 refine o_callE (catFind I _ l hv k) rfl rfl (fun v14 q14 => ?_)
 obtain ⟨vs, rfl, ss, rfl, hsl⟩ := q14
 refine go 4 ?_
 refine o_alloc he rfl (fun g8 => ?_)
 refine go 1 ?_
 refine o_stw _ he rfl rfl rfl rfl rfl (by simp [Kind.cells, hsl.one]; exact ⟨rfl, rfl⟩) ?_
 refine go 9 ?_
 refine o_callV (index_Slot I _ _ hsl _ Slot.name s (fun J hJ x _ vs hr => slotName J x vs hr)) rfl rfl ?_
 refine go 10 ?_
 refine cb rfl (fun h22 p22 => ?_) (fun h22 p22 => ?_)
 ·have hN := ((idxF_find (fun x => decide (Slot.name x = s)) ((findK l k).getD zKind).slots).resolve_right (by rintro ⟨i, hi, e, _⟩; omega)).2
  refine go 3 ?_
  refine o_val rfl (v_build (pl := [(0, 1), (1, 1), (2, 1)]) he he rfl rfl) ?_
  refine go 1 ?_
  refine bring1 ?_
  refine o_stw _ he rfl rfl rfl rfl rfl rfl ?_
  refine go 5 ?_
  refine fin2 rfl ⟨_, _, _, rfl, m0, .inr ⟨_, he, rfl, rfl⟩⟩ rfl ?_
  exact q_e (SlotIs.none hN)
 ·obtain ⟨i, hi, ei, hF⟩ := (idxF_find (fun x => decide (Slot.name x = s)) ((findK l k).getD zKind).slots).resolve_left (fun h => by omega)
  obtain ⟨A, c0, rfl, hA, hc, hm⟩ := hsl
  refine go 7 ?_
  obtain ⟨b27, o27, w27, e27, c27, r27⟩ := RdA.at_ hA (i := i) hi
  obtain ⟨q27, rfl, B27, d27, rfl, hB27, hd27, hm27⟩ := r27
  refine o_v rfl (v_idx he rfl rfl e27 (i) ei hi) ?_
  refine o_v rfl (v_ldIa he rfl c27 rfl) ?_
  refine go 1 ?_
  refine bring1 ?_
  refine o_stw _ he rfl rfl rfl rfl rfl rfl ?_
  refine go 4 ?_
  refine fin2 rfl ⟨_, _, _, rfl, m0, .inr ⟨_, he, rfl, rfl⟩⟩ rfl ?_
  exact q_e (SlotIs.of hF ⟨_, rfl, B27, d27, rfl, hB27, hd27, hm27⟩)

theorem catTakes (I : IMap) (v : Value) (l : List Kind) (hv : RdS I v l) (k s p : ByteArray) :
    FnV Tryz.prog 79 #[.agg #[v], .string k, .string s, .string p] I (.bool (takesF l k s p)) := by
 refine enter Tryz.func79 Tryz.call79 rfl Tryz.ntmps79 rfl (fun w0 => ?_)
 refine go 3 ?_
 refine o_box _ rfl rfl rfl (fun g4 => ?_)
 refine go 9 ?_
 refine o_callE (catSlot I _ l hv k s) rfl rfl (fun v15 q15 => ?_)
 obtain ⟨vs, rfl, ss, rfl, hsl⟩ := q15
 refine go 4 ?_
 refine o_alloc he rfl (fun g9 => ?_)
 refine go 1 ?_
 refine o_stw _ he rfl rfl rfl rfl rfl (by simp [Slot.cells, hsl.one]; exact ⟨rfl, rfl⟩) ?_
 refine go 7 ?_
 refine sxb 19 rfl (fun h19 p19 => ?_) (fun h19 p19 => ?_)
 ·refine go 4 ?_
  refine o_yes rfl rfl h19 (o_callV (contains_string I _ _ hsl p) rfl rfl ?_)
  refine go 5 ?_
  refine fin1 rfl rfl ?_
  exact q_v (congrArg Value.bool (by revert h19; unfold takesF; cases slotF l k s <;> simp))
 ·refine go 9 ?_
  refine fin1 rfl rfl ?_
  exact q_v (congrArg Value.bool (by revert h19; unfold takesF; cases slotF l k s <;> simp))

theorem catValid (I : IMap) (v : Value) (l : List Kind) (hv : RdS I v l) (hs : SmC l) :
    FnV Tryz.prog 47 #[.agg #[v]] I (.bool (validC l)) := by
 obtain ⟨A, c0, rfl, hA, hc, hm⟩ := hv
 refine enter Tryz.func47 Tryz.call47 rfl Tryz.ntmps47 rfl (fun w0 => ?_)
 refine go 3 ?_
 refine o_box _ rfl rfl rfl (fun g1 => ?_)
 refine go 6 ?_
 refine o_map0 (Value.string) he rfl (fun r14 => ?_)
 refine go 13 ?_
 refine c_loop (α := Nat) 0 (fun i => I)
  (fun i => [(1, .pointer (some ⟨g1, 0, none⟩)), (3, .map (some r14)), (16, .slice A l.length c0), (17, .int .i64 (l.length : Int)), (18, .int .i64 (i : Int))])
  (fun i => [.mp r14 (emap Value.string (kvsOf Kind.name (fun k => Value.bool (!k.vehicle)) (l.take i))), .blk g1 24 [.slice A l.length c0]])
  (fun i => i ≤ l.length ∧ allP kindFine l i = true)
  (fun i => l.length - i) ⟨Nat.zero_le _, rfl⟩ rfl sb rfl ?_
 intro i ⟨hi, hn⟩
 refine go 6 ?_
 refine cb rfl (fun h19 p19 => ?_) (fun h19 p19 => ?_)
 ·have hlt : i < l.length := by omega
  refine go 6 ?_
  obtain ⟨b20, o20, w20, e20, c20, r20⟩ := RdA.at_ hA (i := i) hlt
  obtain ⟨q20, rfl, B20, d20, rfl, hB20, hd20, hm20⟩ := r20
  refine o_v rfl (v_idx he rfl rfl e20 (i) (by omega) hlt) ?_
  refine o_v rfl (v_ldIa he rfl c20 rfl) ?_
  refine go 1 ?_
  refine o_alloc he rfl (fun g5 => ?_)
  refine go 1 ?_
  refine o_stw _ he rfl rfl rfl rfl rfl rfl ?_
  refine go 8 ?_
  refine o_v rfl (v_get2 m1 (key_string he) he he (l[i].name) rfl rfl rfl (kvs_some _ _ _ _)) ?_
  refine go 8 ?_
  refine c_cut (I' := I) (L' := [(1, .pointer (some ⟨g1, 0, none⟩)), (3, .map (some r14)), (16, .slice A l.length c0), (17, .int .i64 (l.length : Int)), (18, .int .i64 (i : Int)), (5, .pointer (some ⟨g5, 0, none⟩)), (41, .bool ((hit Kind.name (l.take i) l[i].name || !nameOk l[i].name) || decide ((12 : Int) < (l[i].slots.length : Nat))))]) (H' := [.blk g5 87 (l[i].cells (.slice B20 l[i].slots.length d20)), .mp r14 (emap Value.string (kvsOf Kind.name (fun k => Value.bool (!k.vehicle)) (l.take i))), .blk g1 24 [.slice A l.length c0]]) ?_ ?_
  ·refine go 3 ?_
   refine sxb 30 rfl (fun h30 p30 => ?_) (fun h30 p30 => ?_)
   ·refine go 13 ?_
    exact q_cut ⟨rfl, rfl, rfl, rfl, rfl, rfl, (congrArg (fun b => some (Value.bool b)) (by simp only [h19, h30, bS])), trivial⟩ rfl rfl
   ·refine go 3 ?_
    refine o_yes rfl rfl h30 (o_callV (lexName _ _ (hs _ (List.getElem_mem hlt)).1) rfl rfl ?_)
    refine go 3 ?_
    refine sxb 36 rfl (fun h36 p36 => ?_) (fun h36 p36 => ?_)
    ·refine go 7 ?_
     exact q_cut ⟨rfl, rfl, rfl, rfl, rfl, rfl, (congrArg (fun b => some (Value.bool b)) (by simp only [h19, h30, h36, bS])), trivial⟩ rfl rfl
    ·refine go 7 ?_
     exact q_cut ⟨rfl, rfl, rfl, rfl, rfl, rfl, (congrArg (fun b => some (Value.bool b)) (by simp only [h19, h30, h36, bS])), trivial⟩ rfl rfl
  ·refine cb rfl (fun h41 p41 => ?_) (fun h41 p41 => ?_)
   ·refine go 12 ?_
    refine fin1 rfl rfl ?_
    exact q_v (congrArg Value.bool (by simp only [validC, allP_not hlt (show kindFine (l.take i) l[i] = false by simp only [kindFine, h41]; rfl), bS]))
   ·refine go 5 ?_
    refine o_map0 (Value.string) he rfl (fun r42 => ?_)
    refine go 13 ?_
    refine c_loop (α := Nat) 0 (fun j => I)
     (fun j => [(1, .pointer (some ⟨g1, 0, none⟩)), (3, .map (some r14)), (16, .slice A l.length c0), (17, .int .i64 (l.length : Int)), (18, .int .i64 (i : Int)), (5, .pointer (some ⟨g5, 0, none⟩)), (8, .map (some r42)), (44, .slice B20 l[i].slots.length d20), (45, .int .i64 (l[i].slots.length : Int)), (46, .int .i64 (j : Int))])
     (fun j => [.mp r42 (emap Value.string (kvsOf Slot.name (fun _ => Value.bool true) (l[i].slots.take j))), .blk g5 87 (l[i].cells (.slice B20 l[i].slots.length d20)), .mp r14 (emap Value.string (kvsOf Kind.name (fun k => Value.bool (!k.vehicle)) (l.take i))), .blk g1 24 [.slice A l.length c0]])
     (fun j => j ≤ l[i].slots.length ∧ allP (slotFine (l.take i)) l[i].slots j = true)
     (fun j => l[i].slots.length - j) ⟨Nat.zero_le _, rfl⟩ rfl sb rfl ?_
    intro j ⟨hj, hq⟩
    refine go 6 ?_
    refine cb rfl (fun h47 p47 => ?_) (fun h47 p47 => ?_)
    ·have hltj : j < l[i].slots.length := by omega
     refine go 6 ?_
     obtain ⟨b48, o48, w48, e48, c48, r48⟩ := RdA.at_ hB20 (i := j) hltj
     obtain ⟨q48, rfl, B48, d48, rfl, hB48, hd48, hm48⟩ := r48
     refine o_v rfl (v_idx he rfl rfl e48 (j) (by omega) hltj) ?_
     refine o_v rfl (v_ldIa he rfl c48 rfl) ?_
     refine go 1 ?_
     refine o_alloc he rfl (fun g10 => ?_)
     refine go 1 ?_
     refine o_stw _ he rfl rfl rfl rfl rfl rfl ?_
     refine go 4 ?_
     refine c_cut (I' := I) (L' := [(1, .pointer (some ⟨g1, 0, none⟩)), (3, .map (some r14)), (16, .slice A l.length c0), (17, .int .i64 (l.length : Int)), (18, .int .i64 (i : Int)), (5, .pointer (some ⟨g5, 0, none⟩)), (8, .map (some r42)), (44, .slice B20 l[i].slots.length d20), (45, .int .i64 (l[i].slots.length : Int)), (46, .int .i64 (j : Int)), (10, .pointer (some ⟨g10, 0, none⟩)), (72, .bool (((hit Slot.name (l[i].slots.take j) l[i].slots[j].name || !nameOk l[i].slots[j].name) || decide (l[i].slots[j].normal < 1)) || decide ((l[i].slots[j].kinds.length : Int) < l[i].slots[j].normal)))]) (H' := [.blk g10 103 (l[i].slots[j].cells (.slice B48 l[i].slots[j].kinds.length d48)), .mp r42 (emap Value.string (kvsOf Slot.name (fun _ => Value.bool true) (l[i].slots.take j))), .blk g5 87 (l[i].cells (.slice B20 l[i].slots.length d20)), .mp r14 (emap Value.string (kvsOf Kind.name (fun k => Value.bool (!k.vehicle)) (l.take i))), .blk g1 24 [.slice A l.length c0]]) ?_ ?_
     ·refine go 4 ?_
      refine o_v rfl (v_get m1 (key_string he) he he (l[i].slots[j].name) rfl rfl (kvs_hit1 _ _ _)) ?_
      refine go 1 ?_
      refine sxb 54 rfl (fun h54 p54 => ?_) (fun h54 p54 => ?_)
      ·refine go 20 ?_
       exact q_cut ⟨rfl, rfl, rfl, rfl, rfl, rfl, rfl, rfl, rfl, rfl, rfl, (congrArg (fun b => some (Value.bool b)) (by simp only [h47, h54, bS])), trivial⟩ rfl rfl
      ·refine go 3 ?_
       refine o_yes rfl rfl h54 (o_callV (lexName _ _ ((hs _ (List.getElem_mem hlt)).2 _ (List.getElem_mem hltj)).1) rfl rfl ?_)
       refine go 3 ?_
       refine sxb 60 rfl (fun h60 p60 => ?_) (fun h60 p60 => ?_)
       ·refine go 14 ?_
        exact q_cut ⟨rfl, rfl, rfl, rfl, rfl, rfl, rfl, rfl, rfl, rfl, rfl, (congrArg (fun b => some (Value.bool b)) (by simp only [h47, h54, h60, bS])), trivial⟩ rfl rfl
       ·refine go 5 ?_
        refine sxb 65 rfl (fun h65 p65 => ?_) (fun h65 p65 => ?_)
        ·refine go 9 ?_
         exact q_cut ⟨rfl, rfl, rfl, rfl, rfl, rfl, rfl, rfl, rfl, rfl, rfl, (congrArg (fun b => some (Value.bool b)) (by simp only [h47, h54, h60, h65, bS])), trivial⟩ rfl rfl
        ·refine go 9 ?_
         exact q_cut ⟨rfl, rfl, rfl, rfl, rfl, rfl, rfl, rfl, rfl, rfl, rfl, (congrArg (fun b => some (Value.bool b)) (by simp only [h47, h54, h60, h65, bS])), trivial⟩ rfl rfl
     ·refine cb rfl (fun h72 p72 => ?_) (fun h72 p72 => ?_)
      ·refine go 17 ?_
       refine fin1 rfl rfl ?_
       exact q_v (congrArg Value.bool (by simp only [validC, allP_not hlt (show kindFine (l.take i) l[i] = false by simp only [kindFine, allP_not hltj (show slotFine (l.take i) (l[i].slots.take j) l[i].slots[j] = false by simp only [slotFine, h72]; rfl), bS]), bS]))
      ·refine go 8 ?_
       have h72n : hit Slot.name (l[i].slots.take j) l[i].slots[j].name = false := by revert h72; cases hit Slot.name (l[i].slots.take j) l[i].slots[j].name <;> simp
       refine bring1 ?_
       refine o_mapPut (kvsOf Slot.name (fun _ => Value.bool true) (l[i].slots.take (j + 1))) (key_string he) he (l[i].slots[j].name) rfl rfl rfl ((kvs_put Slot.name (fun _ => Value.bool true) (l[i].slots.take j) l[i].slots[j] (hit_none h72n)).trans (by rw [take_succ_of hltj])) ?_
       refine go 5 ?_
       refine o_map0 (Value.string) he rfl (fun r76 => ?_)
       refine go 12 ?_
       refine bring2 ?_
       refine sx_drop ?_
       refine c_loop (α := Nat) 0 (fun m => I)
        (fun m => [(1, .pointer (some ⟨g1, 0, none⟩)), (3, .map (some r14)), (16, .slice A l.length c0), (17, .int .i64 (l.length : Int)), (18, .int .i64 (i : Int)), (5, .pointer (some ⟨g5, 0, none⟩)), (8, .map (some r42)), (44, .slice B20 l[i].slots.length d20), (45, .int .i64 (l[i].slots.length : Int)), (46, .int .i64 (j : Int)), (10, .pointer (some ⟨g10, 0, none⟩)), (11, .map (some r76)), (78, .slice B48 l[i].slots[j].kinds.length d48), (79, .int .i64 (l[i].slots[j].kinds.length : Int)), (80, .int .i64 (m : Int))])
        (fun m => [.mp r76 (emap Value.string (kvsOf _root_.id (fun _ => Value.bool true) (l[i].slots[j].kinds.take m))), .mp r42 (emap Value.string (kvsOf Slot.name (fun _ => Value.bool true) (l[i].slots.take (j + 1)))), .blk g5 87 (l[i].cells (.slice B20 l[i].slots.length d20)), .mp r14 (emap Value.string (kvsOf Kind.name (fun k => Value.bool (!k.vehicle)) (l.take i))), .blk g1 24 [.slice A l.length c0]])
        (fun m => m ≤ l[i].slots[j].kinds.length ∧ allP (kindIn (l.take i)) l[i].slots[j].kinds m = true)
        (fun m => l[i].slots[j].kinds.length - m) ⟨Nat.zero_le _, rfl⟩ rfl sb rfl ?_
       intro m ⟨hmm, hr⟩
       refine go 6 ?_
       refine cb rfl (fun h81 p81 => ?_) (fun h81 p81 => ?_)
       ·have hltm : m < l[i].slots[j].kinds.length := by omega
        refine go 6 ?_
        obtain ⟨b82, o82, w82, e82, c82, r82⟩ := RdA.at_ hB48 (i := m) hltm
        obtain rfl := r82
        refine o_v rfl (v_idx he rfl rfl e82 (m) (by omega) hltm) ?_
        refine o_v rfl (v_ldI he rfl (c82 0 _ rfl)) ?_
        refine go 5 ?_
        refine c_cut (I' := I) (L' := [(1, .pointer (some ⟨g1, 0, none⟩)), (3, .map (some r14)), (16, .slice A l.length c0), (17, .int .i64 (l.length : Int)), (18, .int .i64 (i : Int)), (5, .pointer (some ⟨g5, 0, none⟩)), (8, .map (some r42)), (44, .slice B20 l[i].slots.length d20), (45, .int .i64 (l[i].slots.length : Int)), (46, .int .i64 (j : Int)), (10, .pointer (some ⟨g10, 0, none⟩)), (11, .map (some r76)), (78, .slice B48 l[i].slots[j].kinds.length d48), (79, .int .i64 (l[i].slots[j].kinds.length : Int)), (80, .int .i64 (m : Int)), (13, .string l[i].slots[j].kinds[m]), (92, .bool (hit _root_.id (l[i].slots[j].kinds.take m) l[i].slots[j].kinds[m] || !hitV Kind.name (fun k => !k.vehicle) (l.take i) l[i].slots[j].kinds[m]))]) (H' := [.mp r76 (emap Value.string (kvsOf _root_.id (fun _ => Value.bool true) (l[i].slots[j].kinds.take m))), .mp r42 (emap Value.string (kvsOf Slot.name (fun _ => Value.bool true) (l[i].slots.take (j + 1)))), .blk g5 87 (l[i].cells (.slice B20 l[i].slots.length d20)), .mp r14 (emap Value.string (kvsOf Kind.name (fun k => Value.bool (!k.vehicle)) (l.take i))), .blk g1 24 [.slice A l.length c0]]) ?_ ?_
        ·refine go 3 ?_
         refine o_v rfl (v_get m0 (key_string he) he he (l[i].slots[j].kinds[m]) rfl rfl (kvs_hit1 _root_.id _ _)) ?_
         refine go 1 ?_
         refine sxb 87 rfl (fun h87 p87 => ?_) (fun h87 p87 => ?_)
         ·refine go 7 ?_
          exact q_cut ⟨rfl, rfl, rfl, rfl, rfl, rfl, rfl, rfl, rfl, rfl, rfl, rfl, rfl, rfl, rfl, rfl, (congrArg (fun b => some (Value.bool b)) (by simp only [h81, h87, bS])), trivial⟩ rfl rfl
         ·refine go 2 ?_
          refine o_cons (o_yes rfl rfl h87 (o_val rfl (v_get m3 (key_string he) he he (l[i].slots[j].kinds[m]) rfl rfl (kvs_hit Kind.name (fun k => !k.vehicle) _ _)) ?_))
          refine go 4 ?_
          exact q_cut ⟨rfl, rfl, rfl, rfl, rfl, rfl, rfl, rfl, rfl, rfl, rfl, rfl, rfl, rfl, rfl, rfl, (congrArg (fun b => some (Value.bool b)) (by simp only [h81, h87, bS])), trivial⟩ rfl rfl
        ·refine cb rfl (fun h92 p92 => ?_) (fun h92 p92 => ?_)
         ·refine go 21 ?_
          refine fin1 rfl rfl ?_
          exact q_v (congrArg Value.bool (by simp only [validC, allP_not hlt (show kindFine (l.take i) l[i] = false by simp only [kindFine, allP_not hltj (show slotFine (l.take i) (l[i].slots.take j) l[i].slots[j] = false by simp only [slotFine, allP_not hltm (show kindIn (l.take i) (l[i].slots[j].kinds.take m) l[i].slots[j].kinds[m] = false by revert h92; simp only [kindIn]; cases hit _root_.id (l[i].slots[j].kinds.take m) l[i].slots[j].kinds[m] <;> simp), bS]), bS]), bS]))
         ·refine go 6 ?_
          have h92n : hit _root_.id (l[i].slots[j].kinds.take m) l[i].slots[j].kinds[m] = false := by revert h92; cases hit _root_.id (l[i].slots[j].kinds.take m) l[i].slots[j].kinds[m] <;> simp
          refine o_mapPut (kvsOf _root_.id (fun _ => Value.bool true) (l[i].slots[j].kinds.take (m + 1))) (key_string he) he (l[i].slots[j].kinds[m]) rfl rfl rfl ((kvs_put _root_.id (fun _ => Value.bool true) (l[i].slots[j].kinds.take m) l[i].slots[j].kinds[m] (hit_none h92n)).trans (by rw [take_succ_of hltm])) ?_
          refine go 8 ?_
          exact q_next (m + 1) ⟨by omega, allP_succ hr hltm (by revert h92; simp only [kindIn]; cases hit _root_.id (l[i].slots[j].kinds.take m) l[i].slots[j].kinds[m] <;> simp)⟩ (by omega) rfl sb rfl
       ·refine go 11 ?_
        refine sx_drop ?_
        exact q_next (j + 1) ⟨by omega, allP_succ hq hltj (by simp only [slotFine, h72, (show m = l[i].slots[j].kinds.length by omega) ▸ hr]; rfl)⟩ (by omega) rfl sb rfl
    ·refine go 13 ?_
     have h41n : hit Kind.name (l.take i) l[i].name = false := by revert h41; cases hit Kind.name (l.take i) l[i].name <;> simp
     refine bring2 ?_
     refine o_mapPut (kvsOf Kind.name (fun k => Value.bool (!k.vehicle)) (l.take (i + 1))) (key_string he) he (l[i].name) rfl rfl rfl ((kvs_put Kind.name (fun k => Value.bool (!k.vehicle)) (l.take i) l[i] (hit_none h41n)).trans (by rw [take_succ_of hlt])) ?_
     refine go 8 ?_
     refine bring1 ?_
     refine sx_drop ?_
     refine bring1 ?_
     refine sx_drop ?_
     exact q_next (i + 1) ⟨by omega, allP_succ hn hlt (by simp only [kindFine, h41, (show j = l[i].slots.length by omega) ▸ hq]; rfl)⟩ (by omega) rfl sb rfl
 ·refine go 15 ?_
  refine fin1 rfl rfl ?_
  have e : i = l.length := (by omega)
  subst e
  exact q_v (congrArg Value.bool (by simp only [validC, hn, bS]))

theorem refFind (I : IMap) (v : Value) (l : List Kind) (hv : RdS I v l) (s : ByteArray) :
    FnE Tryz.prog 55 #[.agg #[v], .string s] I (KindIs I (findK l s)) := by
 obtain ⟨A, c0, rfl, hA, hc, hm⟩ := hv
 refine enter Tryz.func55 Tryz.call55 rfl Tryz.ntmps55 rfl (fun w0 => ?_)
 refine go 3 ?_
 refine o_box _ rfl rfl rfl (fun g2 => ?_)
 refine go 1 ?_
 refine o_alloc he rfl (fun g4 => ?_)
 refine go 10 ?_
 refine bring1 ?_
 refine c_loop (α := Nat) 0 (fun i => I)
  (fun i => [(1, .string s), (2, .pointer (some ⟨g2, 0, none⟩)), (4, .pointer (some ⟨g4, 0, none⟩)), (6, .int .i64 (i : Int))])
  (fun i => [.blk g2 24 [.slice A l.length c0], .blk g4 87 [.string ⟨#[]⟩, .bool false, .slice none 0 0]])
  (fun i => i ≤ l.length ∧ ∀ j x, j < i → l[j]? = some x → (fun k => decide (Kind.name k = s)) x = false)
  (fun i => l.length - i) ⟨Nat.zero_le _, fun j x hj => absurd hj (Nat.not_lt_zero j)⟩ rfl sb rfl ?_
 intro i ⟨hi, hn⟩
 refine go 10 ?_
 refine cb rfl (fun h11 p11 => ?_) (fun h11 p11 => ?_)
 ·have hlt : i < l.length := by omega
  refine go 9 ?_
  obtain ⟨b17, o17, w17, e17, c17, r17⟩ := RdA.at_ hA (i := i) hlt
  obtain ⟨q17, rfl, B17, d17, rfl, hB17, hd17, hm17⟩ := r17
  refine o_v rfl (v_idx he rfl rfl e17 (i) (by omega) hlt) ?_
  refine go 1 ?_
  refine o_v rfl (v_ldI he rfl (c17 0 _ rfl)) ?_
  refine go 4 ?_
  refine cb rfl (fun h21 p21 => ?_) (fun h21 p21 => ?_)
  ·refine go 5 ?_
   obtain ⟨b25, o25, w25, e25, c25, r25⟩ := RdA.at_ hA (i := i) hlt
   obtain ⟨q25, rfl, B25, d25, rfl, hB25, hd25, hm25⟩ := r25
   refine o_v rfl (v_idx he rfl rfl e25 (i) (by omega) hlt) ?_
   refine o_v rfl (v_ldIa he rfl c25 rfl) ?_
   refine go 1 ?_
   refine bring1 ?_
   refine o_stw _ he rfl rfl rfl rfl rfl rfl ?_
   refine go 9 ?_
   refine fin2 rfl ⟨_, _, _, rfl, m0, .inr ⟨_, he, rfl, rfl⟩⟩ rfl ?_
   exact q_e (KindIs.of (find_at (p := fun k => decide (Kind.name k = s)) hlt h21 hn) ⟨_, rfl, B25, d25, rfl, hB25, hd25, hm25⟩)
  ·refine go 9 ?_
   exact q_next (i + 1) ⟨by omega, idx_next (p := fun k => decide (Kind.name k = s)) hn hlt h21⟩ (by omega) rfl sb rfl
 ·refine go 8 ?_
  refine o_val rfl (v_build (pl := [(0, 1), (1, 1), (2, 1)]) he he rfl rfl) ?_
  refine go 1 ?_
  refine bring1 ?_
  refine o_stw _ he rfl rfl rfl rfl rfl rfl ?_
  refine go 4 ?_
  refine fin2 rfl ⟨_, _, _, rfl, m0, .inr ⟨_, he, rfl, rfl⟩⟩ rfl ?_
  exact q_e (KindIs.none (find_no (p := fun k => decide (Kind.name k = s)) (fun j x hj => hn j x (by omega))))

theorem refSlot (I : IMap) (v : Value) (l : List Kind) (hv : RdS I v l) (x : Slot) (D : Option Addr) (d : Nat) (hD : RdS I (.slice D x.kinds.length d) x.kinds) (hs : SmS x) :
    FnV Tryz.prog 57 #[.agg #[v], .agg #[.string x.name, .slice D x.kinds.length d, .int .i64 x.normal]] I (.bool (slotR l x)) := by
 have hDA : RdA I D x.kinds := (by obtain ⟨_, _, e, h, _⟩ := hD; cases e; exact h)
 have hDl : x.kinds.length ≤ d ∧ d ≤ 9223372036854775807 := (by obtain ⟨_, _, e, h, h1, h2⟩ := hD; cases e; exact ⟨h1, h2⟩)
 have hv0 := hv
 obtain ⟨A, c0, rfl, hA, hc, hm⟩ := hv
 refine enter Tryz.func57 Tryz.call57 rfl Tryz.ntmps57 rfl (fun w0 => ?_)
 refine go 3 ?_
 refine o_box _ rfl rfl rfl (fun g2 => ?_)
 refine go 1 ?_
 refine o_box _ rfl rfl rfl (fun g3 => ?_)
 refine go 5 ?_
 refine c_cut (I' := I) (L' := [(2, .pointer (some ⟨g2, 0, none⟩)), (3, .pointer (some ⟨g3, 0, none⟩)), (24, .bool (((!nameRef x.name || decide (x.normal < 1)) || decide ((x.kinds.length : Int) < x.normal))))]) (H' := [.blk g2 24 [.slice A l.length c0], .blk g3 103 (x.cells (.slice D x.kinds.length d))]) ?_ ?_
 ·refine go 4 ?_
  refine o_callV (name05 _ _ hs.1) rfl rfl ?_
  refine go 2 ?_
  refine sxb 12 rfl (fun h12 p12 => ?_) (fun h12 p12 => ?_)
  ·refine go 14 ?_
   refine bring1 ?_
   exact q_cut ⟨rfl, rfl, (congrArg (fun b => some (Value.bool b)) (by simp only [h12, bS])), trivial⟩ rfl rfl
  ·refine go 5 ?_
   refine sxb 17 rfl (fun h17 p17 => ?_) (fun h17 p17 => ?_)
   ·refine go 9 ?_
    refine bring1 ?_
    exact q_cut ⟨rfl, rfl, (congrArg (fun b => some (Value.bool b)) (by simp only [h12, h17, bS])), trivial⟩ rfl rfl
   ·refine go 9 ?_
    refine bring1 ?_
    exact q_cut ⟨rfl, rfl, (congrArg (fun b => some (Value.bool b)) (by simp only [h12, h17, bS])), trivial⟩ rfl rfl
 ·refine cb rfl (fun h24 p24 => ?_) (fun h24 p24 => ?_)
  ·refine go 7 ?_
   refine fin1 rfl rfl ?_
   exact q_v (congrArg Value.bool (by simp only [slotR, h24]; rfl))
  ·refine go 9 ?_
   refine c_loop (α := Nat) 0 (fun j => I)
    (fun j => [(2, .pointer (some ⟨g2, 0, none⟩)), (3, .pointer (some ⟨g3, 0, none⟩)), (5, .int .i64 (j : Int))])
    (fun j => [.blk g2 24 [.slice A l.length c0], .blk g3 103 (x.cells (.slice D x.kinds.length d))])
    (fun j => j ≤ x.kinds.length ∧ allP (kindInR l) x.kinds j = true)
    (fun j => x.kinds.length - j) ⟨Nat.zero_le _, rfl⟩ rfl sb rfl ?_
   intro j ⟨hj, hq⟩
   refine go 10 ?_
   refine cb rfl (fun h29 p29 => ?_) (fun h29 p29 => ?_)
   ·have hlt : j < x.kinds.length := by omega
    refine go 5 ?_
    refine c_cutx (α := Nat × Value) (Ix := (fun q => I)) (Lx := (fun q => [(2, .pointer (some ⟨g2, 0, none⟩)), (3, .pointer (some ⟨g3, 0, none⟩)), (5, .int .i64 (j : Int)), (6, .pointer (some ⟨q.1, 0, none⟩)), (7, .bool (findK l x.kinds[j]).isSome)])) (Hx := (fun q => [.blk q.1 87 (((findK l x.kinds[j]).getD zKind).cells q.2), .blk g2 24 [.slice A l.length c0], .blk g3 103 (x.cells (.slice D x.kinds.length d))])) (p := (fun q => RdS I q.2 ((findK l x.kinds[j]).getD zKind).slots)) ?_ ?_
    ·refine d_startH T.mixed ?_
     refine d_tv 0 rfl rfl (by kernel_rfl) rfl (.refl _) rfl (v_ldw m0 he rfl rfl) ?_
     refine d_tv 1 rfl rfl (by kernel_rfl) rfl (.refl _) rfl (v_fieldAddr he rfl) ?_
     refine d_tv 2 rfl rfl (by kernel_rfl) rfl (.refl _) rfl (v_ld m1 he rfl rfl) ?_
     refine d_tv 3 rfl rfl (by kernel_rfl) rfl (.refl _) rfl (v_move rfl) ?_
     obtain ⟨b37, o37, w37, e37, c37, r37⟩ := RdA.at_ hDA (i := j) hlt
     obtain rfl := r37
     refine d_tv 4 rfl rfl (by kernel_rfl) rfl (.refl _) rfl (v_idx he rfl rfl e37 (j) (by omega) hlt) ?_
     refine d_tv 5 rfl rfl (by kernel_rfl) rfl (.refl _) rfl (v_ldI he rfl (c37 0 _ rfl)) ?_
     refine d_two 6 10 (by kernel_rfl) rfl rfl ?_ ?_
     ·refine o_callE (refFind I _ l hv0 x.kinds[j]) rfl rfl (fun v39 q39 => ?_)
      obtain ⟨vs, rfl, ss, rfl, hsl⟩ := q39
      refine d_on (fun _ m => m.keeps (.refl _)) ?_
      refine d_tv 7 rfl rfl (by kernel_rfl) rfl (.refl _) rfl (v_move rfl) ?_
      refine d_tv 8 rfl rfl (by kernel_rfl) rfl (.refl _) rfl (v_extract rfl rfl) ?_
      refine d_tv 9 rfl rfl (by kernel_rfl) rfl (.refl _) rfl (v_extract rfl rfl) ?_
      refine d_one 10 (by kernel_rfl) rfl ?_
      refine o_alloc he rfl (fun g6 => ?_)
      refine d_on (fun _ m => m.keeps (.cons _ (.refl _))) ?_
      refine d_one 11 (by kernel_rfl) rfl ?_
      refine o_stw _ he rfl rfl rfl rfl rfl (by simp [Kind.cells, hsl.one]; exact ⟨rfl, rfl⟩) ?_
      refine d_on (fun _ m => m.keeps (.cons _ (.refl _))) ?_
      refine d_tv 12 rfl rfl (by kernel_rfl) rfl (.cons _ (.refl _)) rfl (v_assign rfl) ?_
      refine d_done (by kernel_rfl) ?_
      refine go 1 ?_
      exact q_cutx (_, ss) hsl sb rfl rfl
     ·refine o_alloc he rfl (fun g6 => ?_)
      refine d_on (fun _ m => m.keeps (.cons _ (.refl _))) ?_
      refine d_one 6 (by kernel_rfl) rfl ?_
      refine o_callE (refFind I _ l hv0 x.kinds[j]) rfl rfl (fun v39 q39 => ?_)
      obtain ⟨vs, rfl, ss, rfl, hsl⟩ := q39
      refine d_on (fun _ m => m.keeps (.cons _ (.refl _))) ?_
      refine d_tv 7 rfl rfl (by kernel_rfl) rfl (.cons _ (.refl _)) rfl (v_move rfl) ?_
      refine d_tv 8 rfl rfl (by kernel_rfl) rfl (.cons _ (.refl _)) rfl (v_extract rfl rfl) ?_
      refine d_tv 9 rfl rfl (by kernel_rfl) rfl (.cons _ (.refl _)) rfl (v_extract rfl rfl) ?_
      refine d_one 11 (by kernel_rfl) rfl ?_
      refine o_stw _ he rfl rfl rfl rfl rfl (by simp [Kind.cells, hsl.one]; exact ⟨rfl, rfl⟩) ?_
      refine d_on (fun _ m => m.keeps (.cons _ (.refl _))) ?_
      refine d_tv 12 rfl rfl (by kernel_rfl) rfl (.cons _ (.refl _)) rfl (v_assign rfl) ?_
      refine d_done (by kernel_rfl) ?_
      refine go 1 ?_
      exact q_cutx (_, ss) hsl sb rfl rfl
    ·rintro ⟨g6, ss⟩ hsl
     refine go 1 ?_
     refine c_cut (I' := I) (L' := [(2, .pointer (some ⟨g2, 0, none⟩)), (3, .pointer (some ⟨g3, 0, none⟩)), (5, .int .i64 (j : Int)), (59, .bool (((!(findK l x.kinds[j]).isSome || ((findK l x.kinds[j]).getD zKind).vehicle) || decide (x.kinds[j] ∈ x.kinds.take j))))]) (H' := [.blk g2 24 [.slice A l.length c0], .blk g3 103 (x.cells (.slice D x.kinds.length d))]) ?_ ?_
     ·refine d_startH T.mixed ?_
      refine d_tv 0 rfl rfl (by kernel_rfl) rfl (.refl _) rfl (v_move rfl) ?_
      refine d_tv 1 rfl rfl (by kernel_rfl) rfl (.refl _) rfl (v_not rfl) ?_
      refine d_tv 2 rfl rfl (by kernel_rfl) rfl (.refl _) rfl (v_move rfl) ?_
      refine sxb 44 rfl (fun h44 p44 => ?_) (fun h44 p44 => ?_)
      ·refine d_t 3 rfl rfl (by kernel_rfl) rfl (fun _ m => m.keeps (.refl _)) (y_no rfl rfl h44) ?_
       refine d_t 4 rfl rfl (by kernel_rfl) rfl (fun _ m => m.keeps (.refl _)) (y_no rfl rfl h44) ?_
       refine d_tv 5 rfl rfl (by kernel_rfl) rfl (.refl _) rfl (v_or_t h44 rfl) ?_
       refine d_tv 6 rfl rfl (by kernel_rfl) rfl (.refl _) rfl (v_move rfl) ?_
       refine d_t 7 rfl rfl (by kernel_rfl) rfl (fun _ m => m.keeps (.refl _)) (y_no rfl rfl rfl) ?_
       refine d_t 8 rfl rfl (by kernel_rfl) rfl (fun _ m => m.keeps (.refl _)) (y_no rfl rfl rfl) ?_
       refine d_t 9 rfl rfl (by kernel_rfl) rfl (fun _ m => m.keeps (.refl _)) (y_no rfl rfl rfl) ?_
       refine d_t 10 rfl rfl (by kernel_rfl) rfl (fun _ m => m.keeps (.refl _)) (y_no rfl rfl rfl) ?_
       refine d_t 11 rfl rfl (by kernel_rfl) rfl (fun _ m => m.keeps (.refl _)) (y_no rfl rfl rfl) ?_
       refine d_t 12 rfl rfl (by kernel_rfl) rfl (fun _ m => m.keeps (.refl _)) (y_no rfl rfl rfl) ?_
       refine d_t 13 rfl rfl (by kernel_rfl) rfl (fun _ m => m.keeps (.refl _)) (y_no rfl rfl rfl) ?_
       refine d_t 14 rfl rfl (by kernel_rfl) rfl (fun _ m => m.keeps (.refl _)) (y_no rfl rfl rfl) ?_
       refine d_t 15 rfl rfl (by kernel_rfl) rfl (fun _ m => m.keeps (.refl _)) (y_no rfl rfl rfl) ?_
       refine d_t 16 rfl rfl (by kernel_rfl) rfl (fun _ m => m.keeps (.refl _)) (y_no rfl rfl rfl) ?_
       refine d_tv 17 rfl rfl (by kernel_rfl) rfl (.refl _) rfl (v_or_t rfl rfl) ?_
       refine d_done (by kernel_rfl) ?_
       refine go 1 ?_
       refine sx_drop ?_
       exact q_cut ⟨rfl, rfl, rfl, (congrArg (fun b => some (Value.bool b)) (by simp only [h44, bS])), trivial⟩ rfl rfl
      ·refine d_t 3 rfl rfl (by kernel_rfl) rfl (fun _ m => m.keeps (.refl _)) (y_yes rfl rfl h44 (v_fieldAddr he rfl)) ?_
       refine d_t 4 rfl rfl (by kernel_rfl) rfl (fun _ m => m.keeps (.refl _)) (y_yes rfl rfl h44 (v_ld m0 he rfl rfl)) ?_
       refine d_tv 5 rfl rfl (by kernel_rfl) rfl (.refl _) rfl (v_or_f h44 rfl rfl) ?_
       refine d_tv 6 rfl rfl (by kernel_rfl) rfl (.refl _) rfl (v_move rfl) ?_
       refine sxb 48 rfl (fun h48 p48 => ?_) (fun h48 p48 => ?_)
       ·refine d_t 7 rfl rfl (by kernel_rfl) rfl (fun _ m => m.keeps (.refl _)) (y_no rfl rfl h48) ?_
        refine d_t 8 rfl rfl (by kernel_rfl) rfl (fun _ m => m.keeps (.refl _)) (y_no rfl rfl h48) ?_
        refine d_t 9 rfl rfl (by kernel_rfl) rfl (fun _ m => m.keeps (.refl _)) (y_no rfl rfl h48) ?_
        refine d_t 10 rfl rfl (by kernel_rfl) rfl (fun _ m => m.keeps (.refl _)) (y_no rfl rfl h48) ?_
        refine d_t 11 rfl rfl (by kernel_rfl) rfl (fun _ m => m.keeps (.refl _)) (y_no rfl rfl h48) ?_
        refine d_t 12 rfl rfl (by kernel_rfl) rfl (fun _ m => m.keeps (.refl _)) (y_no rfl rfl h48) ?_
        refine d_t 13 rfl rfl (by kernel_rfl) rfl (fun _ m => m.keeps (.refl _)) (y_no rfl rfl h48) ?_
        refine d_t 14 rfl rfl (by kernel_rfl) rfl (fun _ m => m.keeps (.refl _)) (y_no rfl rfl h48) ?_
        refine d_t 15 rfl rfl (by kernel_rfl) rfl (fun _ m => m.keeps (.refl _)) (y_no rfl rfl h48) ?_
        refine d_t 16 rfl rfl (by kernel_rfl) rfl (fun _ m => m.keeps (.refl _)) (y_no rfl rfl h48) ?_
        refine d_tv 17 rfl rfl (by kernel_rfl) rfl (.refl _) rfl (v_or_t h48 rfl) ?_
        refine d_done (by kernel_rfl) ?_
        refine go 1 ?_
        refine sx_drop ?_
        exact q_cut ⟨rfl, rfl, rfl, (congrArg (fun b => some (Value.bool b)) (by simp only [h44, h48, bS])), trivial⟩ rfl rfl
       ·refine d_t 7 rfl rfl (by kernel_rfl) rfl (fun _ m => m.keeps (.refl _)) (y_yes rfl rfl h48 (v_fieldAddr he rfl)) ?_
        refine d_t 8 rfl rfl (by kernel_rfl) rfl (fun _ m => m.keeps (.refl _)) (y_yes rfl rfl h48 (v_ld m2 he rfl rfl)) ?_
        refine d_t 9 rfl rfl (by kernel_rfl) rfl (fun _ m => m.keeps (.refl _)) (y_yes rfl rfl h48 (v_move rfl)) ?_
        refine d_t 10 rfl rfl (by kernel_rfl) rfl (fun _ m => m.keeps (.refl _)) (y_yes rfl rfl h48 (v_slice_hi he rfl rfl j (by omega) (by omega))) ?_
        refine d_t 11 rfl rfl (by kernel_rfl) rfl (fun _ m => m.keeps (.refl _)) (y_yes rfl rfl h48 (v_fieldAddr he rfl)) ?_
        refine d_t 12 rfl rfl (by kernel_rfl) rfl (fun _ m => m.keeps (.refl _)) (y_yes rfl rfl h48 (v_ld m2 he rfl rfl)) ?_
        refine d_t 13 rfl rfl (by kernel_rfl) rfl (fun _ m => m.keeps (.refl _)) (y_yes rfl rfl h48 (v_move rfl)) ?_
        obtain ⟨b56, o56, w56, e56, c56, r56⟩ := RdA.at_ hDA (i := j) hlt
        obtain rfl := r56
        refine d_t 14 rfl rfl (by kernel_rfl) rfl (fun _ m => m.keeps (.refl _)) (y_yes rfl rfl h48 (v_idx he rfl rfl e56 (j) (by omega) hlt)) ?_
        refine d_t 15 rfl rfl (by kernel_rfl) rfl (fun _ m => m.keeps (.refl _)) (y_yes rfl rfl h48 (v_ldI he rfl (c56 0 _ rfl))) ?_
        refine d_one 16 (by kernel_rfl) rfl ?_
        refine o_yes rfl rfl h48 (o_callV (in08 I _ (x.kinds.take j) x.kinds[j] (hD.take j (by omega))) rfl rfl ?_)
        refine d_on (fun _ m => m.keeps (.refl _)) ?_
        refine d_tv 17 rfl rfl (by kernel_rfl) rfl (.refl _) rfl (v_or_f h48 rfl rfl) ?_
        refine d_done (by kernel_rfl) ?_
        refine go 1 ?_
        refine sx_drop ?_
        exact q_cut ⟨rfl, rfl, rfl, (congrArg (fun b => some (Value.bool b)) (by simp only [h44, h48, bS])), trivial⟩ rfl rfl
     ·refine cb rfl (fun h59 p59 => ?_) (fun h59 p59 => ?_)
      ·refine go 11 ?_
       refine fin1 rfl rfl ?_
       exact q_v (congrArg Value.bool (by simp only [slotR, allP_not hlt (show kindInR l (x.kinds.take j) x.kinds[j] = false by simp only [kindInR, h59]; rfl), bS]))
      ·refine go 9 ?_
       exact q_next (j + 1) ⟨by omega, allP_succ hq hlt (by simp only [kindInR, h59]; rfl)⟩ (by omega) rfl sb rfl
   ·refine go 11 ?_
    refine fin1 rfl rfl ?_
    have e : j = x.kinds.length := (by omega)
    subst e
    exact q_v (congrArg Value.bool (by simp only [slotR, hq, h24]; rfl))

theorem refValid (I : IMap) (v : Value) (l : List Kind) (hv : RdS I v l) (hs : SmC l) :
    FnV Tryz.prog 38 #[.agg #[v]] I (.bool (validR l)) := by
 have hv0 := hv
 obtain ⟨A, c0, rfl, hA, hc, hm⟩ := hv
 refine enter Tryz.func38 Tryz.call38 rfl Tryz.ntmps38 rfl (fun w0 => ?_)
 refine go 3 ?_
 refine o_box _ rfl rfl rfl (fun g1 => ?_)
 refine go 12 ?_
 refine cb rfl (fun h13 p13 => ?_) (fun h13 p13 => ?_)
 ·refine go 7 ?_
  refine fin1 rfl rfl ?_
  exact q_v (congrArg Value.bool (by simp only [validR, h13]; rfl))
 ·refine go 9 ?_
  refine c_loop (α := Nat) 0 (fun i => I)
   (fun i => [(1, .pointer (some ⟨g1, 0, none⟩)), (3, .int .i64 (i : Int))])
   (fun i => [.blk g1 24 [.slice A l.length c0]])
   (fun i => i ≤ l.length ∧ allP kindFineR l i = true)
   (fun i => l.length - i) ⟨Nat.zero_le _, rfl⟩ rfl sb rfl ?_
  intro i ⟨hi, hn⟩
  refine go 10 ?_
  refine cb rfl (fun h18 p18 => ?_) (fun h18 p18 => ?_)
  ·have hlt : i < l.length := by omega
   refine go 9 ?_
   obtain ⟨b24, o24, w24, e24, c24, r24⟩ := RdA.at_ hA (i := i) hlt
   obtain ⟨q24, rfl, B24, d24, rfl, hB24, hd24, hm24⟩ := r24
   refine o_v rfl (v_idx he rfl rfl e24 (i) (by omega) hlt) ?_
   refine o_v rfl (v_ldIa he rfl c24 rfl) ?_
   refine go 1 ?_
   refine o_alloc he rfl (fun g4 => ?_)
   refine go 1 ?_
   refine o_stw _ he rfl rfl rfl rfl rfl rfl ?_
   refine go 7 ?_
   refine o_v rfl (v_slice_hi he rfl rfl i (by omega) (by omega)) ?_
   refine go 1 ?_
   refine o_val rfl (v_build (pl := [(0, 1)]) he he rfl rfl) ?_
   refine go 1 ?_
   refine o_alloc he rfl (fun g5 => ?_)
   refine go 1 ?_
   refine o_stw _ he rfl rfl rfl rfl rfl rfl ?_
   refine go 8 ?_
   refine o_callE (refFind _ _ (l.take i) (hv0.take i (by omega)) l[i].name) rfl rfl (fun v35 q35 => ?_)
   obtain ⟨vs, rfl, s35, rfl, hsl⟩ := q35
   refine go 4 ?_
   refine o_alloc he rfl (fun g6 => ?_)
   refine go 1 ?_
   refine o_stw _ he rfl rfl rfl rfl rfl (by simp [Kind.cells, hsl.one]; exact ⟨rfl, rfl⟩) ?_
   refine go 5 ?_
   refine c_cut (I' := I) (L' := [(1, .pointer (some ⟨g1, 0, none⟩)), (3, .int .i64 (i : Int)), (4, .pointer (some ⟨g4, 0, none⟩)), (5, .pointer (some ⟨g5, 0, none⟩)), (50, .bool (((findK (l.take i) l[i].name).isSome || !nameRef l[i].name) || decide ((12 : Int) < (l[i].slots.length : Nat))))]) (H' := [.blk g5 24 [.slice A i c0], .blk g4 87 (l[i].cells (.slice B24 l[i].slots.length d24)), .blk g1 24 [.slice A l.length c0]]) ?_ ?_
   ·refine go 3 ?_
    refine sxb 39 rfl (fun h39 p39 => ?_) (fun h39 p39 => ?_)
    ·refine go 13 ?_
     refine sx_drop ?_
     exact q_cut ⟨rfl, rfl, rfl, rfl, (congrArg (fun b => some (Value.bool b)) (by simp only [h18, h39, bS])), trivial⟩ rfl rfl
    ·refine go 3 ?_
     refine o_yes rfl rfl h39 (o_callV (name05 _ _ (hs _ (List.getElem_mem hlt)).1) rfl rfl ?_)
     refine go 3 ?_
     refine sxb 45 rfl (fun h45 p45 => ?_) (fun h45 p45 => ?_)
     ·refine go 7 ?_
      refine sx_drop ?_
      exact q_cut ⟨rfl, rfl, rfl, rfl, (congrArg (fun b => some (Value.bool b)) (by simp only [h18, h39, h45, bS])), trivial⟩ rfl rfl
     ·refine go 7 ?_
      refine sx_drop ?_
      exact q_cut ⟨rfl, rfl, rfl, rfl, (congrArg (fun b => some (Value.bool b)) (by simp only [h18, h39, h45, bS])), trivial⟩ rfl rfl
   ·refine cb rfl (fun h50 p50 => ?_) (fun h50 p50 => ?_)
    ·refine go 12 ?_
     refine fin1 rfl rfl ?_
     exact q_v (congrArg Value.bool (by simp only [validR, allP_not hlt (show kindFineR (l.take i) l[i] = false by simp only [kindFineR, h50]; rfl), bS]))
    ·refine go 4 ?_
     refine sx_nilrow 9 1 ?_
     refine go 9 ?_
     refine c_loop3 ((0 : Nat)) (_) ([]) (fun j v8 xs => I)
      (fun j v8 xs => [(1, .pointer (some ⟨g1, 0, none⟩)), (3, .int .i64 (i : Int)), (4, .pointer (some ⟨g4, 0, none⟩)), (5, .pointer (some ⟨g5, 0, none⟩)), (8, v8), (9, .int .i64 (j : Int))])
      (fun j v8 xs => [.row v8 9 1 j xs, .blk g5 24 [.slice A i c0], .blk g4 87 (l[i].cells (.slice B24 l[i].slots.length d24)), .blk g1 24 [.slice A l.length c0]])
      (fun j v8 xs => j ≤ l[i].slots.length ∧ allP (slotFineR (l.take i)) l[i].slots j = true ∧ Flat I xs ((l[i].slots.take j).map Slot.name))
      (fun j v8 xs => l[i].slots.length - j) ⟨Nat.zero_le _, rfl, .nil⟩ rfl sb rfl ?_
     intro j v8 xs ⟨hj, hq, hF⟩
     refine go 10 ?_
     refine cb rfl (fun h55 p55 => ?_) (fun h55 p55 => ?_)
     ·have hltj : j < l[i].slots.length := by omega
      have h12 : l[i].slots.length ≤ 12 := by revert h50; simp only [Bool.or_eq_false_iff, decide_eq_false_iff_not]; omega
      refine go 6 ?_
      refine c_cut (I' := I) (L' := [(1, .pointer (some ⟨g1, 0, none⟩)), (3, .int .i64 (i : Int)), (4, .pointer (some ⟨g4, 0, none⟩)), (5, .pointer (some ⟨g5, 0, none⟩)), (8, v8), (9, .int .i64 (j : Int)), (75, .bool ((!slotR (l.take i) l[i].slots[j]) || decide (l[i].slots[j].name ∈ (l[i].slots.take j).map Slot.name)))]) (H' := [.row v8 9 1 j xs, .blk g5 24 [.slice A i c0], .blk g4 87 (l[i].cells (.slice B24 l[i].slots.length d24)), .blk g1 24 [.slice A l.length c0]]) ?_ ?_
      ·refine d_startH T.mixed ?_
       refine d_tv 0 rfl rfl (by kernel_rfl) rfl (.refl _) rfl (v_ldw m1 he rfl rfl) ?_
       refine d_tv 1 rfl rfl (by kernel_rfl) rfl (.refl _) rfl (v_fieldAddr he rfl) ?_
       refine d_tv 2 rfl rfl (by kernel_rfl) rfl (.refl _) rfl (v_ld m2 he rfl rfl) ?_
       refine d_tv 3 rfl rfl (by kernel_rfl) rfl (.refl _) rfl (v_move rfl) ?_
       obtain ⟨b62, o62, w62, e62, c62, r62⟩ := RdA.at_ hB24 (i := j) hltj
       obtain ⟨q62, rfl, B62, d62, rfl, hB62, hd62, hm62⟩ := r62
       refine d_tv 4 rfl rfl (by kernel_rfl) rfl (.refl _) rfl (v_idx he rfl rfl e62 (j) (by omega) hltj) ?_
       refine d_tv 5 rfl rfl (by kernel_rfl) rfl (.refl _) rfl (v_ldIa he rfl c62 rfl) ?_
       refine d_one 6 (by kernel_rfl) rfl ?_
       refine o_callV (refSlot _ _ (l.take i) (hv0.take i (by omega)) l[i].slots[j] B62 d62 ⟨_, _, rfl, hB62, hd62, hm62⟩ ((hs _ (List.getElem_mem hlt)).2 _ (List.getElem_mem hltj))) rfl rfl ?_
       refine d_on (fun _ m => m.keeps (.refl _)) ?_
       refine d_tv 7 rfl rfl (by kernel_rfl) rfl (.refl _) rfl (v_not rfl) ?_
       refine d_tv 8 rfl rfl (by kernel_rfl) rfl (.refl _) rfl (v_move rfl) ?_
       refine sxb 66 rfl (fun h66 p66 => ?_) (fun h66 p66 => ?_)
       ·refine d_t 9 rfl rfl (by kernel_rfl) rfl (fun _ m => m.keeps (.refl _)) (y_no rfl rfl h66) ?_
        refine d_t 10 rfl rfl (by kernel_rfl) rfl (fun _ m => m.keeps (.refl _)) (y_no rfl rfl h66) ?_
        refine d_t 11 rfl rfl (by kernel_rfl) rfl (fun _ m => m.keeps (.refl _)) (y_no rfl rfl h66) ?_
        refine d_t 12 rfl rfl (by kernel_rfl) rfl (fun _ m => m.keeps (.refl _)) (y_no rfl rfl h66) ?_
        refine d_t 13 rfl rfl (by kernel_rfl) rfl (fun _ m => m.keeps (.refl _)) (y_no rfl rfl h66) ?_
        refine d_t 14 rfl rfl (by kernel_rfl) rfl (fun _ m => m.keeps (.refl _)) (y_no rfl rfl h66) ?_
        refine d_t 15 rfl rfl (by kernel_rfl) rfl (fun _ m => m.keeps (.refl _)) (y_no rfl rfl h66) ?_
        refine d_t 16 rfl rfl (by kernel_rfl) rfl (fun _ m => m.keeps (.refl _)) (y_no rfl rfl h66) ?_
        refine d_tv 17 rfl rfl (by kernel_rfl) rfl (.refl _) rfl (v_or_t h66 rfl) ?_
        refine d_done (by kernel_rfl) ?_
        refine go 1 ?_
        exact q_cut ⟨rfl, rfl, rfl, rfl, rfl, rfl, (congrArg (fun b => some (Value.bool b)) (by simp only [h55, h66, bS])), trivial⟩ rfl rfl
       ·refine d_t 9 rfl rfl (by kernel_rfl) rfl (fun _ m => m.keeps (.refl _)) (y_yes rfl rfl h66 (v_move rfl)) ?_
        refine d_t 10 rfl rfl (by kernel_rfl) rfl (fun _ m => m.keeps (.refl _)) (y_yes rfl rfl h66 (v_fieldAddr he rfl)) ?_
        refine d_t 11 rfl rfl (by kernel_rfl) rfl (fun _ m => m.keeps (.refl _)) (y_yes rfl rfl h66 (v_ld m2 he rfl rfl)) ?_
        refine d_t 12 rfl rfl (by kernel_rfl) rfl (fun _ m => m.keeps (.refl _)) (y_yes rfl rfl h66 (v_move rfl)) ?_
        obtain ⟨b71, o71, w71, e71, c71, r71⟩ := RdA.at_ hB24 (i := j) hltj
        obtain ⟨q71, rfl, B71, d71, rfl, hB71, hd71, hm71⟩ := r71
        refine d_t 13 rfl rfl (by kernel_rfl) rfl (fun _ m => m.keeps (.refl _)) (y_yes rfl rfl h66 (v_idx he rfl rfl e71 (j) (by omega) hltj)) ?_
        refine d_t 14 rfl rfl (by kernel_rfl) rfl (fun _ m => m.keeps (.refl _)) (y_yes rfl rfl h66 (v_fieldAddr he rfl)) ?_
        refine d_t 15 rfl rfl (by kernel_rfl) rfl (fun _ m => m.keeps (.refl _)) (y_yes rfl rfl h66 (v_ldI he rfl (c71 0 _ rfl))) ?_
        refine d_one 16 (by kernel_rfl) rfl ?_
        refine o_yes rfl rfl h66 (o_lendV m0 rfl (by simp; omega) (hF) (fun I2 hI2 hR => in08 I2 _ _ l[i].slots[j].name hR) rfl rfl ?_)
        refine d_on (fun _ m => m.keeps (.refl _)) ?_
        refine d_tv 17 rfl rfl (by kernel_rfl) rfl (.refl _) rfl (v_or_f h66 rfl rfl) ?_
        refine d_done (by kernel_rfl) ?_
        refine go 1 ?_
        exact q_cut ⟨rfl, rfl, rfl, rfl, rfl, rfl, (congrArg (fun b => some (Value.bool b)) (by simp only [h55, h66, bS])), trivial⟩ rfl rfl
      ·refine cb rfl (fun h75 p75 => ?_) (fun h75 p75 => ?_)
       ·refine go 16 ?_
        refine fin1 rfl rfl ?_
        exact q_v (congrArg Value.bool (by simp only [validR, allP_not hlt (show kindFineR (l.take i) l[i] = false by simp only [kindFineR, allP_not hltj (show slotFineR (l.take i) (l[i].slots.take j) l[i].slots[j] = false by simp only [slotFineR, h75]; rfl), bS]), bS]))
       ·refine go 7 ?_
        obtain ⟨b80, o80, w80, e80, c80, r80⟩ := RdA.at_ hB24 (i := j) hltj
        obtain ⟨q80, rfl, B80, d80, rfl, hB80, hd80, hm80⟩ := r80
        refine o_v rfl (v_idx he rfl rfl e80 (j) (by omega) hltj) ?_
        refine go 1 ?_
        refine o_v rfl (v_ldI he rfl (c80 0 _ rfl)) ?_
        refine go 1 ?_
        refine o_buildSlice he he rfl rfl rfl rfl rfl rfl rfl (fun v83 => ?_)
        refine go 1 ?_
        refine bring1 ?_
        refine o_appendO he he rfl rfl rfl rfl rfl (by omega) (by omega) rfl (fun v84 => ?_)
        refine go 10 ?_
        refine bring1 ?_
        refine sx_drop ?_
        exact q_next3 (j + 1) (_) (_) ⟨by omega, allP_succ hq hltj (by simp only [slotFineR, h75]; rfl), by rw [← take_succ_of hltj, List.map_append]; exact hF.append (.one rfl)⟩ (by omega) rfl sb rfl
     ·refine go 12 ?_
      refine sx_drop ?_
      refine sx_drop ?_
      refine sx_drop ?_
      exact q_next (i + 1) ⟨by omega, allP_succ hn hlt (by simp only [kindFineR, h50, (show j = l[i].slots.length by omega) ▸ hq]; rfl)⟩ (by omega) rfl sb rfl
  ·refine go 11 ?_
   refine fin1 rfl rfl ?_
   have e : i = l.length := (by omega)
   subst e
   exact q_v (congrArg Value.bool (by simp only [validR, hn, h13]; rfl))

theorem refFew (I : IMap) (v : Value) (l : List Kind) (hv : RdS I v l) :
    FnV Tryz.prog 43 #[.agg #[v]] I (.bool (fewC l)) := by
 obtain ⟨A, c0, rfl, hA, hc, hm⟩ := hv
 refine enter Tryz.func43 Tryz.call43 rfl Tryz.ntmps43 rfl (fun w0 => ?_)
 refine go 3 ?_
 refine o_box _ rfl rfl rfl (fun g1 => ?_)
 refine go 12 ?_
 refine cb rfl (fun h10 p10 => ?_) (fun h10 p10 => ?_)
 ·refine go 7 ?_
  refine fin1 rfl rfl ?_
  exact q_v (congrArg Value.bool (by simp only [fewC, h10]; rfl))
 ·refine go 9 ?_
  refine c_loop (α := Nat) 0 (fun i => I)
   (fun i => [(1, .pointer (some ⟨g1, 0, none⟩)), (3, .int .i64 (i : Int))])
   (fun i => [.blk g1 24 [.slice A l.length c0]])
   (fun i => i ≤ l.length ∧ allP (fun _ k => fewKind k) l i = true)
   (fun i => l.length - i) ⟨Nat.zero_le _, rfl⟩ rfl sb rfl ?_
  intro i ⟨hi, hn⟩
  refine go 10 ?_
  refine cb rfl (fun h15 p15 => ?_) (fun h15 p15 => ?_)
  ·have hlt : i < l.length := by omega
   refine go 9 ?_
   obtain ⟨b21, o21, w21, e21, c21, r21⟩ := RdA.at_ hA (i := i) hlt
   obtain ⟨q21, rfl, B21, d21, rfl, hB21, hd21, hm21⟩ := r21
   refine o_v rfl (v_idx he rfl rfl e21 (i) (by omega) hlt) ?_
   refine o_v rfl (v_ldIa he rfl c21 rfl) ?_
   refine go 1 ?_
   refine o_alloc he rfl (fun g4 => ?_)
   refine go 1 ?_
   refine o_stw _ he rfl rfl rfl rfl rfl rfl ?_
   refine go 4 ?_
   refine c_cut (I' := I) (L' := [(1, .pointer (some ⟨g1, 0, none⟩)), (3, .int .i64 (i : Int)), (4, .pointer (some ⟨g4, 0, none⟩)), (32, .bool (decide ((100 : Int) < (l[i].name.size : Nat)) || decide ((15 : Int) < (l[i].slots.length : Nat))))]) (H' := [.blk g4 87 (l[i].cells (.slice B21 l[i].slots.length d21)), .blk g1 24 [.slice A l.length c0]]) ?_ ?_
   ·refine go 6 ?_
    refine sxb 27 rfl (fun h27 p27 => ?_) (fun h27 p27 => ?_)
    ·refine go 7 ?_
     exact q_cut ⟨rfl, rfl, rfl, (congrArg (fun b => some (Value.bool b)) (by simp only [h15, h27, bS])), trivial⟩ rfl rfl
    ·refine go 7 ?_
     exact q_cut ⟨rfl, rfl, rfl, (congrArg (fun b => some (Value.bool b)) (by simp only [h15, h27, bS])), trivial⟩ rfl rfl
   ·refine cb rfl (fun h32 p32 => ?_) (fun h32 p32 => ?_)
    ·refine go 12 ?_
     refine fin1 rfl rfl ?_
     exact q_v (congrArg Value.bool (by simp only [fewC, allP_not (f := fun _ k => fewKind k) hlt (show fewKind l[i] = false by simp only [fewKind, h32, bS]), bS]))
    ·refine go 8 ?_
     refine c_loop (α := Nat) 0 (fun j => I)
      (fun j => [(1, .pointer (some ⟨g1, 0, none⟩)), (3, .int .i64 (i : Int)), (4, .pointer (some ⟨g4, 0, none⟩)), (5, .int .i64 (j : Int))])
      (fun j => [.blk g4 87 (l[i].cells (.slice B21 l[i].slots.length d21)), .blk g1 24 [.slice A l.length c0]])
      (fun j => j ≤ l[i].slots.length ∧ allP (fun _ s => fewSlot s) l[i].slots j = true)
      (fun j => l[i].slots.length - j) ⟨Nat.zero_le _, rfl⟩ rfl sb rfl ?_
     intro j ⟨hj, hq⟩
     refine go 10 ?_
     refine cb rfl (fun h37 p37 => ?_) (fun h37 p37 => ?_)
     ·have hltj : j < l[i].slots.length := by omega
      refine go 6 ?_
      refine c_cut (I' := I) (L' := [(1, .pointer (some ⟨g1, 0, none⟩)), (3, .int .i64 (i : Int)), (4, .pointer (some ⟨g4, 0, none⟩)), (5, .int .i64 (j : Int)), (57, .bool (decide ((100 : Int) < (l[i].slots[j].name.size : Nat)) || decide ((15 : Int) < (l[i].slots[j].kinds.length : Nat))))]) (H' := [.blk g4 87 (l[i].cells (.slice B21 l[i].slots.length d21)), .blk g1 24 [.slice A l.length c0]]) ?_ ?_
      ·refine go 4 ?_
       obtain ⟨b43, o43, w43, e43, c43, r43⟩ := RdA.at_ hB21 (i := j) hltj
       obtain ⟨q43, rfl, B43, d43, rfl, hB43, hd43, hm43⟩ := r43
       refine o_v rfl (v_idx he rfl rfl e43 (j) (by omega) hltj) ?_
       refine go 1 ?_
       refine o_v rfl (v_ldI he rfl (c43 0 _ rfl)) ?_
       refine go 3 ?_
       refine sxb 48 rfl (fun h48 p48 => ?_) (fun h48 p48 => ?_)
       ·refine go 11 ?_
        exact q_cut ⟨rfl, rfl, rfl, rfl, (congrArg (fun b => some (Value.bool b)) (by simp only [h37, h48, bS])), trivial⟩ rfl rfl
       ·refine go 3 ?_
        obtain ⟨b52, o52, w52, e52, c52, r52⟩ := RdA.at_ hB21 (i := j) hltj
        obtain ⟨q52, rfl, B52, d52, rfl, hB52, hd52, hm52⟩ := r52
        refine o_cons (o_yes rfl rfl h48 (o_val rfl (v_idx he rfl rfl e52 (j) (by omega) hltj) ?_))
        refine go 1 ?_
        refine o_cons (o_yes rfl rfl h48 (o_val rfl (v_ldI he rfl (c52 1 _ rfl)) ?_))
        refine go 5 ?_
        exact q_cut ⟨rfl, rfl, rfl, rfl, (congrArg (fun b => some (Value.bool b)) (by simp only [h37, h48, bS])), trivial⟩ rfl rfl
      ·refine cb rfl (fun h57 p57 => ?_) (fun h57 p57 => ?_)
       ·refine go 16 ?_
        refine fin1 rfl rfl ?_
        exact q_v (congrArg Value.bool (by simp only [fewC, allP_not (f := fun _ k => fewKind k) hlt (show fewKind l[i] = false by simp only [fewKind, allP_not (f := fun _ s => fewSlot s) hltj (show fewSlot l[i].slots[j] = false by simp only [fewSlot, h57]; rfl), bS]), bS]))
       ·refine go 8 ?_
        refine c_loop (α := Nat) 0 (fun m => I)
         (fun m => [(1, .pointer (some ⟨g1, 0, none⟩)), (3, .int .i64 (i : Int)), (4, .pointer (some ⟨g4, 0, none⟩)), (5, .int .i64 (j : Int)), (6, .int .i64 (m : Int))])
         (fun m => [.blk g4 87 (l[i].cells (.slice B21 l[i].slots.length d21)), .blk g1 24 [.slice A l.length c0]])
         (fun m => m ≤ l[i].slots[j].kinds.length ∧ allP (fun _ k => !decide ((100 : Int) < ((k : ByteArray).size : Nat))) l[i].slots[j].kinds m = true)
         (fun m => l[i].slots[j].kinds.length - m) ⟨Nat.zero_le _, rfl⟩ rfl sb rfl ?_
        intro m ⟨hmm, hr⟩
        refine go 7 ?_
        obtain ⟨b62, o62, w62, e62, c62, r62⟩ := RdA.at_ hB21 (i := j) hltj
        obtain ⟨q62, rfl, B62, d62, rfl, hB62, hd62, hm62⟩ := r62
        refine o_v rfl (v_idx he rfl rfl e62 (j) (by omega) hltj) ?_
        refine go 1 ?_
        refine o_v rfl (v_ldI he rfl (c62 1 _ rfl)) ?_
        refine go 4 ?_
        refine cb rfl (fun h66 p66 => ?_) (fun h66 p66 => ?_)
        ·have hltm : m < l[i].slots[j].kinds.length := by omega
         refine go 9 ?_
         obtain ⟨b72, o72, w72, e72, c72, r72⟩ := RdA.at_ hB21 (i := j) hltj
         obtain ⟨q72, rfl, B72, d72, rfl, hB72, hd72, hm72⟩ := r72
         refine o_v rfl (v_idx he rfl rfl e72 (j) (by omega) hltj) ?_
         refine go 1 ?_
         refine o_v rfl (v_ldI he rfl (c72 1 _ rfl)) ?_
         refine go 1 ?_
         obtain ⟨b76, o76, w76, e76, c76, r76⟩ := RdA.at_ hB72 (i := m) hltm
         obtain rfl := r76
         refine o_v rfl (v_idx he rfl rfl e76 (m) (by omega) hltm) ?_
         refine o_v rfl (v_ldI he rfl (c76 0 _ rfl)) ?_
         refine go 4 ?_
         refine cb rfl (fun h79 p79 => ?_) (fun h79 p79 => ?_)
         ·refine go 19 ?_
          refine fin1 rfl rfl ?_
          exact q_v (congrArg Value.bool (by simp only [fewC, allP_not (f := fun _ k => fewKind k) hlt (show fewKind l[i] = false by simp only [fewKind, allP_not (f := fun _ s => fewSlot s) hltj (show fewSlot l[i].slots[j] = false by simp only [fewSlot, allP_not (f := fun _ k => !decide ((100 : Int) < ((k : ByteArray).size : Nat))) hltm (show (!decide ((100 : Int) < ((l[i].slots[j].kinds[m]).size : Nat))) = false by simp only [h79]; rfl), bS]), bS]), bS]))
         ·refine go 9 ?_
          exact q_next (m + 1) ⟨by omega, allP_succ hr hltm (by simp only [h79]; rfl)⟩ (by omega) rfl sb rfl
        ·refine go 12 ?_
         exact q_next (j + 1) ⟨by omega, allP_succ hq hltj (by simp only [fewSlot, h57, (show m = l[i].slots[j].kinds.length by omega) ▸ hr]; rfl)⟩ (by omega) rfl sb rfl
     ·refine go 12 ?_
      refine sx_drop ?_
      exact q_next (i + 1) ⟨by omega, allP_succ hn hlt (by simp only [fewKind, h32, (show j = l[i].slots.length by omega) ▸ hq]; rfl)⟩ (by omega) rfl sb rfl
  ·refine go 11 ?_
   refine fin1 rfl rfl ?_
   have e : i = l.length := (by omega)
   subst e
   exact q_v (congrArg Value.bool (by simp only [fewC, hn, h10]; rfl))

end Go.Proofs.YtkmdojpfccjnoaaGreat
