/- Walks, printed by a program out of the code of the functions: each theorem is a contract of one function. -/
import Derived.Test.YtkmdojpfccjnoaaGreatW09
import Derived.Test.YtkmdojpfccjnoaaGreatM10
import Derived.Test.YtkmdojpfccjnoaaGreatMOrd
import Derived.Test.YtkmdojpfccjnoaaGreatMIns
namespace Go.Proofs.YtkmdojpfccjnoaaGreat
open Go Go.Sx
set_option linter.all false
set_option maxRecDepth 20000
set_option maxHeartbeats 4000000
instance T.by_124 : Has (bytesK Tryz.prog 124) ([.string ⟨#[]⟩, .string ⟨#[]⟩, .string ⟨#[]⟩, .string ⟨#[]⟩, .int .i64 0, .int .i64 0, .bool false, .slice none 0 0, .int .i64 0, .int .i64 0, .int .i64 0, .int .i64 0, .int .i64 0, .int .i64 0], 14, 160) := ⟨by kernel_rfl⟩
instance T.by_137 : Has (bytesK Tryz.prog 137) ([.string ⟨#[]⟩, .string ⟨#[]⟩], 2, 32) := ⟨by kernel_rfl⟩
instance T.elt_120 : Has (eltK Tryz.prog 120) (137, 2) := ⟨by kernel_rfl⟩
instance T.fld_118_0 : Has (fldK Tryz.prog 118 0) (0, false, 1) := ⟨by kernel_rfl⟩
instance T.fld_118_1 : Has (fldK Tryz.prog 118 1) (1, false, 1) := ⟨by kernel_rfl⟩
instance T.fld_122_0 : Has (fldK Tryz.prog 122 0) (0, true, 2) := ⟨by kernel_rfl⟩
instance T.fld_122_1 : Has (fldK Tryz.prog 122 1) (2, true, 2) := ⟨by kernel_rfl⟩
instance T.fld_122_2 : Has (fldK Tryz.prog 122 2) (4, true, 2) := ⟨by kernel_rfl⟩
instance T.fld_124_0 : Has (fldK Tryz.prog 124 0) (0, false, 1) := ⟨by kernel_rfl⟩
instance T.fld_124_1 : Has (fldK Tryz.prog 124 1) (1, false, 1) := ⟨by kernel_rfl⟩
instance T.fld_124_2 : Has (fldK Tryz.prog 124 2) (2, false, 1) := ⟨by kernel_rfl⟩
instance T.fld_124_3 : Has (fldK Tryz.prog 124 3) (3, false, 1) := ⟨by kernel_rfl⟩
instance T.fld_124_4 : Has (fldK Tryz.prog 124 4) (4, false, 1) := ⟨by kernel_rfl⟩
instance T.fld_124_5 : Has (fldK Tryz.prog 124 5) (5, false, 1) := ⟨by kernel_rfl⟩
instance T.fld_124_6 : Has (fldK Tryz.prog 124 6) (6, false, 1) := ⟨by kernel_rfl⟩
instance T.fld_124_7 : Has (fldK Tryz.prog 124 7) (7, false, 1) := ⟨by kernel_rfl⟩
instance T.fld_124_8 : Has (fldK Tryz.prog 124 8) (8, true, 6) := ⟨by kernel_rfl⟩
instance T.fld_137_0 : Has (fldK Tryz.prog 137 0) (0, false, 1) := ⟨by kernel_rfl⟩
instance T.fld_137_1 : Has (fldK Tryz.prog 137 1) (1, false, 1) := ⟨by kernel_rfl⟩
instance T.fld_69_0 : Has (fldK Tryz.prog 69 0) (0, false, 1) := ⟨by kernel_rfl⟩
instance T.pl_118 : Has (plK Tryz.prog 118) [(0, 1), (1, 1)] := ⟨by kernel_rfl⟩
instance T.pl_124 : Has (plK Tryz.prog 124) [(0, 1), (1, 1), (2, 1), (3, 1), (4, 1), (5, 1), (6, 1), (7, 1), (8, 6)] := ⟨by kernel_rfl⟩
instance T.pl_154 : Has (plK Tryz.prog 154) [(0, 1), (1, 1)] := ⟨by kernel_rfl⟩
theorem T.sp_154 : strPairK Tryz.prog 154 = true := by kernel_rfl
instance T.ty_116 : Has (tyK Tryz.prog 116) (false, 1) := ⟨by kernel_rfl⟩
instance T.ty_118 : Has (tyK Tryz.prog 118) (true, 2) := ⟨by kernel_rfl⟩
instance T.ty_120 : Has (tyK Tryz.prog 120) (false, 1) := ⟨by kernel_rfl⟩
instance T.ty_126 : Has (tyK Tryz.prog 126) (false, 1) := ⟨by kernel_rfl⟩
instance T.ty_137 : Has (tyK Tryz.prog 137) (true, 2) := ⟨by kernel_rfl⟩
instance T.ty_138 : Has (tyK Tryz.prog 138) (false, 1) := ⟨by kernel_rfl⟩
instance T.ty_154 : Has (tyK Tryz.prog 154) (true, 2) := ⟨by kernel_rfl⟩
instance T.ty_49 : Has (tyK Tryz.prog 49) (true, 2) := ⟨by kernel_rfl⟩
instance T.ty_67 : Has (tyK Tryz.prog 67) (false, 1) := ⟨by kernel_rfl⟩
instance T.ty_69 : Has (tyK Tryz.prog 69) (true, 1) := ⟨by kernel_rfl⟩
instance T.und_116 : Has (Tryz.prog.underlying 116) (.map 9 3) := ⟨by kernel_rfl⟩
instance T.und_120 : Has (Tryz.prog.underlying 120) (.slice 137) := ⟨by kernel_rfl⟩
instance T.und_151 : Has (Tryz.prog.underlying 151) (.map 154 4) := ⟨by kernel_rfl⟩
instance T.und_4 : Has (Tryz.prog.underlying 4) (.bool) := ⟨by kernel_rfl⟩
instance T.und_78 : Has (Tryz.prog.underlying 78) (.int .u64) := ⟨by kernel_rfl⟩
instance T.zero_118 : Has (zeroK Tryz.prog 118) [.slice none 0 0, .map none] := ⟨by kernel_rfl⟩
instance T.zero_124 : Has (zeroK Tryz.prog 124) [.string ⟨#[]⟩, .string ⟨#[]⟩, .string ⟨#[]⟩, .string ⟨#[]⟩, .int .i64 0, .int .i64 0, .bool false, .slice none 0 0, .int .i64 0, .int .i64 0, .int .i64 0, .int .i64 0, .int .i64 0, .int .i64 0] := ⟨by kernel_rfl⟩
instance T.zero_137 : Has (zeroK Tryz.prog 137) [.string ⟨#[]⟩, .string ⟨#[]⟩] := ⟨by kernel_rfl⟩
instance T.zero_154 : Has (zeroK Tryz.prog 154) [.string ⟨#[]⟩, .string ⟨#[]⟩] := ⟨by kernel_rfl⟩
instance T.zv_3 : Has (zvK Tryz.prog 3) (.int .i64 0) := ⟨by kernel_rfl⟩
theorem flOf (I : IMap) (v : Value) (l : List Part) (hv : RdS I v l) :
    FnX Tryz.prog 70 #[.agg #[v]] I [] (fun u r => ∃ g kvs, u = .agg #[v, .map (some g)] ∧ r = .mp g (emap Value.string kvs) ∧ Ix kvs l) := by
 have hv0 := hv
 obtain ⟨A, c0, rfl, hA, hc, hm⟩ := hv
 refine enter Tryz.func70 Tryz.call70 rfl Tryz.ntmps70 rfl (fun w0 => ?_)
 refine go 3 ?_
 refine o_box _ rfl rfl rfl (fun g1 => ?_)
 refine go 1 ?_
 refine o_alloc he rfl (fun g2 => ?_)
 refine go 7 ?_
 refine o_map0 (Value.string) he rfl (fun r10 => ?_)
 refine go 1 ?_
 refine o_val rfl (v_build (pl := [(0, 1), (1, 1)]) he he rfl rfl) ?_
 refine go 1 ?_
 refine o_alloc he rfl (fun g3 => ?_)
 refine go 1 ?_
 refine o_stw _ he rfl rfl rfl rfl rfl rfl ?_
 refine go 12 ?_
 refine bring3 ?_
 refine bring3 ?_
 refine bring2 ?_
 refine bring3 ?_
 refine c_loop2 ((0 : Nat)) ([]) (fun i kvs => I)
  (fun i kvs => [(1, .pointer (some ⟨g1, 0, none⟩)), (2, .pointer (some ⟨g2, 0, none⟩)), (3, .pointer (some ⟨g3, 0, none⟩)), (13, .slice A l.length c0), (14, .int .i64 (l.length : Int)), (15, .int .i64 (i : Int))])
  (fun i kvs => [.mp r10 (emap Value.string kvs), .blk g3 118 [.slice A l.length c0, .map (some r10)], .blk g2 118 [.slice none 0 0, .map none], .blk g1 69 [.slice A l.length c0]])
  (fun i kvs => i ≤ l.length ∧ Ix kvs (l.take i))
  (fun i kvs => l.length - i) ⟨Nat.zero_le _, Ix.nil⟩ rfl sb rfl ?_
 intro i kvs ⟨hi, hx⟩
 refine go 6 ?_
 refine cb rfl (fun h16 p16 => ?_) (fun h16 p16 => ?_)
 ·have hlt : i < l.length := by omega
  refine go 7 ?_
  obtain ⟨b18, o18, w18, e18, c18, r18⟩ := RdA.at_ hA (i := i) hlt
  obtain ⟨q18, rfl, B18, d18, rfl, hB18, hd18, hm18⟩ := r18
  refine o_v rfl (v_idx he rfl rfl e18 (i) (by omega) hlt) ?_
  refine o_v rfl (v_ldIa he rfl c18 rfl) ?_
  refine go 1 ?_
  refine o_alloc he rfl (fun g5 => ?_)
  refine go 2 ?_
  refine o_stw _ he rfl rfl rfl rfl rfl rfl ?_
  refine go 8 ?_
  refine o_v rfl (v_get2 m1 (key_string he) he he (l[i].name) rfl rfl rfl rfl) ?_
  refine go 13 ?_
  refine cb rfl (fun h29 p29 => ?_) (fun h29 p29 => ?_)
  ·refine go 7 ?_
   refine bring1 ?_
   refine o_mapPut (_) (key_string he) he (l[i].name) rfl rfl rfl (rfl) ?_
   refine go 8 ?_
   refine bring1 ?_
   refine sx_drop ?_
   exact q_next2 (i + 1) (_) ⟨by omega, by rw [← take_succ_of hlt]; exact hx.put (by rw [List.length_take]; omega) (by simpa using h29)⟩ (by omega) rfl sb rfl
  ·refine go 8 ?_
   refine sx_drop ?_
   exact q_next2 (i + 1) (_) ⟨by omega, by rw [← take_succ_of hlt]; exact hx.skip (by simpa using h29)⟩ (by omega) rfl sb rfl
 ·refine go 9 ?_
  refine bring2 ?_
  refine o_stw _ he rfl rfl rfl rfl rfl rfl ?_
  refine go 3 ?_
  refine fin1 rfl ⟨_, _, _, rfl, m0, .inr ⟨_, he, rfl, rfl⟩⟩ ?_
  refine sx_drop ?_
  refine bring1 ?_
  refine sx_drop ?_
  refine bring1 ?_
  refine sx_drop ?_
  have e : i = l.length := (by omega)
  subst e
  rw [List.take_length] at hx
  exact q_x ⟨_, _, rfl, rfl, hx⟩

theorem flGet (I : IMap) (v : Value) (l : List Part) (hv : RdS I v l) (r : Nat) (kvs : List (ByteArray × Value)) (hx : Ix kvs l) (s : ByteArray) :
    FnK Tryz.prog 75 #[.agg #[v, .map (some r)], .string s] I (.mp r (emap Value.string kvs)) (PartIs I (findP l s)) := by
 obtain ⟨z, b, hz, hb, hfs, hfn⟩ := hx.look s
 obtain ⟨A, c0, rfl, hA, hc, hm⟩ := hv
 refine enter Tryz.func75 Tryz.call75 rfl Tryz.ntmps75 rfl (fun w0 => ?_)
 refine go 3 ?_
 refine o_box _ rfl rfl rfl (fun g2 => ?_)
 refine go 1 ?_
 refine o_alloc he rfl (fun g4 => ?_)
 refine go 8 ?_
 refine o_v rfl (v_get2 m2 (key_string he) he he (s) rfl rfl hz hb) ?_
 refine go 14 ?_
 refine cb rfl (fun h16 p16 => ?_) (fun h16 p16 => ?_)
 ·have hN := hfn (by simpa using h16)
  refine go 3 ?_
  refine o_val rfl (v_build (pl := [(0, 1), (1, 1), (2, 1), (3, 1), (4, 1), (5, 1), (6, 1), (7, 1), (8, 6)]) he he rfl rfl) ?_
  refine go 1 ?_
  refine o_stw _ he rfl rfl rfl rfl rfl rfl ?_
  refine go 5 ?_
  refine fin2 rfl ⟨_, _, _, rfl, m0, .inr ⟨_, he, rfl, rfl⟩⟩ rfl ?_
  refine sx_drop ?_
  refine sx_drop ?_
  exact q_k (PartIs.none hN)
 ·obtain ⟨i, hi, rfl, hF⟩ := hfs (by simpa using h16)
  refine go 7 ?_
  obtain ⟨b21, o21, w21, e21, c21, r21⟩ := RdA.at_ hA (i := i) hi
  obtain ⟨q21, rfl, B21, d21, rfl, hB21, hd21, hm21⟩ := r21
  refine o_v rfl (v_idx he rfl rfl e21 (i) rfl hi) ?_
  refine o_v rfl (v_ldIa he rfl c21 rfl) ?_
  refine go 1 ?_
  refine o_stw _ he rfl rfl rfl rfl rfl rfl ?_
  refine go 4 ?_
  refine fin2 rfl ⟨_, _, _, rfl, m0, .inr ⟨_, he, rfl, rfl⟩⟩ rfl ?_
  refine sx_drop ?_
  refine sx_drop ?_
  exact q_k (PartIs.of hF ⟨_, rfl, B21, d21, rfl, hB21, hd21, hm21⟩)

theorem ordered_Part (I : IMap) (v : Value) (l : List Part) (hv : RdS I v l) (f : FuncId) (nm : Part → ByteArray) (hp : ∀ x vs, Enc.rd I vs x → FnV Tryz.prog f #[.agg vs.toArray] I (.string (nm x))) :
    FnV Tryz.prog 96 #[v, .func (.func f) #[] #[]] I (.bool (ordF nm l)) := by
 obtain ⟨A, c0, rfl, hA, hc, hm⟩ := hv
 refine enter Tryz.func96 Tryz.call96 rfl Tryz.ntmps96 rfl (fun w0 => ?_)
 refine go 12 ?_
 refine c_loop (α := Nat) 1 (fun i => I)
  (fun i => [(0, .slice A l.length c0), (1, .func (.func f) #[] #[]), (5, .int .i64 (i : Int))])
  (fun i => [])
  (fun i => 1 ≤ i ∧ (i ≤ l.length ∨ i = 1) ∧ allP (ordAt nm) l i = true)
  (fun i => l.length - i) ⟨by omega, .inr rfl, ord_start (nm := nm) l⟩ rfl sb rfl ?_
 intro i ⟨h1, hi, hn⟩
 refine go 9 ?_
 refine cb rfl (fun h9 p9 => ?_) (fun h9 p9 => ?_)
 ·have hlt : i < l.length := by omega
  refine go 5 ?_
  refine d_startH T.mixed ?_
  refine d_tv 0 rfl rfl (by kernel_rfl) rfl .slnil rfl (v_move rfl) ?_
  refine d_tv 1 rfl rfl (by kernel_rfl) rfl .slnil rfl (v_move rfl) ?_
  refine d_tv 2 rfl rfl (by kernel_rfl) rfl .slnil rfl (v_move rfl) ?_
  refine d_tv 3 rfl rfl (by kernel_rfl) rfl .slnil rfl (v_sub rfl rfl ⟨by omega, by omega⟩) ?_
  obtain ⟨b16, o16, w16, e16, c16, r16⟩ := RdA.at_ hA (i := i - 1) (by omega)
  refine d_tv 4 rfl rfl (by kernel_rfl) rfl .slnil rfl (v_idx he rfl rfl e16 (i - 1) (by omega) (by omega)) ?_
  refine d_tv 5 rfl rfl (by kernel_rfl) rfl .slnil rfl (v_ldIa he rfl c16 (Enc.len r16)) ?_
  refine d_tv 7 rfl rfl (by kernel_rfl) rfl .slnil rfl (v_move rfl) ?_
  refine d_tv 8 rfl rfl (by kernel_rfl) rfl .slnil rfl (v_move rfl) ?_
  refine d_tv 9 rfl rfl (by kernel_rfl) rfl .slnil rfl (v_move rfl) ?_
  obtain ⟨b22, o22, w22, e22, c22, r22⟩ := RdA.at_ hA (i := i) hlt
  refine d_tv 10 rfl rfl (by kernel_rfl) rfl .slnil rfl (v_idx he rfl rfl e22 (i) (by omega) hlt) ?_
  refine d_tv 11 rfl rfl (by kernel_rfl) rfl .slnil rfl (v_ldIa he rfl c22 (Enc.len r22)) ?_
  refine d_one 6 (by kernel_rfl) rfl ?_
  refine o_callV (hp _ _ r16) rfl rfl ?_
  refine d_on (fun _ m => m.keeps .slnil) ?_
  refine d_one 12 (by kernel_rfl) rfl ?_
  refine o_callV (hp _ _ r22) rfl rfl ?_
  refine d_on (fun _ m => m.keeps .slnil) ?_
  refine d_tv 13 rfl rfl (by kernel_rfl) rfl .slnil rfl (v_sgeq rfl rfl) ?_
  refine d_done (by kernel_rfl) ?_
  refine go 1 ?_
  refine cb rfl (fun h25 p25 => ?_) (fun h25 p25 => ?_)
  ·refine go 11 ?_
   refine fin1 rfl rfl ?_
   exact q_v (congrArg Value.bool (ord_not h1 hlt (by simpa using h25)).symm)
  ·refine go 9 ?_
   exact q_next (i + 1) ⟨by omega, .inl (by omega), ord_succ h1 hlt hn (by simpa using h25)⟩ (by omega) rfl sb rfl
 ·refine go 11 ?_
  refine fin1 rfl rfl ?_
  exact q_v (congrArg Value.bool (show ordF nm l = true from allP_le (by omega) hn).symm)

theorem ordered_Prp (I : IMap) (v : Value) (l : List Prp) (hv : RdS I v l) (f : FuncId) (nm : Prp → ByteArray) (hp : ∀ x vs, Enc.rd I vs x → FnV Tryz.prog f #[.agg vs.toArray] I (.string (nm x))) :
    FnV Tryz.prog 136 #[v, .func (.func f) #[] #[]] I (.bool (ordF nm l)) := by
 obtain ⟨A, c0, rfl, hA, hc, hm⟩ := hv
 refine enter Tryz.func136 Tryz.call136 rfl Tryz.ntmps136 rfl (fun w0 => ?_)
 refine go 12 ?_
 refine c_loop (α := Nat) 1 (fun i => I)
  (fun i => [(0, .slice A l.length c0), (1, .func (.func f) #[] #[]), (5, .int .i64 (i : Int))])
  (fun i => [])
  (fun i => 1 ≤ i ∧ (i ≤ l.length ∨ i = 1) ∧ allP (ordAt nm) l i = true)
  (fun i => l.length - i) ⟨by omega, .inr rfl, ord_start (nm := nm) l⟩ rfl sb rfl ?_
 intro i ⟨h1, hi, hn⟩
 refine go 9 ?_
 refine cb rfl (fun h9 p9 => ?_) (fun h9 p9 => ?_)
 ·have hlt : i < l.length := by omega
  refine go 5 ?_
  refine d_startH T.mixed ?_
  refine d_tv 0 rfl rfl (by kernel_rfl) rfl .slnil rfl (v_move rfl) ?_
  refine d_tv 1 rfl rfl (by kernel_rfl) rfl .slnil rfl (v_move rfl) ?_
  refine d_tv 2 rfl rfl (by kernel_rfl) rfl .slnil rfl (v_move rfl) ?_
  refine d_tv 3 rfl rfl (by kernel_rfl) rfl .slnil rfl (v_sub rfl rfl ⟨by omega, by omega⟩) ?_
  obtain ⟨b16, o16, w16, e16, c16, r16⟩ := RdA.at_ hA (i := i - 1) (by omega)
  refine d_tv 4 rfl rfl (by kernel_rfl) rfl .slnil rfl (v_idx he rfl rfl e16 (i - 1) (by omega) (by omega)) ?_
  refine d_tv 5 rfl rfl (by kernel_rfl) rfl .slnil rfl (v_ldIa he rfl c16 (Enc.len r16)) ?_
  refine d_tv 7 rfl rfl (by kernel_rfl) rfl .slnil rfl (v_move rfl) ?_
  refine d_tv 8 rfl rfl (by kernel_rfl) rfl .slnil rfl (v_move rfl) ?_
  refine d_tv 9 rfl rfl (by kernel_rfl) rfl .slnil rfl (v_move rfl) ?_
  obtain ⟨b22, o22, w22, e22, c22, r22⟩ := RdA.at_ hA (i := i) hlt
  refine d_tv 10 rfl rfl (by kernel_rfl) rfl .slnil rfl (v_idx he rfl rfl e22 (i) (by omega) hlt) ?_
  refine d_tv 11 rfl rfl (by kernel_rfl) rfl .slnil rfl (v_ldIa he rfl c22 (Enc.len r22)) ?_
  refine d_one 6 (by kernel_rfl) rfl ?_
  refine o_callV (hp _ _ r16) rfl rfl ?_
  refine d_on (fun _ m => m.keeps .slnil) ?_
  refine d_one 12 (by kernel_rfl) rfl ?_
  refine o_callV (hp _ _ r22) rfl rfl ?_
  refine d_on (fun _ m => m.keeps .slnil) ?_
  refine d_tv 13 rfl rfl (by kernel_rfl) rfl .slnil rfl (v_sgeq rfl rfl) ?_
  refine d_done (by kernel_rfl) ?_
  refine go 1 ?_
  refine cb rfl (fun h25 p25 => ?_) (fun h25 p25 => ?_)
  ·refine go 11 ?_
   refine fin1 rfl rfl ?_
   exact q_v (congrArg Value.bool (ord_not h1 hlt (by simpa using h25)).symm)
  ·refine go 9 ?_
   exact q_next (i + 1) ⟨by omega, .inl (by omega), ord_succ h1 hlt hn (by simpa using h25)⟩ (by omega) rfl sb rfl
 ·refine go 11 ?_
  refine fin1 rfl rfl ?_
  exact q_v (congrArg Value.bool (show ordF nm l = true from allP_le (by omega) hn).symm)

theorem right1 (I : IMap) (x : Ivl) :
    FnV Tryz.prog 134 #[.agg x.cells.toArray] I (.bool (lifeOk x)) := by
 refine enter Tryz.func134 Tryz.call134 rfl Tryz.ntmps134 rfl (fun w0 => ?_)
 refine go 3 ?_
 refine o_box _ rfl rfl rfl (fun g1 => ?_)
 refine go 9 ?_
 refine sxb 6 rfl (fun h6 p6 => ?_) (fun h6 p6 => ?_)
 ·refine go 7 ?_
  refine sxb 13 rfl (fun h13 p13 => ?_) (fun h13 p13 => ?_)
  ·refine go 8 ?_
   refine fin1 rfl rfl ?_
   exact q_v (congrArg Value.bool (by simp only [lifeOk, h6, h13, bS]))
  ·refine go 8 ?_
   refine fin1 rfl rfl ?_
   exact q_v (congrArg Value.bool (by simp only [lifeOk, h6, h13, bS]))
 ·refine go 15 ?_
  refine fin1 rfl rfl ?_
  exact q_v (congrArg Value.bool (by simp only [lifeOk, h6, bS]))

theorem right2 (I : IMap) (x : Prp) (hs : Sm x.key) :
    FnV Tryz.prog 135 #[.agg x.cells.toArray] I (.bool (propOk x)) := by
 refine enter Tryz.func135 Tryz.call135 rfl Tryz.ntmps135 rfl (fun w0 => ?_)
 refine go 3 ?_
 refine o_box _ rfl rfl rfl (fun g1 => ?_)
 refine go 8 ?_
 refine o_callV (lexName _ _ hs) rfl rfl ?_
 refine go 1 ?_
 refine sxb 6 rfl (fun h6 p6 => ?_) (fun h6 p6 => ?_)
 ·refine go 5 ?_
  refine sxb 11 rfl (fun h11 p11 => ?_) (fun h11 p11 => ?_)
  ·refine go 9 ?_
   refine fin1 rfl rfl ?_
   exact q_v (congrArg Value.bool (by simp only [propOk, h6, h11, bS]))
  ·refine go 9 ?_
   refine fin1 rfl rfl ?_
   exact q_v (congrArg Value.bool (by simp only [propOk, h6, h11, bS]))
 ·refine go 14 ?_
  refine fin1 rfl rfl ?_
  exact q_v (congrArg Value.bool (by simp only [propOk, h6, bS]))

theorem right3 (I : IMap) (x : Prp) (vs : List Value) (h : Enc.rd I vs x) :
    FnV Tryz.prog 137 #[.agg vs.toArray] I (.string x.key) := by
 obtain rfl := h
 refine enter Tryz.func137 Tryz.call137 rfl Tryz.ntmps137 rfl (fun w0 => ?_)
 refine go 3 ?_
 refine o_box _ rfl rfl rfl (fun g1 => ?_)
 refine go 11 ?_
 refine fin1 rfl rfl ?_
 exact q_v rfl

theorem valid1 (I : IMap) (x : Part) (vs : List Value) (h : Enc.rd I vs x) :
    FnV Tryz.prog 97 #[.agg vs.toArray] I (.string x.name) := by
 obtain ⟨q, rfl, B, d, rfl, hB, hd, hm⟩ := h
 refine enter Tryz.func97 Tryz.call97 rfl Tryz.ntmps97 rfl (fun w0 => ?_)
 refine go 3 ?_
 refine o_box _ rfl rfl rfl (fun g1 => ?_)
 refine go 11 ?_
 refine fin1 rfl rfl ?_
 exact q_v rfl

theorem apply11 (I : IMap) (x : Part) (vs : List Value) (h : Enc.rd I vs x) :
    FnV Tryz.prog 73 #[.agg vs.toArray] I (.string x.name) := by
 obtain ⟨q, rfl, B, d, rfl, hB, hd, hm⟩ := h
 refine enter Tryz.func73 Tryz.call73 rfl Tryz.ntmps73 rfl (fun w0 => ?_)
 refine go 3 ?_
 refine o_box _ rfl rfl rfl (fun g1 => ?_)
 refine go 11 ?_
 refine fin1 rfl rfl ?_
 exact q_v rfl

theorem apply5 (I : IMap) (x : Prp) (vs : List Value) (h : Enc.rd I vs x) :
    FnV Tryz.prog 82 #[.agg vs.toArray] I (.string x.key) := by
 obtain rfl := h
 refine enter Tryz.func82 Tryz.call82 rfl Tryz.ntmps82 rfl (fun w0 => ?_)
 refine go 3 ?_
 refine o_box _ rfl rfl rfl (fun g1 => ?_)
 refine go 11 ?_
 refine fin1 rfl rfl ?_
 exact q_v rfl

theorem flRight (I : IMap) (v : Value) (l : List Kind) (hv : RdS I v l) (p : Part) (D : Option Addr) (d : Nat) (hD : RdS I (.slice D p.props.length d) p.props) (hs : SmP p) :
    FnV Tryz.prog 98 #[.agg #[v], .agg (p.cells (.slice D p.props.length d)).toArray] I (.bool (rightP l p)) := by
 have hDA : RdA I D p.props := (by obtain ⟨_, _, e, h, _⟩ := hD; cases e; exact h)
 have hDl : p.props.length ≤ d ∧ d ≤ 9223372036854775807 := (by obtain ⟨_, _, e, h, h1, h2⟩ := hD; cases e; exact ⟨h1, h2⟩)
 refine enter Tryz.func98 Tryz.call98 rfl Tryz.ntmps98 rfl (fun w0 => ?_)
 refine go 3 ?_
 refine o_box _ rfl rfl rfl (fun g2 => ?_)
 refine go 1 ?_
 refine o_box _ rfl rfl rfl (fun g3 => ?_)
 refine go 20 ?_
 refine o_callE (catFind I _ l hv p.kind) rfl rfl (fun v15 q15 => ?_)
 obtain ⟨vs, rfl, ss, rfl, hsl⟩ := q15
 refine go 4 ?_
 refine o_alloc he rfl (fun g7 => ?_)
 refine go 1 ?_
 refine o_stw _ he rfl rfl rfl rfl rfl (by simp [Kind.cells, hsl.one]; exact ⟨rfl, rfl⟩) ?_
 refine go 4 ?_
 refine c_cut (I' := I) (L' := [(2, .pointer (some ⟨g2, 0, none⟩)), (3, .pointer (some ⟨g3, 0, none⟩)), (5, .func (.func 134) #[] #[]), (6, .func (.func 135) #[] #[]), (48, .bool (partBad l p))]) (H' := [.blk g3 124 (p.cells (.slice D p.props.length d)), .blk g2 24 [v]]) ?_ ?_
 ·refine go 4 ?_
  refine sxb 20 rfl (fun h20 p20 => ?_) (fun h20 p20 => ?_)
  ·refine go 30 ?_
   refine sx_drop ?_
   exact q_cut ⟨rfl, rfl, rfl, rfl, (congrArg (fun b => some (Value.bool b)) (by simp only [partBad, h20, bS])), trivial⟩ rfl rfl
  ·refine go 3 ?_
   refine o_yes rfl rfl h20 (o_callV (lexName _ _ hs.1) rfl rfl ?_)
   refine go 3 ?_
   refine sxb 26 rfl (fun h26 p26 => ?_) (fun h26 p26 => ?_)
   ·refine go 24 ?_
    refine sx_drop ?_
    exact q_cut ⟨rfl, rfl, rfl, rfl, (congrArg (fun b => some (Value.bool b)) (by simp only [partBad, h20, h26, bS])), trivial⟩ rfl rfl
   ·refine go 5 ?_
    refine sxb 31 rfl (fun h31 p31 => ?_) (fun h31 p31 => ?_)
    ·refine go 19 ?_
     refine sx_drop ?_
     exact q_cut ⟨rfl, rfl, rfl, rfl, (congrArg (fun b => some (Value.bool b)) (by simp only [partBad, h20, h26, h31, bS])), trivial⟩ rfl rfl
    ·refine go 7 ?_
     refine sxb 38 rfl (fun h38 p38 => ?_) (fun h38 p38 => ?_)
     ·refine go 12 ?_
      refine sx_drop ?_
      exact q_cut ⟨rfl, rfl, rfl, rfl, (congrArg (fun b => some (Value.bool b)) (by simp only [partBad, h20, h26, h31, h38, bS])), trivial⟩ rfl rfl
     ·refine go 5 ?_
      refine sxb 43 rfl (fun h43 p43 => ?_) (fun h43 p43 => ?_)
      ·refine go 7 ?_
       refine sx_drop ?_
       exact q_cut ⟨rfl, rfl, rfl, rfl, (congrArg (fun b => some (Value.bool b)) (by simp only [partBad, h20, h26, h31, h38, h43, bS])), trivial⟩ rfl rfl
      ·refine go 7 ?_
       refine sx_drop ?_
       exact q_cut ⟨rfl, rfl, rfl, rfl, (congrArg (fun b => some (Value.bool b)) (by simp only [partBad, h20, h26, h31, h38, h43, bS])), trivial⟩ rfl rfl
 ·refine cb rfl (fun h48 p48 => ?_) (fun h48 p48 => ?_)
  ·refine go 7 ?_
   refine fin1 rfl rfl ?_
   exact q_v (congrArg Value.bool (by simp only [rightP, h48]; rfl))
  ·refine go 12 ?_
   refine c_loop (α := Nat) 0 (fun i => I)
    (fun i => [(2, .pointer (some ⟨g2, 0, none⟩)), (3, .pointer (some ⟨g3, 0, none⟩)), (5, .func (.func 134) #[] #[]), (6, .func (.func 135) #[] #[]), (50, .slice D p.props.length d), (51, .int .i64 (p.props.length : Int)), (52, .int .i64 (i : Int))])
    (fun i => [.blk g3 124 (p.cells (.slice D p.props.length d)), .blk g2 24 [v]])
    (fun i => i ≤ p.props.length ∧ allP (fun _ q => propOk q) p.props i = true)
    (fun i => p.props.length - i) ⟨Nat.zero_le _, rfl⟩ rfl sb rfl ?_
   intro i ⟨hi, hn⟩
   refine go 6 ?_
   refine cb rfl (fun h53 p53 => ?_) (fun h53 p53 => ?_)
   ·have hlt : i < p.props.length := by omega
    refine go 6 ?_
    obtain ⟨b54, o54, w54, e54, c54, r54⟩ := RdA.at_ hDA (i := i) hlt
    obtain rfl := r54
    refine o_v rfl (v_idx he rfl rfl e54 (i) (by omega) hlt) ?_
    refine o_v rfl (v_ldIa he rfl c54 rfl) ?_
    refine go 1 ?_
    refine o_alloc he rfl (fun g10 => ?_)
    refine go 1 ?_
    refine o_stw _ he rfl rfl rfl rfl rfl rfl ?_
    refine go 7 ?_
    refine o_callV (right2 _ p.props[i] (hs.2 _ (List.getElem_mem hlt))) rfl rfl ?_
    refine go 3 ?_
    refine cb rfl (fun h59 p59 => ?_) (fun h59 p59 => ?_)
    ·refine go 11 ?_
     refine fin1 rfl rfl ?_
     exact q_v (congrArg Value.bool (by simp only [rightP, h48, allP_not (f := fun _ q => propOk q) hlt (by simpa using h59), bS]))
    ·refine go 8 ?_
     refine sx_drop ?_
     exact q_next (i + 1) ⟨by omega, allP_succ hn hlt (by simpa using h59)⟩ (by omega) rfl sb rfl
   ·have hAll : allP (fun _ q => propOk q) p.props p.props.length = true := (show i = p.props.length by omega) ▸ hn
    refine go 10 ?_
    refine o_callV (ordered_Prp _ _ p.props hD _ Prp.key (fun x vs hr => right3 _ x vs hr)) rfl rfl ?_
    refine go 1 ?_
    refine sxb 64 rfl (fun h64 p64 => ?_) (fun h64 p64 => ?_)
    ·refine go 3 ?_
     refine o_cons (o_yes rfl rfl h64 (o_val rfl (v_ldp (p.life.km.cells) m0 he rfl rfl rfl) ?_))
     refine go 1 ?_
     refine o_yes rfl rfl h64 (o_callV (right1 _ p.life.km) rfl rfl ?_)
     refine go 2 ?_
     refine sxb 71 rfl (fun h71 p71 => ?_) (fun h71 p71 => ?_)
     ·refine go 3 ?_
      refine o_cons (o_yes rfl rfl h71 (o_val rfl (v_ldp (p.life.cycles.cells) m0 he rfl rfl rfl) ?_))
      refine go 1 ?_
      refine o_yes rfl rfl h71 (o_callV (right1 _ p.life.cycles) rfl rfl ?_)
      refine go 2 ?_
      refine sxb 78 rfl (fun h78 p78 => ?_) (fun h78 p78 => ?_)
      ·refine go 3 ?_
       refine o_cons (o_yes rfl rfl h78 (o_val rfl (v_ldp (p.life.damage.cells) m0 he rfl rfl rfl) ?_))
       refine go 1 ?_
       refine o_yes rfl rfl h78 (o_callV (right1 _ p.life.damage) rfl rfl ?_)
       refine go 5 ?_
       refine fin1 rfl rfl ?_
       exact q_v (congrArg Value.bool (by simp only [rightP, h48, hAll, h53, h64, h71, h78, bS]))
      ·refine go 10 ?_
       refine fin1 rfl rfl ?_
       exact q_v (congrArg Value.bool (by simp only [rightP, h48, hAll, h53, h64, h71, h78, bS]))
     ·refine go 17 ?_
      refine fin1 rfl rfl ?_
      exact q_v (congrArg Value.bool (by simp only [rightP, h48, hAll, h53, h64, h71, bS]))
    ·refine go 24 ?_
     refine fin1 rfl rfl ?_
     exact q_v (congrArg Value.bool (by simp only [rightP, h48, hAll, h53, h64, bS]))

theorem eqS_seat (p q : ByteArray × ByteArray) : eqV Tryz.prog 9 154 (enc2 p) (enc2 q) = some (decide (p = q)) := by
  have e : eqV Tryz.prog 9 154 (enc2 p) (enc2 q) = some (decide (p.1 = q.1) && (decide (p.2 = q.2) && true)) := by kernel_rfl
  rw [e]
  obtain ⟨a, b⟩ := p
  obtain ⟨c, d⟩ := q
  simp

theorem flValid (I : IMap) (vc : Value) (c : List Kind) (hvc : RdS I vc c) (hsc : SmC c) (v : Value) (l : List Part) (hv : RdS I v l) (hsf : SmF l) :
    FnV Tryz.prog 69 #[.agg #[vc], .agg #[v]] I (.bool (validS c l)) := by
 have hv0 := hv
 obtain ⟨A, c0, rfl, hA, hc, hm⟩ := hv
 refine enter Tryz.func69 Tryz.call69 rfl Tryz.ntmps69 rfl (fun w0 => ?_)
 refine go 3 ?_
 refine o_box _ rfl rfl rfl (fun g2 => ?_)
 refine go 1 ?_
 refine o_box _ rfl rfl rfl (fun g3 => ?_)
 refine go 5 ?_
 refine c_cut (I' := I) (L' := [(2, .pointer (some ⟨g2, 0, none⟩)), (3, .pointer (some ⟨g3, 0, none⟩)), (26, .bool (bad0S c l))]) (H' := [.blk g3 69 [.slice A l.length c0], .blk g2 24 [vc]]) ?_ ?_
 ·refine go 3 ?_
  refine o_callV (catValid _ _ c hvc hsc) rfl rfl ?_
  refine go 2 ?_
  refine sxb 15 rfl (fun h15 p15 => ?_) (fun h15 p15 => ?_)
  ·refine go 13 ?_
   exact q_cut ⟨rfl, rfl, (congrArg (fun b => some (Value.bool b)) (by simp only [bad0S, h15, bS])), trivial⟩ rfl rfl
  ·refine go 6 ?_
   refine sxb 21 rfl (fun h21 p21 => ?_) (fun h21 p21 => ?_)
   ·refine go 7 ?_
    exact q_cut ⟨rfl, rfl, (congrArg (fun b => some (Value.bool b)) (by simp only [bad0S, h15, h21, bS])), trivial⟩ rfl rfl
   ·refine go 3 ?_
    refine o_yes rfl rfl h21 (o_callV (ordered_Part _ _ l hv0 _ Part.name (fun x vs hr => valid1 _ x vs hr)) rfl rfl ?_)
    refine go 4 ?_
    exact q_cut ⟨rfl, rfl, (congrArg (fun b => some (Value.bool b)) (by simp only [bad0S, h15, h21, bS])), trivial⟩ rfl rfl
 ·refine cb rfl (fun h26 p26 => ?_) (fun h26 p26 => ?_)
  ·refine go 7 ?_
   refine fin1 rfl rfl ?_
   exact q_v (congrArg Value.bool (by simp only [validS, h26]; rfl))
  ·refine go 6 ?_
   refine o_callX0 (flOf _ _ l hv0) rfl rfl (fun v28 s28 q28 => ?_)
   obtain ⟨m28, kvs, rfl, rfl, hIx⟩ := q28
   refine go 1 ?_
   refine o_alloc he rfl (fun g5 => ?_)
   refine go 1 ?_
   refine o_stw _ he rfl rfl rfl rfl rfl rfl ?_
   refine go 5 ?_
   refine o_map0 (enc2) he rfl (fun r29 => ?_)
   refine go 13 ?_
   refine bring4 ?_
   refine bring4 ?_
   refine bring3 ?_
   refine bring4 ?_
   refine bring4 ?_
   refine c_loop (α := Nat) 0 (fun i => I)
    (fun i => [(2, .pointer (some ⟨g2, 0, none⟩)), (3, .pointer (some ⟨g3, 0, none⟩)), (5, .pointer (some ⟨g5, 0, none⟩)), (6, .map (some r29)), (31, .slice A l.length c0), (32, .int .i64 (l.length : Int)), (33, .int .i64 (i : Int))])
    (fun i => [.mp r29 (emap enc2 (kvsOf seatOf (fun _ => .bool true) (seated (l.take i)))), .mp m28 (emap Value.string kvs), .blk g5 118 [.slice A l.length c0, .map (some m28)], .blk g3 69 [.slice A l.length c0], .blk g2 24 [vc]])
    (fun i => i ≤ l.length ∧ allP (partFine c l) l i = true)
    (fun i => l.length - i) ⟨Nat.zero_le _, rfl⟩ rfl sb rfl ?_
   intro i ⟨hi, hn⟩
   refine go 6 ?_
   refine cb rfl (fun h34 p34 => ?_) (fun h34 p34 => ?_)
   ·have hlt : i < l.length := by omega
    refine go 6 ?_
    obtain ⟨b35, o35, w35, e35, c35, r35⟩ := RdA.at_ hA (i := i) hlt
    obtain ⟨q35, rfl, B35, d35, rfl, hB35, hd35, hm35⟩ := r35
    refine o_v rfl (v_idx he rfl rfl e35 (i) (by omega) hlt) ?_
    refine o_v rfl (v_ldIa he rfl c35 rfl) ?_
    refine go 1 ?_
    refine o_alloc he rfl (fun g8 => ?_)
    refine go 1 ?_
    refine o_stw _ he rfl rfl rfl rfl rfl rfl ?_
    refine go 4 ?_
    refine c_cut (I' := I) (L' := [(2, .pointer (some ⟨g2, 0, none⟩)), (3, .pointer (some ⟨g3, 0, none⟩)), (5, .pointer (some ⟨g5, 0, none⟩)), (6, .map (some r29)), (31, .slice A l.length c0), (32, .int .i64 (l.length : Int)), (33, .int .i64 (i : Int)), (8, .pointer (some ⟨g8, 0, none⟩)), (49, .bool (bad1P c l[i]))]) (H' := [.blk g8 124 (l[i].cells (.slice B35 l[i].props.length d35)), .mp r29 (emap enc2 (kvsOf seatOf (fun _ => .bool true) (seated (l.take i)))), .mp m28 (emap Value.string kvs), .blk g5 118 [.slice A l.length c0, .map (some m28)], .blk g3 69 [.slice A l.length c0], .blk g2 24 [vc]]) ?_ ?_
    ·refine go 4 ?_
     refine o_callV (flRight _ _ c hvc l[i] B35 d35 ⟨_, _, rfl, hB35, hd35, hm35⟩ (hsf _ (List.getElem_mem hlt))) rfl rfl ?_
     refine go 2 ?_
     refine sxb 41 rfl (fun h41 p41 => ?_) (fun h41 p41 => ?_)
     ·refine go 10 ?_
      exact q_cut ⟨rfl, rfl, rfl, rfl, rfl, rfl, rfl, rfl, (congrArg (fun b => some (Value.bool b)) (by simp only [bad1P, h34, h41, bS])), trivial⟩ rfl rfl
     ·refine go 6 ?_
      refine o_cons (o_yes rfl rfl h41 (o_val rfl (v_bneq he rfl rfl) ?_))
      refine go 3 ?_
      exact q_cut ⟨rfl, rfl, rfl, rfl, rfl, rfl, rfl, rfl, (congrArg (fun b => some (Value.bool b)) (by simp only [bad1P, h34, h41, bS])), trivial⟩ rfl rfl
    ·refine cb rfl (fun h49 p49 => ?_) (fun h49 p49 => ?_)
     ·refine go 12 ?_
      refine fin1 rfl rfl ?_
      exact q_v (congrArg Value.bool (by simp only [validS, allP_not hlt (show partFine c l (l.take i) l[i] = false by simp only [partFine, h49]; rfl), bS]))
     ·refine go 10 ?_
      refine cb rfl (fun h52 p52 => ?_) (fun h52 p52 => ?_)
      ·refine go 9 ?_
       refine sx_drop ?_
       exact q_next (i + 1) ⟨by omega, allP_succ hn hlt (by simp only [partFine, h49, h52, bS])⟩ (by omega) rfl sb (by rw [seated_take hlt p52])
      ·refine go 8 ?_
       refine bring2 ?_
       refine o_callK (flGet _ _ l hv0 m28 kvs hIx l[i].into) rfl rfl (fun v57 q57 => ?_)
       obtain ⟨vs, rfl, s57, rfl, hs57⟩ := q57
       refine go 4 ?_
       refine o_alloc he rfl (fun g9 => ?_)
       refine go 1 ?_
       refine o_stw _ he rfl rfl rfl rfl rfl (Enc.one (α := Part) (I := I) (x := (findP l l[i].into).getD zPart) ⟨s57, rfl, hs57⟩) ?_
       refine go 10 ?_
       refine o_val rfl (v_build (pl := [(0, 1), (1, 1)]) he he rfl rfl) ?_
       refine go 1 ?_
       refine o_alloc he rfl (fun g11 => ?_)
       refine go 1 ?_
       refine o_stw _ he rfl rfl rfl rfl rfl rfl ?_
       refine go 4 ?_
       refine c_cut (I' := I) (L' := [(2, .pointer (some ⟨g2, 0, none⟩)), (3, .pointer (some ⟨g3, 0, none⟩)), (5, .pointer (some ⟨g5, 0, none⟩)), (6, .map (some r29)), (31, .slice A l.length c0), (32, .int .i64 (l.length : Int)), (33, .int .i64 (i : Int)), (8, .pointer (some ⟨g8, 0, none⟩)), (11, .pointer (some ⟨g11, 0, none⟩)), (90, .bool (bad2P c l (l.take i) l[i]))]) (H' := [.blk g11 154 [.string l[i].into, .string l[i].slot], .blk g8 124 (l[i].cells (.slice B35 l[i].props.length d35)), .mp r29 (emap enc2 (kvsOf seatOf (fun _ => .bool true) (seated (l.take i)))), .mp m28 (emap Value.string kvs), .blk g5 118 [.slice A l.length c0, .map (some m28)], .blk g3 69 [.slice A l.length c0], .blk g2 24 [vc]]) ?_ ?_
       ·refine go 4 ?_
        refine sxb 67 rfl (fun h67 p67 => ?_) (fun h67 p67 => ?_)
        ·refine go 25 ?_
         refine bring1 ?_
         refine sx_drop ?_
         refine bring6 ?_
         refine bring6 ?_
         refine bring6 ?_
         refine bring4 ?_
         refine bring6 ?_
         refine bring6 ?_
         refine bring6 ?_
         exact q_cut ⟨rfl, rfl, rfl, rfl, rfl, rfl, rfl, rfl, rfl, (congrArg (fun b => some (Value.bool b)) (by simp only [bad2P, h49, h52, h67, bS])), trivial⟩ rfl rfl
        ·refine go 4 ?_
         refine sxb 71 rfl (fun h71 p71 => ?_) (fun h71 p71 => ?_)
         ·refine go 21 ?_
          refine bring1 ?_
          refine sx_drop ?_
          refine bring6 ?_
          refine bring6 ?_
          refine bring6 ?_
          refine bring4 ?_
          refine bring6 ?_
          refine bring6 ?_
          refine bring6 ?_
          exact q_cut ⟨rfl, rfl, rfl, rfl, rfl, rfl, rfl, rfl, rfl, (congrArg (fun b => some (Value.bool b)) (by simp only [bad2P, h49, h52, h67, h71, bS])), trivial⟩ rfl rfl
         ·refine go 4 ?_
          refine sxb 75 rfl (fun h75 p75 => ?_) (fun h75 p75 => ?_)
          ·refine go 17 ?_
           refine bring1 ?_
           refine sx_drop ?_
           refine bring6 ?_
           refine bring6 ?_
           refine bring6 ?_
           refine bring4 ?_
           refine bring6 ?_
           refine bring6 ?_
           refine bring6 ?_
           exact q_cut ⟨rfl, rfl, rfl, rfl, rfl, rfl, rfl, rfl, rfl, (congrArg (fun b => some (Value.bool b)) (by simp only [bad2P, h49, h52, h67, h71, h75, bS])), trivial⟩ rfl rfl
          ·refine go 2 ?_
           refine o_cons (o_yes rfl rfl h75 (o_val rfl (v_get m4 (key_pair T.sp_154 eqS_seat) he he (seatOf l[i]) rfl rfl (kvs_hit1 seatOf _ _)) ?_))
           refine go 2 ?_
           refine sxb 80 rfl (fun h80 p80 => ?_) (fun h80 p80 => ?_)
           ·refine go 12 ?_
            refine bring1 ?_
            refine sx_drop ?_
            refine bring6 ?_
            refine bring6 ?_
            refine bring6 ?_
            refine bring4 ?_
            refine bring6 ?_
            refine bring6 ?_
            refine bring6 ?_
            exact q_cut ⟨rfl, rfl, rfl, rfl, rfl, rfl, rfl, rfl, rfl, (congrArg (fun b => some (Value.bool b)) (by simp only [bad2P, h49, h52, h67, h71, h75, h80, bS])), trivial⟩ rfl rfl
           ·refine o_cons (o_yes rfl rfl h80 (o_val rfl (v_ldw m7 he rfl rfl) ?_))
            refine go 7 ?_
            refine o_yes rfl rfl h80 (o_callV (catTakes _ _ c hvc ((findP l l[i].into).getD zPart).kind l[i].slot l[i].kind) rfl rfl ?_)
            refine go 4 ?_
            refine bring1 ?_
            refine sx_drop ?_
            refine bring6 ?_
            refine bring6 ?_
            refine bring6 ?_
            refine bring4 ?_
            refine bring6 ?_
            refine bring6 ?_
            refine bring6 ?_
            exact q_cut ⟨rfl, rfl, rfl, rfl, rfl, rfl, rfl, rfl, rfl, (congrArg (fun b => some (Value.bool b)) (by simp only [bad2P, h49, h52, h67, h71, h75, h80, bS])), trivial⟩ rfl rfl
       ·refine cb rfl (fun h90 p90 => ?_) (fun h90 p90 => ?_)
        ·refine go 12 ?_
         refine fin1 rfl rfl ?_
         exact q_v (congrArg Value.bool (by simp only [validS, allP_not hlt (show partFine c l (l.take i) l[i] = false by simp only [partFine, h52, h90]; simp), bS]))
        ·refine go 6 ?_
         have h90n : hit seatOf (seated (l.take i)) (seatOf l[i]) = false := by revert h90; simp only [bad2P]; cases hit seatOf (seated (l.take i)) (seatOf l[i]) <;> simp
         refine bring2 ?_
         refine o_mapPut (kvsOf seatOf (fun _ => .bool true) (seated (l.take (i + 1)))) (key_pair T.sp_154 eqS_seat) he (seatOf l[i]) rfl rfl rfl ((kvs_put seatOf (fun _ => .bool true) (seated (l.take i)) l[i] (hit_none h90n)).trans (by rw [seated_take' hlt p52])) ?_
         refine go 8 ?_
         refine bring1 ?_
         refine sx_drop ?_
         refine bring1 ?_
         refine sx_drop ?_
         exact q_next (i + 1) ⟨by omega, allP_succ hn hlt (by simp only [partFine, h49, h90, bS])⟩ (by omega) rfl sb rfl
   ·refine go 11 ?_
    refine fin1 rfl rfl ?_
    have e : i = l.length := (by omega)
    subst e
    exact q_v (congrArg Value.bool (by simp only [validS, h26, hn, bS]))

theorem bsearch_Part (I : IMap) (v : Value) (l : List Part) (hv : RdS I v l) (hl : l.length ≤ 1000000) (s : ByteArray) (f : FuncId) (cs : List Value) (nm : Part → ByteArray) (hp : ∀ x vs, Enc.rd I vs x → FnV Tryz.prog f ([Value.agg vs.toArray, Value.string s] ++ cs).toArray I (.int .i64 (cmpS (nm x) s))) (hs : Srt nm l) :
    FnV Tryz.prog 99 #[v, .string s, .func (.func f) #[] cs.toArray] I (.tuple #[.int .i64 (posF nm l s : Nat), .bool (atF nm l s)]) := by
 obtain ⟨A, c0, rfl, hA, hc, hm⟩ := hv
 refine enter Tryz.func99 Tryz.call99 rfl Tryz.ntmps99 rfl (fun w0 => ?_)
 refine go 22 ?_
 refine c_loop2 ((0 : Nat)) (l.length) (fun i j => I)
  (fun i j => [(0, .slice A l.length c0), (1, .string s), (2, .func (.func f) #[] cs.toArray), (8, .int .i64 (l.length : Int)), (9, .int .i64 (i : Int)), (10, .int .i64 (j : Int))])
  (fun i j => [])
  (fun i j => i ≤ j ∧ j ≤ l.length ∧ (∀ q x, q < i → l[q]? = some x → sLt (nm x) s = true) ∧ (∀ q x, j ≤ q → l[q]? = some x → sLt (nm x) s = false))
  (fun i j => j - i) ⟨Nat.zero_le _, Nat.le_refl _, fun q x h => absurd h (Nat.not_lt_zero q), fun q x h hx => by rw [List.getElem?_eq_none h] at hx; cases hx⟩ rfl sb rfl ?_
 intro i j ⟨hij, hj, hlo, hhi⟩
 refine go 8 ?_
 refine cb rfl (fun h17 p17 => ?_) (fun h17 p17 => ?_)
 ·have hlt : (i + j) / 2 < l.length := by omega
  refine go 8 ?_
  refine o_v rfl (v_conv he he rfl (m := (i : Int) + (j : Int)) (wrap_u64 _ (by omega) (by omega))) ?_
  refine o_v rfl (v_shr1 rfl (by decide)) ?_
  refine o_v rfl (v_conv he he rfl (m := (((i + j) / 2 : Nat) : Int)) (by rw [IntKind.wrap_i64]; omega)) ?_
  refine go 8 ?_
  obtain ⟨b27, o27, w27, e27, c27, r27⟩ := RdA.at_ hA (i := (i + j) / 2) hlt
  refine o_v rfl (v_idx he rfl rfl e27 ((i + j) / 2) (by omega) hlt) ?_
  refine o_v rfl (v_ldIa he rfl c27 (Enc.len r27)) ?_
  refine go 2 ?_
  refine o_callV (hp _ _ r27) rfl rfl ?_
  refine go 3 ?_
  refine cb rfl (fun h31 p31 => ?_) (fun h31 p31 => ?_)
  ·refine go 7 ?_
   exact q_next2 ((i + j) / 2 + 1) (j) ⟨by omega, hj, bs_lo hs hlt (cmpS_neg.1 p31), hhi⟩ (by omega) rfl sb rfl
  ·refine go 6 ?_
   exact q_next2 (i) ((i + j) / 2) ⟨by omega, by omega, hlo, bs_hi hs hlt (by simpa [cmpS_neg] using p31)⟩ (by omega) rfl sb rfl
 ·have hpos : posF nm l s = i := pos_eq (by omega) hlo (fun q x hq hx => hhi q x (by omega) hx)
  refine go 12 ?_
  refine sxb 39 rfl (fun h39 p39 => ?_) (fun h39 p39 => ?_)
  ·have hlt : i < l.length := by omega
   refine go 3 ?_
   obtain ⟨b43, o43, w43, e43, c43, r43⟩ := RdA.at_ hA (i := i) hlt
   refine o_cons (o_yes rfl rfl h39 (o_val rfl (v_idx he rfl rfl e43 (i) (by omega) hlt) ?_))
   refine o_cons (o_yes rfl rfl h39 (o_val rfl (v_ldIa he rfl c43 (Enc.len r43)) ?_))
   refine go 2 ?_
   refine o_yes rfl rfl h39 (o_callV (hp _ _ r43) rfl rfl ?_)
   refine go 7 ?_
   refine fin2 rfl rfl rfl ?_
   exact q_v (by rw [hpos, at_of hpos hlt]; simp only [cmpS_zero])
  ·refine go 14 ?_
   refine fin2 rfl rfl rfl ?_
   exact q_v (by rw [hpos, at_no hpos (by omega)])

theorem put1_Part (I : IMap) (x : Part) (vs : List Value) (h : Enc.rd I vs x) (s : ByteArray) (f : FuncId) (nm : Part → ByteArray) (hp : FnV Tryz.prog f #[.agg vs.toArray] I (.string (nm x))) (g : Nat) (hg : ICells I g 0 [.func (.func f) #[] #[]]) :
    FnV Tryz.prog 100 #[.agg vs.toArray, .string s, .pointer (some ⟨g, 0, none⟩)] I (.int .i64 (cmpS (nm x) s)) := by
 have hl := Enc.len h
 refine enter Tryz.func100 Tryz.call100 rfl Tryz.ntmps100 rfl (fun w0 => ?_)
 refine go 3 ?_
 refine o_box _ rfl rfl rfl (fun g3 => ?_)
 refine go 5 ?_
 refine o_v rfl (v_ldI he rfl (hg 0 _ rfl)) ?_
 refine o_v rfl (v_ldw m0 he rfl hl) ?_
 refine go 1 ?_
 refine o_callV (hp) rfl rfl ?_
 refine go 2 ?_
 refine o_callV (compare_string _ _ _) rfl rfl ?_
 refine go 4 ?_
 refine fin1 rfl rfl ?_
 exact q_v rfl

theorem bsearch_Prp (I : IMap) (v : Value) (l : List Prp) (hv : RdS I v l) (hl : l.length ≤ 1000000) (s : ByteArray) (f : FuncId) (cs : List Value) (nm : Prp → ByteArray) (hp : ∀ x vs, Enc.rd I vs x → FnV Tryz.prog f ([Value.agg vs.toArray, Value.string s] ++ cs).toArray I (.int .i64 (cmpS (nm x) s))) (hs : Srt nm l) :
    FnV Tryz.prog 109 #[v, .string s, .func (.func f) #[] cs.toArray] I (.tuple #[.int .i64 (posF nm l s : Nat), .bool (atF nm l s)]) := by
 obtain ⟨A, c0, rfl, hA, hc, hm⟩ := hv
 refine enter Tryz.func109 Tryz.call109 rfl Tryz.ntmps109 rfl (fun w0 => ?_)
 refine go 22 ?_
 refine c_loop2 ((0 : Nat)) (l.length) (fun i j => I)
  (fun i j => [(0, .slice A l.length c0), (1, .string s), (2, .func (.func f) #[] cs.toArray), (8, .int .i64 (l.length : Int)), (9, .int .i64 (i : Int)), (10, .int .i64 (j : Int))])
  (fun i j => [])
  (fun i j => i ≤ j ∧ j ≤ l.length ∧ (∀ q x, q < i → l[q]? = some x → sLt (nm x) s = true) ∧ (∀ q x, j ≤ q → l[q]? = some x → sLt (nm x) s = false))
  (fun i j => j - i) ⟨Nat.zero_le _, Nat.le_refl _, fun q x h => absurd h (Nat.not_lt_zero q), fun q x h hx => by rw [List.getElem?_eq_none h] at hx; cases hx⟩ rfl sb rfl ?_
 intro i j ⟨hij, hj, hlo, hhi⟩
 refine go 8 ?_
 refine cb rfl (fun h17 p17 => ?_) (fun h17 p17 => ?_)
 ·have hlt : (i + j) / 2 < l.length := by omega
  refine go 8 ?_
  refine o_v rfl (v_conv he he rfl (m := (i : Int) + (j : Int)) (wrap_u64 _ (by omega) (by omega))) ?_
  refine o_v rfl (v_shr1 rfl (by decide)) ?_
  refine o_v rfl (v_conv he he rfl (m := (((i + j) / 2 : Nat) : Int)) (by rw [IntKind.wrap_i64]; omega)) ?_
  refine go 8 ?_
  obtain ⟨b27, o27, w27, e27, c27, r27⟩ := RdA.at_ hA (i := (i + j) / 2) hlt
  refine o_v rfl (v_idx he rfl rfl e27 ((i + j) / 2) (by omega) hlt) ?_
  refine o_v rfl (v_ldIa he rfl c27 (Enc.len r27)) ?_
  refine go 2 ?_
  refine o_callV (hp _ _ r27) rfl rfl ?_
  refine go 3 ?_
  refine cb rfl (fun h31 p31 => ?_) (fun h31 p31 => ?_)
  ·refine go 7 ?_
   exact q_next2 ((i + j) / 2 + 1) (j) ⟨by omega, hj, bs_lo hs hlt (cmpS_neg.1 p31), hhi⟩ (by omega) rfl sb rfl
  ·refine go 6 ?_
   exact q_next2 (i) ((i + j) / 2) ⟨by omega, by omega, hlo, bs_hi hs hlt (by simpa [cmpS_neg] using p31)⟩ (by omega) rfl sb rfl
 ·have hpos : posF nm l s = i := pos_eq (by omega) hlo (fun q x hq hx => hhi q x (by omega) hx)
  refine go 12 ?_
  refine sxb 39 rfl (fun h39 p39 => ?_) (fun h39 p39 => ?_)
  ·have hlt : i < l.length := by omega
   refine go 3 ?_
   obtain ⟨b43, o43, w43, e43, c43, r43⟩ := RdA.at_ hA (i := i) hlt
   refine o_cons (o_yes rfl rfl h39 (o_val rfl (v_idx he rfl rfl e43 (i) (by omega) hlt) ?_))
   refine o_cons (o_yes rfl rfl h39 (o_val rfl (v_ldIa he rfl c43 (Enc.len r43)) ?_))
   refine go 2 ?_
   refine o_yes rfl rfl h39 (o_callV (hp _ _ r43) rfl rfl ?_)
   refine go 7 ?_
   refine fin2 rfl rfl rfl ?_
   exact q_v (by rw [hpos, at_of hpos hlt]; simp only [cmpS_zero])
  ·refine go 14 ?_
   refine fin2 rfl rfl rfl ?_
   exact q_v (by rw [hpos, at_no hpos (by omega)])

theorem put1_Prp (I : IMap) (x : Prp) (vs : List Value) (h : Enc.rd I vs x) (s : ByteArray) (f : FuncId) (nm : Prp → ByteArray) (hp : FnV Tryz.prog f #[.agg vs.toArray] I (.string (nm x))) (g : Nat) (hg : ICells I g 0 [.func (.func f) #[] #[]]) :
    FnV Tryz.prog 110 #[.agg vs.toArray, .string s, .pointer (some ⟨g, 0, none⟩)] I (.int .i64 (cmpS (nm x) s)) := by
 have hl := Enc.len h
 refine enter Tryz.func110 Tryz.call110 rfl Tryz.ntmps110 rfl (fun w0 => ?_)
 refine go 3 ?_
 refine o_box _ rfl rfl rfl (fun g3 => ?_)
 refine go 5 ?_
 refine o_v rfl (v_ldI he rfl (hg 0 _ rfl)) ?_
 refine o_v rfl (v_ldw m0 he rfl hl) ?_
 refine go 1 ?_
 refine o_callV (hp) rfl rfl ?_
 refine go 2 ?_
 refine o_callV (compare_string _ _ _) rfl rfl ?_
 refine go 4 ?_
 refine fin1 rfl rfl ?_
 exact q_v rfl

theorem clone_Part (I : IMap) (v : Value) (l : List Part) (hv : RdS I v l) (hl : l.length ≤ 1000000) :
    FnX Tryz.prog 102 #[v] I [] (fun u r => ∃ xss, r = .row u 124 14 l.length xss.flatten ∧ FlatC I xss l) := by
 have hv0 := hv
 obtain ⟨A, c0, rfl, hA, hc, hm⟩ := hv
 refine enter Tryz.func102 Tryz.call102 rfl Tryz.ntmps102 rfl (fun w0 => ?_)
 refine go 9 ?_
 refine o_v rfl (v_seqnil he rfl) ?_
 refine go 2 ?_
 refine cb rfl (fun h4 p4 => ?_) (fun h4 p4 => ?_)
 ·obtain rfl : l = [] := List.eq_nil_of_length_eq_zero (by rcases Nat.eq_zero_or_pos l.length with h | h; exact h; obtain ⟨_, _, e, _⟩ := hA h; subst e; cases h4)
  refine sx_nilrow 124 14 ?_
  refine go 7 ?_
  refine fin1 rfl rfl ?_
  exact q_x ⟨[], rfl, .nil⟩
 ·refine go 5 ?_
  refine o_buildSlice he he rfl rfl rfl rfl rfl rfl rfl (fun v5 => ?_)
  refine go 2 ?_
  refine o_appendR (hv0) rfl he he rfl rfl rfl rfl (by omega) (by omega) rfl (fun v7 x7 f7 => ?_)
  refine go 4 ?_
  refine fin1 rfl rfl ?_
  exact q_x (by obtain ⟨xss, rfl, hx⟩ := FlatC.of f7; exact ⟨xss, by rw [Nat.zero_add]; rfl, hx⟩)

theorem clone_Prp (I : IMap) (v : Value) (l : List Prp) (hv : RdS I v l) (hl : l.length ≤ 1000000) :
    FnX Tryz.prog 111 #[v] I [] (fun u r => ∃ xss, r = .row u 137 2 l.length xss.flatten ∧ FlatC I xss l) := by
 have hv0 := hv
 obtain ⟨A, c0, rfl, hA, hc, hm⟩ := hv
 refine enter Tryz.func111 Tryz.call111 rfl Tryz.ntmps111 rfl (fun w0 => ?_)
 refine go 9 ?_
 refine o_v rfl (v_seqnil he rfl) ?_
 refine go 2 ?_
 refine cb rfl (fun h4 p4 => ?_) (fun h4 p4 => ?_)
 ·obtain rfl : l = [] := List.eq_nil_of_length_eq_zero (by rcases Nat.eq_zero_or_pos l.length with h | h; exact h; obtain ⟨_, _, e, _⟩ := hA h; subst e; cases h4)
  refine sx_nilrow 137 2 ?_
  refine go 7 ?_
  refine fin1 rfl rfl ?_
  exact q_x ⟨[], rfl, .nil⟩
 ·refine go 5 ?_
  refine o_buildSlice he he rfl rfl rfl rfl rfl rfl rfl (fun v5 => ?_)
  refine go 2 ?_
  refine o_appendR (hv0) rfl he he rfl rfl rfl rfl (by omega) (by omega) rfl (fun v7 x7 f7 => ?_)
  refine go 4 ?_
  refine fin1 rfl rfl ?_
  exact q_x (by obtain ⟨xss, rfl, hx⟩ := FlatC.of f7; exact ⟨xss, by rw [Nat.zero_add]; rfl, hx⟩)


theorem ext_overlaps_Part (args : Array Value) (w : World) : (callFunc 139 args).run Tryz.prog w = ((Extern.SlicesOverlaps.overlaps #[67, 67] #[4] args).run Tryz.prog w).andThen fun v w' => .ok (.value v) w' := by
  have h1 : Extern.findNext Tryz.f139 = none := by kernel_rfl
  have h2 : Extern.find Tryz.f139 = some (Extern.SlicesOverlaps.overlaps #[67, 67] #[4]) := by kernel_rfl
  have h3 : (Tryz.f139.name == "runtime.NumGoroutine") = false := by kernel_rfl
  have h4 : Tryz.f139.body.isNone = true := rfl
  simp only [callFunc, Sem.run_bind, run_program, Result.andThen_ok, Tryz.func139, h3, h4, h1, h2]
  simp
theorem overlaps_Part (I : IMap) (b g la ca lb cb o : Nat) (c : List Value) (cs : List Value) (tt : Nat) (B : Option Addr) (hB : B = some ⟨g, o, none⟩) (hb : I b = some (.cells c.toArray tt (0, 0))) (hcs : cs.length ≠ 0) :
    FnK Tryz.prog 139 #[.slice (some ⟨b, 0, none⟩) la ca, .slice B lb cb] I (.blk g 124 cs) (fun u => u = .bool false) := by
  subst hB
  refine ⟨fun w m => ?_⟩
  unfold After
  have hg : w.heap[g]? = some (.cells cs.toArray 124 (0, 0)) := m.blk
  have hbw := m.con b _ hb
  have hne : b ≠ g := by
    rintro rfl
    have := (m.priv _ (List.mem_cons_self ..) b rfl).1
    rw [hb] at this; cases this
  rw [ext_overlaps_Part, Lib.run_overlaps_apart (P := Tryz.prog) w 67 4 124 he 14 (fun w => (tyK_spec he w).2) ⟨b, 0, none⟩ ⟨g, o, none⟩ la ca lb cb hne tt 124 c.length cs.length (by simp [World.shape?, hbw]) (by simp [World.shape?, hg]) hcs (by simp [World.frozen?, hbw]) (by simp [World.frozen?, hbw])]
  exact ⟨_, I, [_], rfl, m, rfl, rfl, rfl⟩

theorem insertNil_Part (I : IMap) (y : Value) (x : Part) (hy : RdS I y [x]) :
    FnX Tryz.prog 103 #[.slice none 0 0, .int .i64 0, y] I [] (fun u r => ∃ zss, r = .row u 124 14 1 zss.flatten ∧ FlatC I zss [x]) := by
 have hy0 := hy
 obtain ⟨Y, yc, rfl, hA, hc, hm⟩ := hy
 refine enter Tryz.func103 Tryz.call103 rfl Tryz.ntmps103 rfl (fun w0 => ?_)
 refine sx_nilrow 124 14 ?_
 refine go 9 ?_
 refine o_v rfl (v_slice_lo he rfl rfl 0 rfl (Nat.le_refl _)) ?_
 refine go 16 ?_
 refine c_false rfl ?_
 refine go 17 ?_
 refine c_true rfl ?_
 refine go 5 ?_
 refine o_appendR (hy0) rfl he he rfl rfl rfl rfl (by simp) (by simp) rfl (fun v25 x25 f25 => ?_)
 refine go 5 ?_
 refine fin1 rfl rfl ?_
 exact q_x (by obtain ⟨xss, rfl, hx⟩ := FlatC.of f25; exact ⟨xss, rfl, hx⟩)

theorem insertBlk_Part (I : IMap) (l : List Part) (xss rest : List (List Value)) (g cap i b yc : Nat) (hx : FlatC I xss l) (hR : Uk 14 rest) (hcap : l.length + rest.length = cap) (hmax : cap ≤ maxLen) (hl : l.length ≤ 1000000) (hi : i ≤ l.length) (x : Part) (c c2 : List Value) (hb : I b = some (.cells (c ++ c2).toArray 124 (0, 0))) (hc : Enc.rd I c x) (hyc : 1 ≤ yc) (hyc2 : yc ≤ 9223372036854775807) :
    FnX Tryz.prog 103 #[.slice (some ⟨g, 0, none⟩) l.length cap, .int .i64 (i : Nat), .slice (some ⟨b, 0, none⟩) 1 yc] I [(.blk g 124 (xss ++ rest).flatten)] (fun u r => ∃ zss, r = .row u 124 14 (l.length + 1) zss.flatten ∧ FlatC I zss (l.take i ++ x :: l.drop i)) := by
 have hU : Uk 14 xss := hx.uk
 have hlen := hx.len
 have hV1 : Uk 14 [c] := (fun d hd => by rw [List.mem_singleton.1 hd]; exact Enc.len hc)
 have hcI : ICells I b 0 c := (fun j u hu => ⟨_, _, _, hb, by rw [Nat.zero_add]; simpa using (List.getElem?_append_left (List.getElem?_eq_some_iff.1 hu).1).trans hu⟩)
 have hY : RdS I (.slice (some ⟨b, 0, none⟩) 1 yc) [x] := ⟨_, yc, rfl, fun _ => ⟨b, 0, rfl, fun q z hq => by cases q with | zero => (cases hq; exact ⟨c, by simpa using hcI, hc⟩) | succ q => simp at hq⟩, hyc, hyc2⟩
 refine enter Tryz.func103 Tryz.call103 rfl Tryz.ntmps103 rfl (fun w0 => ?_)
 refine go 9 ?_
 refine o_v rfl (v_slice_lo he rfl rfl i rfl hi) ?_
 refine go 16 ?_
 refine c_false rfl ?_
 refine go 17 ?_
 refine cb rfl (fun h22 p22 => ?_) (fun h22 p22 => ?_)
 ·obtain rfl : i = l.length := by omega
  refine go 5 ?_
  refine sx_unrow hU hR hlen hcap hmax ?_
  refine o_appendR (hY) rfl he he rfl rfl rfl rfl (by simp; omega) (by simp; omega) rfl (fun v25 x25 f25 => ?_)
  refine go 5 ?_
  refine fin1 rfl rfl ?_
  exact q_x (by obtain ⟨zss, rfl, hz⟩ := FlatC.of f25; exact ⟨xss ++ zss, by rw [List.flatten_append]; rfl, by rw [List.take_length, List.drop_length]; exact hx.append hz⟩)
 ·refine go 9 ?_
  refine o_v rfl (v_cap he rfl) ?_
  refine go 3 ?_
  refine cb rfl (fun h31 p31 => ?_) (fun h31 p31 => ?_)
  ·refine go 4 ?_
   refine o_v rfl (v_slice_hi he rfl rfl i rfl (by omega)) ?_
   refine go 4 ?_
   refine o_v rfl (OV.cast (u := .int .i64 ((l.length + 1 - i : Nat) : Int)) (v_sub rfl rfl ⟨by omega, by omega⟩) (congrArg (Value.int .i64) (by omega))) ?_
   refine go 1 ?_
   refine o_appendMake (xss.take i) he he he rfl rfl rfl rfl (hU.append hR) (by rw [List.length_take]; omega) (hU.take i) (fun _ => ⟨rfl, by rw [List.take_append_of_le_length (by omega)]⟩) (by omega) (by omega) (by omega) (by unfold maxLen; omega) rfl (fun g40 r40 hr40 => ?_)
   refine go 7 ?_
   refine o_v rfl (v_slice_lo he rfl rfl i rfl (by omega)) ?_
   refine go 2 ?_
   have hU1 : Uk 14 (xss.take i ++ List.replicate (l.length + 1 - i + r40) _) := (hU.take i).append (Uk.rep (c := [.string ⟨#[]⟩, .string ⟨#[]⟩, .string ⟨#[]⟩, .string ⟨#[]⟩, .int .i64 0, .int .i64 0, .bool false, .slice none 0 0, .int .i64 0, .int .i64 0, .int .i64 0, .int .i64 0, .int .i64 0, .int .i64 0]) rfl _)
   refine o_copy [c] i he rfl rfl (by simp; omega) hU1 hV1 (by simpa using Enc.one hc) (fun _ => cutA_some (by omega)) (fun _ => ⟨b, 0, rfl, fun w mm j u hu => (hcI j u (by simpa using hu)).at_ mm.con⟩) (by simp; omega) rfl ?_
   refine go 3 ?_
   refine d_start1 T.mixed ?_
   refine d_tv 0 rfl rfl (by kernel_rfl) rfl (.cons _ (.refl _)) rfl (v_move rfl) ?_
   refine d_tv 1 rfl rfl (by kernel_rfl) rfl (.cons _ (.refl _)) rfl (v_move rfl) ?_
   refine d_tv 2 rfl rfl (by kernel_rfl) rfl (.cons _ (.refl _)) rfl (v_move rfl) ?_
   refine d_tv 3 rfl rfl (by kernel_rfl) rfl (.cons _ (.refl _)) rfl (v_add rfl rfl ⟨by omega, by omega⟩) ?_
   refine d_tv 4 rfl rfl (by kernel_rfl) rfl (.cons _ (.refl _)) rfl (v_slice_lo he rfl rfl (i + 1) (by omega) (by omega)) ?_
   refine d_tv 5 rfl rfl (by kernel_rfl) rfl (.cons _ (.refl _)) rfl (v_move rfl) ?_
   refine d_tv 6 rfl rfl (by kernel_rfl) rfl (.cons _ (.refl _)) rfl (v_move rfl) ?_
   refine d_tv 7 rfl rfl (by kernel_rfl) rfl (.cons _ (.refl _)) rfl (v_slice_lo he rfl rfl i rfl (by omega)) ?_
   refine d_one 8 (by kernel_rfl) rfl ?_
   have hU2 := ((hU1.take i).append (hV1.append (hU1.drop (i + [c].length))))
   refine o_copy (xss.drop i) (i + 1) he rfl rfl (by simp; omega) hU2 (hU.drop i) (hx.drop i).one (fun _ => cutA_some (by omega)) (fun h => ⟨g, i * 14, cutA_some (by simp at h; omega), fun w mm j u hu => src_blk (o := i) (m := l.length - i) m1 (hU.append hR) w mm j u (by rw [List.drop_append_of_le_length (by omega), List.take_append_of_le_length (by simp; omega), List.take_of_length_le (by simp; omega)]; exact hu)⟩) (by simp; omega) rfl ?_
   refine d_on (fun _ m => m.keeps (.cons _ (.refl _))) ?_
   refine d_done (by kernel_rfl) ?_
   refine go 9 ?_
   refine fin1 rfl rfl ?_
   refine bring1 ?_
   refine sx_drop ?_
   refine sx_blk_eq (ins_grow hlen hi (by omega)) ?_
   refine sx_unrow (m := i + (l.length + 1 - i)) (cap := i + (l.length + 1 - i) + r40) ((hU.take i).append (fun d hd => by rcases List.mem_cons.1 hd with rfl | hd; exact Enc.len hc; exact hU.drop i d hd)) (Uk.rep rfl _) (by simp <;> omega) (by simp <;> omega) (by omega) ?_
   exact q_x (by exact ⟨_, by congr 1 <;> omega, (hx.take i).append (.cons hc (hx.drop i))⟩)
  ·have hr1 : 0 < rest.length := by omega
   refine go 8 ?_
   refine o_v rfl (v_slice_hi he rfl rfl (l.length + 1) (by omega) (by omega)) ?_
   refine go 11 ?_
   refine o_v rfl (v_slice_lo he rfl rfl (i + 1) (by omega) (by omega)) ?_
   refine go 1 ?_
   refine o_callK (overlaps_Part I b g 1 yc _ _ _ (c ++ c2) _ 124 _ (cutA_some (k := 14) (show i + 1 < cap by omega)) hb (by rw [flat_len (hU.append hR), List.length_append]; omega)) rfl rfl (fun v67 q67 => ?_)
   obtain rfl := q67
   refine go 3 ?_
   refine c_true rfl ?_
   refine go 1 ?_
   refine d_start1 T.mixed ?_
   refine d_tv 0 rfl rfl (by kernel_rfl) rfl (.cons _ .slnil) rfl (v_move rfl) ?_
   refine d_tv 1 rfl rfl (by kernel_rfl) rfl (.cons _ .slnil) rfl (v_move rfl) ?_
   refine d_tv 2 rfl rfl (by kernel_rfl) rfl (.cons _ .slnil) rfl (v_move rfl) ?_
   refine d_tv 3 rfl rfl (by kernel_rfl) rfl (.cons _ .slnil) rfl (v_add rfl rfl ⟨by omega, by omega⟩) ?_
   refine d_tv 4 rfl rfl (by kernel_rfl) rfl (.cons _ .slnil) rfl (v_slice_lo he rfl rfl (i + 1) (by omega) (by omega)) ?_
   refine d_tv 5 rfl rfl (by kernel_rfl) rfl (.cons _ .slnil) rfl (v_move rfl) ?_
   refine d_tv 6 rfl rfl (by kernel_rfl) rfl (.cons _ .slnil) rfl (v_move rfl) ?_
   refine d_tv 7 rfl rfl (by kernel_rfl) rfl (.cons _ .slnil) rfl (v_slice_lo he rfl rfl i rfl (by omega)) ?_
   refine d_one 8 (by kernel_rfl) rfl ?_
   refine o_copy (((xss ++ rest).drop i).take (l.length - i)) (i + 1) he rfl rfl (by simp; omega) (hU.append hR) (((hU.append hR).drop i).take _) (by rw [List.drop_append_of_le_length (by omega), List.take_append_of_le_length (by simp; omega)]; exact ((hx.drop i).take _).one) (fun _ => cutA_some (by omega)) (fun h => ⟨g, i * 14, cutA_some (by omega), fun w mm j u hu => src_blk (o := i) m0 (hU.append hR) w mm j u hu⟩) (by simp; omega) rfl ?_
   refine d_on (fun _ m => m.keeps (.cons _ .slnil)) ?_
   refine d_done (by kernel_rfl) ?_
   refine go 5 ?_
   refine o_v rfl (v_slice_lo he rfl rfl i rfl (by omega)) ?_
   refine go 2 ?_
   have hU3 := (((hU.append hR).take (i + 1)).append ((((hU.append hR).drop i).take (l.length - i)).append ((hU.append hR).drop (i + 1 + (((xss ++ rest).drop i).take (l.length - i)).length))))
   refine o_copy [c] i he rfl rfl (by simp; omega) hU3 hV1 (by simpa using Enc.one hc) (fun _ => cutA_some (by omega)) (fun _ => ⟨b, 0, rfl, fun w mm j u hu => (hcI j u (by simpa using hu)).at_ mm.con⟩) (by simp; omega) rfl ?_
   refine go 10 ?_
   refine fin1 rfl rfl ?_
   refine sx_blk_eq (ins_place hlen hi hr1) ?_
   refine sx_unrow (m := l.length + 1) (cap := cap) ((hU.take i).append (fun d hd => by rcases List.mem_cons.1 hd with rfl | hd; exact Enc.len hc; exact hU.drop i d hd)) (hR.drop 1) (by simp <;> omega) (by simp <;> omega) hmax ?_
   exact q_x (by exact ⟨_, by congr 1 <;> omega, (hx.take i).append (.cons hc (hx.drop i))⟩)

theorem ext_overlaps_Prp (args : Array Value) (w : World) : (callFunc 146 args).run Tryz.prog w = ((Extern.SlicesOverlaps.overlaps #[120, 120] #[4] args).run Tryz.prog w).andThen fun v w' => .ok (.value v) w' := by
  have h1 : Extern.findNext Tryz.f146 = none := by kernel_rfl
  have h2 : Extern.find Tryz.f146 = some (Extern.SlicesOverlaps.overlaps #[120, 120] #[4]) := by kernel_rfl
  have h3 : (Tryz.f146.name == "runtime.NumGoroutine") = false := by kernel_rfl
  have h4 : Tryz.f146.body.isNone = true := rfl
  simp only [callFunc, Sem.run_bind, run_program, Result.andThen_ok, Tryz.func146, h3, h4, h1, h2]
  simp
theorem overlaps_Prp (I : IMap) (b g la ca lb cb o : Nat) (c : List Value) (cs : List Value) (tt : Nat) (B : Option Addr) (hB : B = some ⟨g, o, none⟩) (hb : I b = some (.cells c.toArray tt (0, 0))) (hcs : cs.length ≠ 0) :
    FnK Tryz.prog 146 #[.slice (some ⟨b, 0, none⟩) la ca, .slice B lb cb] I (.blk g 137 cs) (fun u => u = .bool false) := by
  subst hB
  refine ⟨fun w m => ?_⟩
  unfold After
  have hg : w.heap[g]? = some (.cells cs.toArray 137 (0, 0)) := m.blk
  have hbw := m.con b _ hb
  have hne : b ≠ g := by
    rintro rfl
    have := (m.priv _ (List.mem_cons_self ..) b rfl).1
    rw [hb] at this; cases this
  rw [ext_overlaps_Prp, Lib.run_overlaps_apart (P := Tryz.prog) w 120 4 137 he 2 (fun w => (tyK_spec he w).2) ⟨b, 0, none⟩ ⟨g, o, none⟩ la ca lb cb hne tt 137 c.length cs.length (by simp [World.shape?, hbw]) (by simp [World.shape?, hg]) hcs (by simp [World.frozen?, hbw]) (by simp [World.frozen?, hbw])]
  exact ⟨_, I, [_], rfl, m, rfl, rfl, rfl⟩

theorem insertNil_Prp (I : IMap) (y : Value) (x : Prp) (hy : RdS I y [x]) :
    FnX Tryz.prog 112 #[.slice none 0 0, .int .i64 0, y] I [] (fun u r => ∃ zss, r = .row u 137 2 1 zss.flatten ∧ FlatC I zss [x]) := by
 have hy0 := hy
 obtain ⟨Y, yc, rfl, hA, hc, hm⟩ := hy
 refine enter Tryz.func112 Tryz.call112 rfl Tryz.ntmps112 rfl (fun w0 => ?_)
 refine sx_nilrow 137 2 ?_
 refine go 9 ?_
 refine o_v rfl (v_slice_lo he rfl rfl 0 rfl (Nat.le_refl _)) ?_
 refine go 16 ?_
 refine c_false rfl ?_
 refine go 17 ?_
 refine c_true rfl ?_
 refine go 5 ?_
 refine o_appendR (hy0) rfl he he rfl rfl rfl rfl (by simp) (by simp) rfl (fun v25 x25 f25 => ?_)
 refine go 5 ?_
 refine fin1 rfl rfl ?_
 exact q_x (by obtain ⟨xss, rfl, hx⟩ := FlatC.of f25; exact ⟨xss, rfl, hx⟩)

theorem insertBlk_Prp (I : IMap) (l : List Prp) (xss rest : List (List Value)) (g cap i b yc : Nat) (hx : FlatC I xss l) (hR : Uk 2 rest) (hcap : l.length + rest.length = cap) (hmax : cap ≤ maxLen) (hl : l.length ≤ 1000000) (hi : i ≤ l.length) (x : Prp) (c c2 : List Value) (hb : I b = some (.cells (c ++ c2).toArray 137 (0, 0))) (hc : Enc.rd I c x) (hyc : 1 ≤ yc) (hyc2 : yc ≤ 9223372036854775807) :
    FnX Tryz.prog 112 #[.slice (some ⟨g, 0, none⟩) l.length cap, .int .i64 (i : Nat), .slice (some ⟨b, 0, none⟩) 1 yc] I [(.blk g 137 (xss ++ rest).flatten)] (fun u r => ∃ zss, r = .row u 137 2 (l.length + 1) zss.flatten ∧ FlatC I zss (l.take i ++ x :: l.drop i)) := by
 have hU : Uk 2 xss := hx.uk
 have hlen := hx.len
 have hV1 : Uk 2 [c] := (fun d hd => by rw [List.mem_singleton.1 hd]; exact Enc.len hc)
 have hcI : ICells I b 0 c := (fun j u hu => ⟨_, _, _, hb, by rw [Nat.zero_add]; simpa using (List.getElem?_append_left (List.getElem?_eq_some_iff.1 hu).1).trans hu⟩)
 have hY : RdS I (.slice (some ⟨b, 0, none⟩) 1 yc) [x] := ⟨_, yc, rfl, fun _ => ⟨b, 0, rfl, fun q z hq => by cases q with | zero => (cases hq; exact ⟨c, by simpa using hcI, hc⟩) | succ q => simp at hq⟩, hyc, hyc2⟩
 refine enter Tryz.func112 Tryz.call112 rfl Tryz.ntmps112 rfl (fun w0 => ?_)
 refine go 9 ?_
 refine o_v rfl (v_slice_lo he rfl rfl i rfl hi) ?_
 refine go 16 ?_
 refine c_false rfl ?_
 refine go 17 ?_
 refine cb rfl (fun h22 p22 => ?_) (fun h22 p22 => ?_)
 ·obtain rfl : i = l.length := by omega
  refine go 5 ?_
  refine sx_unrow hU hR hlen hcap hmax ?_
  refine o_appendR (hY) rfl he he rfl rfl rfl rfl (by simp; omega) (by simp; omega) rfl (fun v25 x25 f25 => ?_)
  refine go 5 ?_
  refine fin1 rfl rfl ?_
  exact q_x (by obtain ⟨zss, rfl, hz⟩ := FlatC.of f25; exact ⟨xss ++ zss, by rw [List.flatten_append]; rfl, by rw [List.take_length, List.drop_length]; exact hx.append hz⟩)
 ·refine go 9 ?_
  refine o_v rfl (v_cap he rfl) ?_
  refine go 3 ?_
  refine cb rfl (fun h31 p31 => ?_) (fun h31 p31 => ?_)
  ·refine go 4 ?_
   refine o_v rfl (v_slice_hi he rfl rfl i rfl (by omega)) ?_
   refine go 4 ?_
   refine o_v rfl (OV.cast (u := .int .i64 ((l.length + 1 - i : Nat) : Int)) (v_sub rfl rfl ⟨by omega, by omega⟩) (congrArg (Value.int .i64) (by omega))) ?_
   refine go 1 ?_
   refine o_appendMake (xss.take i) he he he rfl rfl rfl rfl (hU.append hR) (by rw [List.length_take]; omega) (hU.take i) (fun _ => ⟨rfl, by rw [List.take_append_of_le_length (by omega)]⟩) (by omega) (by omega) (by omega) (by unfold maxLen; omega) rfl (fun g40 r40 hr40 => ?_)
   refine go 7 ?_
   refine o_v rfl (v_slice_lo he rfl rfl i rfl (by omega)) ?_
   refine go 2 ?_
   have hU1 : Uk 2 (xss.take i ++ List.replicate (l.length + 1 - i + r40) _) := (hU.take i).append (Uk.rep (c := [.string ⟨#[]⟩, .string ⟨#[]⟩]) rfl _)
   refine o_copy [c] i he rfl rfl (by simp; omega) hU1 hV1 (by simpa using Enc.one hc) (fun _ => cutA_some (by omega)) (fun _ => ⟨b, 0, rfl, fun w mm j u hu => (hcI j u (by simpa using hu)).at_ mm.con⟩) (by simp; omega) rfl ?_
   refine go 3 ?_
   refine d_start1 T.mixed ?_
   refine d_tv 0 rfl rfl (by kernel_rfl) rfl (.cons _ (.refl _)) rfl (v_move rfl) ?_
   refine d_tv 1 rfl rfl (by kernel_rfl) rfl (.cons _ (.refl _)) rfl (v_move rfl) ?_
   refine d_tv 2 rfl rfl (by kernel_rfl) rfl (.cons _ (.refl _)) rfl (v_move rfl) ?_
   refine d_tv 3 rfl rfl (by kernel_rfl) rfl (.cons _ (.refl _)) rfl (v_add rfl rfl ⟨by omega, by omega⟩) ?_
   refine d_tv 4 rfl rfl (by kernel_rfl) rfl (.cons _ (.refl _)) rfl (v_slice_lo he rfl rfl (i + 1) (by omega) (by omega)) ?_
   refine d_tv 5 rfl rfl (by kernel_rfl) rfl (.cons _ (.refl _)) rfl (v_move rfl) ?_
   refine d_tv 6 rfl rfl (by kernel_rfl) rfl (.cons _ (.refl _)) rfl (v_move rfl) ?_
   refine d_tv 7 rfl rfl (by kernel_rfl) rfl (.cons _ (.refl _)) rfl (v_slice_lo he rfl rfl i rfl (by omega)) ?_
   refine d_one 8 (by kernel_rfl) rfl ?_
   have hU2 := ((hU1.take i).append (hV1.append (hU1.drop (i + [c].length))))
   refine o_copy (xss.drop i) (i + 1) he rfl rfl (by simp; omega) hU2 (hU.drop i) (hx.drop i).one (fun _ => cutA_some (by omega)) (fun h => ⟨g, i * 2, cutA_some (by simp at h; omega), fun w mm j u hu => src_blk (o := i) (m := l.length - i) m1 (hU.append hR) w mm j u (by rw [List.drop_append_of_le_length (by omega), List.take_append_of_le_length (by simp; omega), List.take_of_length_le (by simp; omega)]; exact hu)⟩) (by simp; omega) rfl ?_
   refine d_on (fun _ m => m.keeps (.cons _ (.refl _))) ?_
   refine d_done (by kernel_rfl) ?_
   refine go 9 ?_
   refine fin1 rfl rfl ?_
   refine bring1 ?_
   refine sx_drop ?_
   refine sx_blk_eq (ins_grow hlen hi (by omega)) ?_
   refine sx_unrow (m := i + (l.length + 1 - i)) (cap := i + (l.length + 1 - i) + r40) ((hU.take i).append (fun d hd => by rcases List.mem_cons.1 hd with rfl | hd; exact Enc.len hc; exact hU.drop i d hd)) (Uk.rep rfl _) (by simp <;> omega) (by simp <;> omega) (by omega) ?_
   exact q_x (by exact ⟨_, by congr 1 <;> omega, (hx.take i).append (.cons hc (hx.drop i))⟩)
  ·have hr1 : 0 < rest.length := by omega
   refine go 8 ?_
   refine o_v rfl (v_slice_hi he rfl rfl (l.length + 1) (by omega) (by omega)) ?_
   refine go 11 ?_
   refine o_v rfl (v_slice_lo he rfl rfl (i + 1) (by omega) (by omega)) ?_
   refine go 1 ?_
   refine o_callK (overlaps_Prp I b g 1 yc _ _ _ (c ++ c2) _ 137 _ (cutA_some (k := 2) (show i + 1 < cap by omega)) hb (by rw [flat_len (hU.append hR), List.length_append]; omega)) rfl rfl (fun v67 q67 => ?_)
   obtain rfl := q67
   refine go 3 ?_
   refine c_true rfl ?_
   refine go 1 ?_
   refine d_start1 T.mixed ?_
   refine d_tv 0 rfl rfl (by kernel_rfl) rfl (.cons _ .slnil) rfl (v_move rfl) ?_
   refine d_tv 1 rfl rfl (by kernel_rfl) rfl (.cons _ .slnil) rfl (v_move rfl) ?_
   refine d_tv 2 rfl rfl (by kernel_rfl) rfl (.cons _ .slnil) rfl (v_move rfl) ?_
   refine d_tv 3 rfl rfl (by kernel_rfl) rfl (.cons _ .slnil) rfl (v_add rfl rfl ⟨by omega, by omega⟩) ?_
   refine d_tv 4 rfl rfl (by kernel_rfl) rfl (.cons _ .slnil) rfl (v_slice_lo he rfl rfl (i + 1) (by omega) (by omega)) ?_
   refine d_tv 5 rfl rfl (by kernel_rfl) rfl (.cons _ .slnil) rfl (v_move rfl) ?_
   refine d_tv 6 rfl rfl (by kernel_rfl) rfl (.cons _ .slnil) rfl (v_move rfl) ?_
   refine d_tv 7 rfl rfl (by kernel_rfl) rfl (.cons _ .slnil) rfl (v_slice_lo he rfl rfl i rfl (by omega)) ?_
   refine d_one 8 (by kernel_rfl) rfl ?_
   refine o_copy (((xss ++ rest).drop i).take (l.length - i)) (i + 1) he rfl rfl (by simp; omega) (hU.append hR) (((hU.append hR).drop i).take _) (by rw [List.drop_append_of_le_length (by omega), List.take_append_of_le_length (by simp; omega)]; exact ((hx.drop i).take _).one) (fun _ => cutA_some (by omega)) (fun h => ⟨g, i * 2, cutA_some (by omega), fun w mm j u hu => src_blk (o := i) m0 (hU.append hR) w mm j u hu⟩) (by simp; omega) rfl ?_
   refine d_on (fun _ m => m.keeps (.cons _ .slnil)) ?_
   refine d_done (by kernel_rfl) ?_
   refine go 5 ?_
   refine o_v rfl (v_slice_lo he rfl rfl i rfl (by omega)) ?_
   refine go 2 ?_
   have hU3 := (((hU.append hR).take (i + 1)).append ((((hU.append hR).drop i).take (l.length - i)).append ((hU.append hR).drop (i + 1 + (((xss ++ rest).drop i).take (l.length - i)).length))))
   refine o_copy [c] i he rfl rfl (by simp; omega) hU3 hV1 (by simpa using Enc.one hc) (fun _ => cutA_some (by omega)) (fun _ => ⟨b, 0, rfl, fun w mm j u hu => (hcI j u (by simpa using hu)).at_ mm.con⟩) (by simp; omega) rfl ?_
   refine go 10 ?_
   refine fin1 rfl rfl ?_
   refine sx_blk_eq (ins_place hlen hi hr1) ?_
   refine sx_unrow (m := l.length + 1) (cap := cap) ((hU.take i).append (fun d hd => by rcases List.mem_cons.1 hd with rfl | hd; exact Enc.len hc; exact hU.drop i d hd)) (hR.drop 1) (by simp <;> omega) (by simp <;> omega) hmax ?_
   exact q_x (by exact ⟨_, by congr 1 <;> omega, (hx.take i).append (.cons hc (hx.drop i))⟩)

theorem insert_Part (I : IMap) (v : Value) (l : List Part) (xss : List (List Value)) (i b yc : Nat) (hx : FlatC I xss l) (hl : l.length ≤ 1000000) (hi : i ≤ l.length) (x : Part) (c c2 : List Value) (hb : I b = some (.cells (c ++ c2).toArray 124 (0, 0))) (hc : Enc.rd I c x) (hyc : 1 ≤ yc) (hyc2 : yc ≤ 9223372036854775807) :
    FnX Tryz.prog 103 #[v, .int .i64 (i : Nat), .slice (some ⟨b, 0, none⟩) 1 yc] I [.row v 124 14 l.length xss.flatten] (fun u r => ∃ zss, r = .row u 124 14 (l.length + 1) zss.flatten ∧ FlatC I zss (l.take i ++ x :: l.drop i)) :=
  FnX.of_row (args := fun v => [v, .int .i64 (i : Nat), .slice (some ⟨b, 0, none⟩) 1 yc]) hx.uk hx.len (fun h0 => by
    obtain rfl := List.eq_nil_of_length_eq_zero h0
    obtain rfl : i = 0 := by simp at hi; omega
    have hcI : ICells I b 0 c := (fun j u hu => ⟨_, _, _, hb, by rw [Nat.zero_add]; simpa using (List.getElem?_append_left (List.getElem?_eq_some_iff.1 hu).1).trans hu⟩)
    exact insertNil_Part I _ x ⟨_, yc, rfl, fun _ => ⟨b, 0, rfl, fun q z hq => by cases q with | zero => (cases hq; exact ⟨c, by simpa using hcI, hc⟩) | succ q => simp at hq⟩, hyc, hyc2⟩)
    (fun g cap rest h1 h2 h3 => insertBlk_Part I l xss rest g cap i b yc hx h1 h2 h3 hl hi x c c2 hb hc hyc hyc2)

theorem put_Part (I : IMap) (v : Value) (l : List Part) (hv : RdS I v l) (hl : l.length ≤ 1000000) (x : Part) (B : Option Addr) (d : Nat) (hr : Enc.rd I (x.cells (.slice B x.props.length d)) x) (f : FuncId) (nm : Part → ByteArray) (hp : ∀ J, ILe I J → ∀ y vs, Enc.rd J vs y → FnV Tryz.prog f #[.agg vs.toArray] J (.string (nm y))) (hs : Srt nm l) :
    FnI Tryz.prog 72 #[v, .agg (x.cells (.slice B x.props.length d)).toArray, .func (.func f) #[] #[]] I (fun u J => RdS J u (putL nm l x)) := by
 refine enter Tryz.func72 Tryz.call72 rfl Tryz.ntmps72 rfl (fun w0 => ?_)
 refine go 3 ?_
 refine o_box _ rfl rfl rfl (fun g4 => ?_)
 refine go 1 ?_
 refine o_box _ rfl rfl rfl (fun g5 => ?_)
 refine go 9 ?_
 refine o_callV (hp _ (ILe.refl _) x _ hr) rfl rfl ?_
 refine sx_pub (fun Ig5 jg5 cg5 => ?_)
 have hv := hv.le jg5
 have hr := Enc.mono jg5 hr
 refine o_v rfl (v_makeFunc rfl rfl) ?_
 refine go 1 ?_
 refine o_callV (bsearch_Part Ig5 v l hv hl (nm x) _ [.pointer (some ⟨g5, 0, none⟩)] nm (fun y vs hr => put1_Part _ y vs hr (nm x) f nm (hp _ jg5 y vs hr) g5 cg5) hs) rfl rfl ?_
 refine go 11 ?_
 refine o_callX0 (clone_Part _ v l hv hl) rfl rfl (fun v20 s20 q20 => ?_)
 obtain ⟨xss, rfl, hx⟩ := q20
 refine go 9 ?_
 refine cb rfl (fun h21 p21 => ?_) (fun h21 p21 => ?_)
 ·have hlt := atF_lt h21
  refine sx_row hx.uk hx.len (fun h0 _ => absurd hlt (by omega)) (fun g20 cap20 rest20 e20 hr20 hc20 hm20 => ?_)
  subst e20
  refine go 5 ?_
  refine o_v rfl (v_idx he rfl rfl rfl (posF nm l (nm x)) (by omega) hlt) ?_
  refine go 1 ?_
  refine o_stc _ (posF nm l (nm x)) (hx.uk.append hr20) he rfl rfl rfl rfl (Enc.one hr) (Nat.zero_add _) (by rw [List.length_append, hx.len]; omega) ?_
  refine sx_blk_eq (List.set_append_left _ _ (by rw [hx.len]; exact hlt)) ?_
  refine sx_unrow (m := l.length) (cap := cap20) (hx.uk.set rfl _) hr20 (by simp [hx.len]) hc20 hm20 ?_
  refine go 10 ?_
  refine fin1 rfl rfl ?_
  refine sx_pubrow (l := l.set (posF nm l (nm x)) x) rfl (by simp) ((hx.set hr _).flat) (fun I9 j9 R9 => ?_)
  exact q_i (by simp only [putL, h21, if_true]; exact R9)
 ·refine go 8 ?_
  refine o_buildSlice he he rfl rfl rfl rfl rfl rfl rfl (fun v30 => ?_)
  refine sx_row (xss := [x.cells (.slice B x.props.length d)]) (fun d hd => by rw [List.mem_singleton.1 hd]; rfl) rfl (fun h => absurd h (by decide)) (fun b30 cap30 rest30 e30 hr30 hc30 hm30 => ?_)
  subst e30
  refine sx_pubB (fun I30 j30 B30 => ?_)
  have hx := hx.le j30
  have hv := hv.le j30
  have hr := Enc.mono j30 hr
  refine go 1 ?_
  refine o_callX1 (insert_Part _ _ l xss (posF nm l (nm x)) b30 cap30 hx hl (pos_le _ _ _) x _ rest30.flatten B30 hr (by omega) (by unfold maxLen at hm30; omega)) rfl rfl (fun v31 s31 q31 => ?_)
  obtain ⟨zss, rfl, hz⟩ := q31
  refine go 4 ?_
  refine fin1 rfl rfl ?_
  refine sx_pubrow (l := l.take (posF nm l (nm x)) ++ x :: l.drop (posF nm l (nm x))) rfl (by have := pos_le nm l (nm x); simp; omega) hz.flat (fun I9 j9 R9 => ?_)
  exact q_i (by simp only [putL, h21]; exact R9)

theorem insert_Prp (I : IMap) (v : Value) (l : List Prp) (xss : List (List Value)) (i b yc : Nat) (hx : FlatC I xss l) (hl : l.length ≤ 1000000) (hi : i ≤ l.length) (x : Prp) (c c2 : List Value) (hb : I b = some (.cells (c ++ c2).toArray 137 (0, 0))) (hc : Enc.rd I c x) (hyc : 1 ≤ yc) (hyc2 : yc ≤ 9223372036854775807) :
    FnX Tryz.prog 112 #[v, .int .i64 (i : Nat), .slice (some ⟨b, 0, none⟩) 1 yc] I [.row v 137 2 l.length xss.flatten] (fun u r => ∃ zss, r = .row u 137 2 (l.length + 1) zss.flatten ∧ FlatC I zss (l.take i ++ x :: l.drop i)) :=
  FnX.of_row (args := fun v => [v, .int .i64 (i : Nat), .slice (some ⟨b, 0, none⟩) 1 yc]) hx.uk hx.len (fun h0 => by
    obtain rfl := List.eq_nil_of_length_eq_zero h0
    obtain rfl : i = 0 := by simp at hi; omega
    have hcI : ICells I b 0 c := (fun j u hu => ⟨_, _, _, hb, by rw [Nat.zero_add]; simpa using (List.getElem?_append_left (List.getElem?_eq_some_iff.1 hu).1).trans hu⟩)
    exact insertNil_Prp I _ x ⟨_, yc, rfl, fun _ => ⟨b, 0, rfl, fun q z hq => by cases q with | zero => (cases hq; exact ⟨c, by simpa using hcI, hc⟩) | succ q => simp at hq⟩, hyc, hyc2⟩)
    (fun g cap rest h1 h2 h3 => insertBlk_Prp I l xss rest g cap i b yc hx h1 h2 h3 hl hi x c c2 hb hc hyc hyc2)

theorem put_Prp (I : IMap) (v : Value) (l : List Prp) (hv : RdS I v l) (hl : l.length ≤ 1000000) (x : Prp)  (hr : Enc.rd I (x.cells) x) (f : FuncId) (nm : Prp → ByteArray) (hp : ∀ J, ILe I J → ∀ y vs, Enc.rd J vs y → FnV Tryz.prog f #[.agg vs.toArray] J (.string (nm y))) (hs : Srt nm l) :
    FnI Tryz.prog 81 #[v, .agg (x.cells).toArray, .func (.func f) #[] #[]] I (fun u J => RdS J u (putL nm l x)) := by
 refine enter Tryz.func81 Tryz.call81 rfl Tryz.ntmps81 rfl (fun w0 => ?_)
 refine go 3 ?_
 refine o_box _ rfl rfl rfl (fun g4 => ?_)
 refine go 1 ?_
 refine o_box _ rfl rfl rfl (fun g5 => ?_)
 refine go 9 ?_
 refine o_callV (hp _ (ILe.refl _) x _ hr) rfl rfl ?_
 refine sx_pub (fun Ig5 jg5 cg5 => ?_)
 have hv := hv.le jg5
 have hr := Enc.mono jg5 hr
 refine o_v rfl (v_makeFunc rfl rfl) ?_
 refine go 1 ?_
 refine o_callV (bsearch_Prp Ig5 v l hv hl (nm x) _ [.pointer (some ⟨g5, 0, none⟩)] nm (fun y vs hr => put1_Prp _ y vs hr (nm x) f nm (hp _ jg5 y vs hr) g5 cg5) hs) rfl rfl ?_
 refine go 11 ?_
 refine o_callX0 (clone_Prp _ v l hv hl) rfl rfl (fun v20 s20 q20 => ?_)
 obtain ⟨xss, rfl, hx⟩ := q20
 refine go 9 ?_
 refine cb rfl (fun h21 p21 => ?_) (fun h21 p21 => ?_)
 ·have hlt := atF_lt h21
  refine sx_row hx.uk hx.len (fun h0 _ => absurd hlt (by omega)) (fun g20 cap20 rest20 e20 hr20 hc20 hm20 => ?_)
  subst e20
  refine go 5 ?_
  refine o_v rfl (v_idx he rfl rfl rfl (posF nm l (nm x)) (by omega) hlt) ?_
  refine go 1 ?_
  refine o_stc _ (posF nm l (nm x)) (hx.uk.append hr20) he rfl rfl rfl rfl (Enc.one hr) (Nat.zero_add _) (by rw [List.length_append, hx.len]; omega) ?_
  refine sx_blk_eq (List.set_append_left _ _ (by rw [hx.len]; exact hlt)) ?_
  refine sx_unrow (m := l.length) (cap := cap20) (hx.uk.set rfl _) hr20 (by simp [hx.len]) hc20 hm20 ?_
  refine go 10 ?_
  refine fin1 rfl rfl ?_
  refine sx_pubrow (l := l.set (posF nm l (nm x)) x) rfl (by simp) ((hx.set hr _).flat) (fun I9 j9 R9 => ?_)
  exact q_i (by simp only [putL, h21, if_true]; exact R9)
 ·refine go 8 ?_
  refine o_buildSlice he he rfl rfl rfl rfl rfl rfl rfl (fun v30 => ?_)
  refine sx_row (xss := [x.cells]) (fun d hd => by rw [List.mem_singleton.1 hd]; rfl) rfl (fun h => absurd h (by decide)) (fun b30 cap30 rest30 e30 hr30 hc30 hm30 => ?_)
  subst e30
  refine sx_pubB (fun I30 j30 B30 => ?_)
  have hx := hx.le j30
  have hv := hv.le j30
  have hr := Enc.mono j30 hr
  refine go 1 ?_
  refine o_callX1 (insert_Prp _ _ l xss (posF nm l (nm x)) b30 cap30 hx hl (pos_le _ _ _) x _ rest30.flatten B30 hr (by omega) (by unfold maxLen at hm30; omega)) rfl rfl (fun v31 s31 q31 => ?_)
  obtain ⟨zss, rfl, hz⟩ := q31
  refine go 4 ?_
  refine fin1 rfl rfl ?_
  refine sx_pubrow (l := l.take (posF nm l (nm x)) ++ x :: l.drop (posF nm l (nm x))) rfl (by have := pos_le nm l (nm x); simp; omega) hz.flat (fun I9 j9 R9 => ?_)
  exact q_i (by simp only [putL, h21]; exact R9)

end Go.Proofs.YtkmdojpfccjnoaaGreat
