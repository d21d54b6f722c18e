/- The library of a symbolic run and the walks: merged. -/
import Derived.Test.YtoadjlmbdliceaaGreatZQb
/- Walks, printed by a program out of the code of the functions: each theorem is a contract of one function. -/
namespace Go.Proofs.YtoadjlmbdliceaaGreat
open Go Go.Sx
set_option linter.all false
set_option maxRecDepth 20000
set_option maxHeartbeats 4000000
instance T.by_170 : Has (bytesK Tryz.prog 170) ([.string ⟨#[]⟩, .string ⟨#[]⟩, .string ⟨#[]⟩, .string ⟨#[]⟩, .int .i64 0, .int .i64 0, .bool false, .slice none 0 0, .int .i64 0, .int .i64 0, .int .i64 0, .int .i64 0, .int .i64 0, .int .i64 0], 14, 160) := ⟨by kernel_rfl⟩
instance T.by_183 : Has (bytesK Tryz.prog 183) ([.string ⟨#[]⟩, .string ⟨#[]⟩], 2, 32) := ⟨by kernel_rfl⟩
instance T.elt_166 : Has (eltK Tryz.prog 166) (183, 2) := ⟨by kernel_rfl⟩
instance T.fld_134_0 : Has (fldK Tryz.prog 134 0) (0, false, 1) := ⟨by kernel_rfl⟩
instance T.fld_164_0 : Has (fldK Tryz.prog 164 0) (0, false, 1) := ⟨by kernel_rfl⟩
instance T.fld_164_1 : Has (fldK Tryz.prog 164 1) (1, false, 1) := ⟨by kernel_rfl⟩
instance T.fld_168_0 : Has (fldK Tryz.prog 168 0) (0, true, 2) := ⟨by kernel_rfl⟩
instance T.fld_168_1 : Has (fldK Tryz.prog 168 1) (2, true, 2) := ⟨by kernel_rfl⟩
instance T.fld_168_2 : Has (fldK Tryz.prog 168 2) (4, true, 2) := ⟨by kernel_rfl⟩
instance T.fld_170_0 : Has (fldK Tryz.prog 170 0) (0, false, 1) := ⟨by kernel_rfl⟩
instance T.fld_170_1 : Has (fldK Tryz.prog 170 1) (1, false, 1) := ⟨by kernel_rfl⟩
instance T.fld_170_2 : Has (fldK Tryz.prog 170 2) (2, false, 1) := ⟨by kernel_rfl⟩
instance T.fld_170_3 : Has (fldK Tryz.prog 170 3) (3, false, 1) := ⟨by kernel_rfl⟩
instance T.fld_170_4 : Has (fldK Tryz.prog 170 4) (4, false, 1) := ⟨by kernel_rfl⟩
instance T.fld_170_5 : Has (fldK Tryz.prog 170 5) (5, false, 1) := ⟨by kernel_rfl⟩
instance T.fld_170_6 : Has (fldK Tryz.prog 170 6) (6, false, 1) := ⟨by kernel_rfl⟩
instance T.fld_170_7 : Has (fldK Tryz.prog 170 7) (7, false, 1) := ⟨by kernel_rfl⟩
instance T.fld_170_8 : Has (fldK Tryz.prog 170 8) (8, true, 6) := ⟨by kernel_rfl⟩
instance T.fld_183_0 : Has (fldK Tryz.prog 183 0) (0, false, 1) := ⟨by kernel_rfl⟩
instance T.fld_183_1 : Has (fldK Tryz.prog 183 1) (1, false, 1) := ⟨by kernel_rfl⟩
instance T.pl_164 : Has (plK Tryz.prog 164) [(0, 1), (1, 1)] := ⟨by kernel_rfl⟩
instance T.pl_170 : Has (plK Tryz.prog 170) [(0, 1), (1, 1), (2, 1), (3, 1), (4, 1), (5, 1), (6, 1), (7, 1), (8, 6)] := ⟨by kernel_rfl⟩
instance T.pl_205 : Has (plK Tryz.prog 205) [(0, 1), (1, 1)] := ⟨by kernel_rfl⟩
theorem T.sp_205 : strPairK Tryz.prog 205 = true := by kernel_rfl
instance T.ty_132 : Has (tyK Tryz.prog 132) (false, 1) := ⟨by kernel_rfl⟩
instance T.ty_134 : Has (tyK Tryz.prog 134) (true, 1) := ⟨by kernel_rfl⟩
instance T.ty_164 : Has (tyK Tryz.prog 164) (true, 2) := ⟨by kernel_rfl⟩
instance T.ty_166 : Has (tyK Tryz.prog 166) (false, 1) := ⟨by kernel_rfl⟩
instance T.ty_172 : Has (tyK Tryz.prog 172) (false, 1) := ⟨by kernel_rfl⟩
instance T.ty_183 : Has (tyK Tryz.prog 183) (true, 2) := ⟨by kernel_rfl⟩
instance T.ty_184 : Has (tyK Tryz.prog 184) (false, 1) := ⟨by kernel_rfl⟩
instance T.ty_205 : Has (tyK Tryz.prog 205) (true, 2) := ⟨by kernel_rfl⟩
instance T.ty_52 : Has (tyK Tryz.prog 52) (true, 2) := ⟨by kernel_rfl⟩
instance T.ty_99 : Has (tyK Tryz.prog 99) (false, 1) := ⟨by kernel_rfl⟩
instance T.und_155 : Has (Tryz.prog.underlying 155) (.int .u64) := ⟨by kernel_rfl⟩
instance T.und_166 : Has (Tryz.prog.underlying 166) (.slice 183) := ⟨by kernel_rfl⟩
instance T.und_202 : Has (Tryz.prog.underlying 202) (.map 205 4) := ⟨by kernel_rfl⟩
instance T.und_4 : Has (Tryz.prog.underlying 4) (.bool) := ⟨by kernel_rfl⟩
instance T.und_99 : Has (Tryz.prog.underlying 99) (.map 9 3) := ⟨by kernel_rfl⟩
instance T.zero_164 : Has (zeroK Tryz.prog 164) [.slice none 0 0, .map none] := ⟨by kernel_rfl⟩
instance T.zero_170 : Has (zeroK Tryz.prog 170) [.string ⟨#[]⟩, .string ⟨#[]⟩, .string ⟨#[]⟩, .string ⟨#[]⟩, .int .i64 0, .int .i64 0, .bool false, .slice none 0 0, .int .i64 0, .int .i64 0, .int .i64 0, .int .i64 0, .int .i64 0, .int .i64 0] := ⟨by kernel_rfl⟩
instance T.zero_183 : Has (zeroK Tryz.prog 183) [.string ⟨#[]⟩, .string ⟨#[]⟩] := ⟨by kernel_rfl⟩
instance T.zero_205 : Has (zeroK Tryz.prog 205) [.string ⟨#[]⟩, .string ⟨#[]⟩] := ⟨by kernel_rfl⟩
instance T.zv_3 : Has (zvK Tryz.prog 3) (.int .i64 0) := ⟨by kernel_rfl⟩
theorem flOf (I : IMap) (v : Value) (l : List Part) (hv : RdS I v l) :
    FnX Tryz.prog 129 #[.agg #[v]] I [] (fun u r => ∃ g kvs, u = .agg #[v, .map (some g)] ∧ r = .mp g (emap Value.string kvs) ∧ Ix kvs l) := by
 have hv0 := hv
 obtain ⟨A, c0, rfl, hA, hc, hm⟩ := hv
 refine enter Tryz.func129 Tryz.call129 rfl Tryz.ntmps129 rfl (fun w0 => ?_)
 refine go 3 ?_
 refine o_box _ rfl rfl rfl (fun g1 => ?_)
 refine go 1 ?_
 refine o_alloc he rfl (fun g2 => ?_)
 refine go 7 ?_
 refine o_map0 (Value.string) he rfl (fun r10 => ?_)
 refine go 1 ?_
 refine o_val rfl (v_build (pl := [(0, 1), (1, 1)]) he he rfl rfl) ?_
 refine go 1 ?_
 refine o_alloc he rfl (fun g3 => ?_)
 refine go 1 ?_
 refine o_stw _ he rfl rfl rfl rfl rfl rfl ?_
 refine go 12 ?_
 refine bring3 ?_
 refine bring3 ?_
 refine bring2 ?_
 refine bring3 ?_
 refine c_loop2 ((0 : Nat)) ([]) (fun i kvs => I)
  (fun i kvs => [(1, .pointer (some ⟨g1, 0, none⟩)), (2, .pointer (some ⟨g2, 0, none⟩)), (3, .pointer (some ⟨g3, 0, none⟩)), (13, .slice A l.length c0), (14, .int .i64 (l.length : Int)), (15, .int .i64 (i : Int))])
  (fun i kvs => [.mp r10 (emap Value.string kvs), .blk g3 164 [.slice A l.length c0, .map (some r10)], .blk g2 164 [.slice none 0 0, .map none], .blk g1 134 [.slice A l.length c0]])
  (fun i kvs => i ≤ l.length ∧ Ix kvs (l.take i))
  (fun i kvs => l.length - i) ⟨Nat.zero_le _, Ix.nil⟩ rfl sb rfl ?_
 intro i kvs ⟨hi, hx⟩
 refine go 6 ?_
 refine cb rfl (fun h16 p16 => ?_) (fun h16 p16 => ?_)
 ·have hlt : i < l.length := by omega
  refine go 7 ?_
  obtain ⟨b18, o18, w18, e18, c18, r18⟩ := RdA.at_ hA (i := i) hlt
  obtain ⟨q18, rfl, B18, d18, rfl, hB18, hd18, hm18⟩ := r18
  refine o_v rfl (v_idx he rfl rfl e18 (i) (by omega) hlt) ?_
  refine o_v rfl (v_ldIa he rfl c18 rfl) ?_
  refine go 1 ?_
  refine o_alloc he rfl (fun g5 => ?_)
  refine go 2 ?_
  refine o_stw _ he rfl rfl rfl rfl rfl rfl ?_
  refine go 8 ?_
  refine o_v rfl (v_get2 m1 (key_string he) he he (l[i].name) rfl rfl rfl rfl) ?_
  refine go 13 ?_
  refine cb rfl (fun h29 p29 => ?_) (fun h29 p29 => ?_)
  ·refine go 7 ?_
   refine bring1 ?_
   refine o_mapPut (_) (key_string he) he (l[i].name) rfl rfl rfl (rfl) ?_
   refine go 8 ?_
   refine bring1 ?_
   refine sx_drop ?_
   exact q_next2 (i + 1) (_) ⟨by omega, by rw [← take_succ_of hlt]; exact hx.put (by rw [List.length_take]; omega) (by simpa using h29)⟩ (by omega) rfl sb rfl
  ·refine go 8 ?_
   refine sx_drop ?_
   exact q_next2 (i + 1) (_) ⟨by omega, by rw [← take_succ_of hlt]; exact hx.skip (by simpa using h29)⟩ (by omega) rfl sb rfl
 ·refine go 9 ?_
  refine bring2 ?_
  refine o_stw _ he rfl rfl rfl rfl rfl rfl ?_
  refine go 3 ?_
  refine fin1 rfl ⟨_, _, _, rfl, m0, .inr ⟨_, he, rfl, rfl⟩⟩ ?_
  refine sx_drop ?_
  refine bring1 ?_
  refine sx_drop ?_
  refine bring1 ?_
  refine sx_drop ?_
  have e : i = l.length := (by omega)
  subst e
  rw [List.take_length] at hx
  exact q_x ⟨_, _, rfl, rfl, hx⟩

theorem flGet (I : IMap) (v : Value) (l : List Part) (hv : RdS I v l) (r : Nat) (kvs : List (ByteArray × Value)) (hx : Ix kvs l) (s : ByteArray) :
    FnK Tryz.prog 134 #[.agg #[v, .map (some r)], .string s] I (.mp r (emap Value.string kvs)) (PartIs I (findP l s)) := by
 obtain ⟨z, b, hz, hb, hfs, hfn⟩ := hx.look s
 obtain ⟨A, c0, rfl, hA, hc, hm⟩ := hv
 refine enter Tryz.func134 Tryz.call134 rfl Tryz.ntmps134 rfl (fun w0 => ?_)
 refine go 3 ?_
 refine o_box _ rfl rfl rfl (fun g2 => ?_)
 refine go 1 ?_
 refine o_alloc he rfl (fun g4 => ?_)
 refine go 8 ?_
 refine o_v rfl (v_get2 m2 (key_string he) he he (s) rfl rfl hz hb) ?_
 refine go 14 ?_
 refine cb rfl (fun h16 p16 => ?_) (fun h16 p16 => ?_)
 ·have hN := hfn (by simpa using h16)
  refine go 3 ?_
  refine o_val rfl (v_build (pl := [(0, 1), (1, 1), (2, 1), (3, 1), (4, 1), (5, 1), (6, 1), (7, 1), (8, 6)]) he he rfl rfl) ?_
  refine go 1 ?_
  refine o_stw _ he rfl rfl rfl rfl rfl rfl ?_
  refine go 5 ?_
  refine fin2 rfl ⟨_, _, _, rfl, m0, .inr ⟨_, he, rfl, rfl⟩⟩ rfl ?_
  refine sx_drop ?_
  refine sx_drop ?_
  exact q_k (PartIs.none hN)
 ·obtain ⟨i, hi, rfl, hF⟩ := hfs (by simpa using h16)
  refine go 7 ?_
  obtain ⟨b21, o21, w21, e21, c21, r21⟩ := RdA.at_ hA (i := i) hi
  obtain ⟨q21, rfl, B21, d21, rfl, hB21, hd21, hm21⟩ := r21
  refine o_v rfl (v_idx he rfl rfl e21 (i) rfl hi) ?_
  refine o_v rfl (v_ldIa he rfl c21 rfl) ?_
  refine go 1 ?_
  refine o_stw _ he rfl rfl rfl rfl rfl rfl ?_
  refine go 4 ?_
  refine fin2 rfl ⟨_, _, _, rfl, m0, .inr ⟨_, he, rfl, rfl⟩⟩ rfl ?_
  refine sx_drop ?_
  refine sx_drop ?_
  exact q_k (PartIs.of hF ⟨_, rfl, B21, d21, rfl, hB21, hd21, hm21⟩)

theorem ordered_Part (I : IMap) (v : Value) (l : List Part) (hv : RdS I v l) (f : FuncId) (nm : Part → ByteArray) (hp : ∀ x vs, Enc.rd I vs x → FnV Tryz.prog f #[.agg vs.toArray] I (.string (nm x))) :
    FnV Tryz.prog 161 #[v, .func (.func f) #[] #[]] I (.bool (ordF nm l)) := by
 obtain ⟨A, c0, rfl, hA, hc, hm⟩ := hv
 refine enter Tryz.func161 Tryz.call161 rfl Tryz.ntmps161 rfl (fun w0 => ?_)
 refine go 12 ?_
 refine c_loop (α := Nat) 1 (fun i => I)
  (fun i => [(0, .slice A l.length c0), (1, .func (.func f) #[] #[]), (5, .int .i64 (i : Int))])
  (fun i => [])
  (fun i => 1 ≤ i ∧ (i ≤ l.length ∨ i = 1) ∧ allP (ordAt nm) l i = true)
  (fun i => l.length - i) ⟨by omega, .inr rfl, ord_start (nm := nm) l⟩ rfl sb rfl ?_
 intro i ⟨h1, hi, hn⟩
 refine go 9 ?_
 refine cb rfl (fun h9 p9 => ?_) (fun h9 p9 => ?_)
 ·have hlt : i < l.length := by omega
  refine go 5 ?_
  refine d_startH T.mixed ?_
  refine d_tv 0 rfl rfl (by kernel_rfl) rfl .slnil rfl (v_move rfl) ?_
  refine d_tv 1 rfl rfl (by kernel_rfl) rfl .slnil rfl (v_move rfl) ?_
  refine d_tv 2 rfl rfl (by kernel_rfl) rfl .slnil rfl (v_move rfl) ?_
  refine d_tv 3 rfl rfl (by kernel_rfl) rfl .slnil rfl (v_sub rfl rfl ⟨by omega, by omega⟩) ?_
  obtain ⟨b16, o16, w16, e16, c16, r16⟩ := RdA.at_ hA (i := i - 1) (by omega)
  refine d_tv 4 rfl rfl (by kernel_rfl) rfl .slnil rfl (v_idx he rfl rfl e16 (i - 1) (by omega) (by omega)) ?_
  refine d_tv 5 rfl rfl (by kernel_rfl) rfl .slnil rfl (v_ldIa he rfl c16 (Enc.len r16)) ?_
  refine d_tv 7 rfl rfl (by kernel_rfl) rfl .slnil rfl (v_move rfl) ?_
  refine d_tv 8 rfl rfl (by kernel_rfl) rfl .slnil rfl (v_move rfl) ?_
  refine d_tv 9 rfl rfl (by kernel_rfl) rfl .slnil rfl (v_move rfl) ?_
  obtain ⟨b22, o22, w22, e22, c22, r22⟩ := RdA.at_ hA (i := i) hlt
  refine d_tv 10 rfl rfl (by kernel_rfl) rfl .slnil rfl (v_idx he rfl rfl e22 (i) (by omega) hlt) ?_
  refine d_tv 11 rfl rfl (by kernel_rfl) rfl .slnil rfl (v_ldIa he rfl c22 (Enc.len r22)) ?_
  refine d_one 6 (by kernel_rfl) rfl ?_
  refine o_callV (hp _ _ r16) rfl rfl ?_
  refine d_on (fun _ m => m.keeps .slnil) ?_
  refine d_one 12 (by kernel_rfl) rfl ?_
  refine o_callV (hp _ _ r22) rfl rfl ?_
  refine d_on (fun _ m => m.keeps .slnil) ?_
  refine d_tv 13 rfl rfl (by kernel_rfl) rfl .slnil rfl (v_sgeq rfl rfl) ?_
  refine d_done (by kernel_rfl) ?_
  refine go 1 ?_
  refine cb rfl (fun h25 p25 => ?_) (fun h25 p25 => ?_)
  ·refine go 11 ?_
   refine fin1 rfl rfl ?_
   exact q_v (congrArg Value.bool (ord_not h1 hlt (by simpa using h25)).symm)
  ·refine go 9 ?_
   exact q_next (i + 1) ⟨by omega, .inl (by omega), ord_succ h1 hlt hn (by simpa using h25)⟩ (by omega) rfl sb rfl
 ·refine go 11 ?_
  refine fin1 rfl rfl ?_
  exact q_v (congrArg Value.bool (show ordF nm l = true from allP_le (by omega) hn).symm)

theorem ordered_Prp (I : IMap) (v : Value) (l : List Prp) (hv : RdS I v l) (f : FuncId) (nm : Prp → ByteArray) (hp : ∀ x vs, Enc.rd I vs x → FnV Tryz.prog f #[.agg vs.toArray] I (.string (nm x))) :
    FnV Tryz.prog 194 #[v, .func (.func f) #[] #[]] I (.bool (ordF nm l)) := by
 obtain ⟨A, c0, rfl, hA, hc, hm⟩ := hv
 refine enter Tryz.func194 Tryz.call194 rfl Tryz.ntmps194 rfl (fun w0 => ?_)
 refine go 12 ?_
 refine c_loop (α := Nat) 1 (fun i => I)
  (fun i => [(0, .slice A l.length c0), (1, .func (.func f) #[] #[]), (5, .int .i64 (i : Int))])
  (fun i => [])
  (fun i => 1 ≤ i ∧ (i ≤ l.length ∨ i = 1) ∧ allP (ordAt nm) l i = true)
  (fun i => l.length - i) ⟨by omega, .inr rfl, ord_start (nm := nm) l⟩ rfl sb rfl ?_
 intro i ⟨h1, hi, hn⟩
 refine go 9 ?_
 refine cb rfl (fun h9 p9 => ?_) (fun h9 p9 => ?_)
 ·have hlt : i < l.length := by omega
  refine go 5 ?_
  refine d_startH T.mixed ?_
  refine d_tv 0 rfl rfl (by kernel_rfl) rfl .slnil rfl (v_move rfl) ?_
  refine d_tv 1 rfl rfl (by kernel_rfl) rfl .slnil rfl (v_move rfl) ?_
  refine d_tv 2 rfl rfl (by kernel_rfl) rfl .slnil rfl (v_move rfl) ?_
  refine d_tv 3 rfl rfl (by kernel_rfl) rfl .slnil rfl (v_sub rfl rfl ⟨by omega, by omega⟩) ?_
  obtain ⟨b16, o16, w16, e16, c16, r16⟩ := RdA.at_ hA (i := i - 1) (by omega)
  refine d_tv 4 rfl rfl (by kernel_rfl) rfl .slnil rfl (v_idx he rfl rfl e16 (i - 1) (by omega) (by omega)) ?_
  refine d_tv 5 rfl rfl (by kernel_rfl) rfl .slnil rfl (v_ldIa he rfl c16 (Enc.len r16)) ?_
  refine d_tv 7 rfl rfl (by kernel_rfl) rfl .slnil rfl (v_move rfl) ?_
  refine d_tv 8 rfl rfl (by kernel_rfl) rfl .slnil rfl (v_move rfl) ?_
  refine d_tv 9 rfl rfl (by kernel_rfl) rfl .slnil rfl (v_move rfl) ?_
  obtain ⟨b22, o22, w22, e22, c22, r22⟩ := RdA.at_ hA (i := i) hlt
  refine d_tv 10 rfl rfl (by kernel_rfl) rfl .slnil rfl (v_idx he rfl rfl e22 (i) (by omega) hlt) ?_
  refine d_tv 11 rfl rfl (by kernel_rfl) rfl .slnil rfl (v_ldIa he rfl c22 (Enc.len r22)) ?_
  refine d_one 6 (by kernel_rfl) rfl ?_
  refine o_callV (hp _ _ r16) rfl rfl ?_
  refine d_on (fun _ m => m.keeps .slnil) ?_
  refine d_one 12 (by kernel_rfl) rfl ?_
  refine o_callV (hp _ _ r22) rfl rfl ?_
  refine d_on (fun _ m => m.keeps .slnil) ?_
  refine d_tv 13 rfl rfl (by kernel_rfl) rfl .slnil rfl (v_sgeq rfl rfl) ?_
  refine d_done (by kernel_rfl) ?_
  refine go 1 ?_
  refine cb rfl (fun h25 p25 => ?_) (fun h25 p25 => ?_)
  ·refine go 11 ?_
   refine fin1 rfl rfl ?_
   exact q_v (congrArg Value.bool (ord_not h1 hlt (by simpa using h25)).symm)
  ·refine go 9 ?_
   exact q_next (i + 1) ⟨by omega, .inl (by omega), ord_succ h1 hlt hn (by simpa using h25)⟩ (by omega) rfl sb rfl
 ·refine go 11 ?_
  refine fin1 rfl rfl ?_
  exact q_v (congrArg Value.bool (show ordF nm l = true from allP_le (by omega) hn).symm)

theorem right1 (I : IMap) (x : Ivl) :
    FnV Tryz.prog 192 #[.agg x.cells.toArray] I (.bool (lifeOk x)) := by
 refine enter Tryz.func192 Tryz.call192 rfl Tryz.ntmps192 rfl (fun w0 => ?_)
 refine go 3 ?_
 refine o_box _ rfl rfl rfl (fun g1 => ?_)
 refine go 9 ?_
 refine sxb 6 rfl (fun h6 p6 => ?_) (fun h6 p6 => ?_)
 ·refine go 7 ?_
  refine sxb 13 rfl (fun h13 p13 => ?_) (fun h13 p13 => ?_)
  ·refine go 8 ?_
   refine fin1 rfl rfl ?_
   exact q_v (congrArg Value.bool (by simp only [lifeOk, h6, h13, bS]))
  ·refine go 8 ?_
   refine fin1 rfl rfl ?_
   exact q_v (congrArg Value.bool (by simp only [lifeOk, h6, h13, bS]))
 ·refine go 15 ?_
  refine fin1 rfl rfl ?_
  exact q_v (congrArg Value.bool (by simp only [lifeOk, h6, bS]))

theorem right2 (I : IMap) (x : Prp) (hs : Sm x.key) :
    FnV Tryz.prog 193 #[.agg x.cells.toArray] I (.bool (propOk x)) := by
 refine enter Tryz.func193 Tryz.call193 rfl Tryz.ntmps193 rfl (fun w0 => ?_)
 refine go 3 ?_
 refine o_box _ rfl rfl rfl (fun g1 => ?_)
 refine go 8 ?_
 refine o_callV (lexName _ _ hs) rfl rfl ?_
 refine go 1 ?_
 refine sxb 6 rfl (fun h6 p6 => ?_) (fun h6 p6 => ?_)
 ·refine go 5 ?_
  refine sxb 11 rfl (fun h11 p11 => ?_) (fun h11 p11 => ?_)
  ·refine go 9 ?_
   refine fin1 rfl rfl ?_
   exact q_v (congrArg Value.bool (by simp only [propOk, h6, h11, bS]))
  ·refine go 9 ?_
   refine fin1 rfl rfl ?_
   exact q_v (congrArg Value.bool (by simp only [propOk, h6, h11, bS]))
 ·refine go 14 ?_
  refine fin1 rfl rfl ?_
  exact q_v (congrArg Value.bool (by simp only [propOk, h6, bS]))

theorem right3 (I : IMap) (x : Prp) (vs : List Value) (h : Enc.rd I vs x) :
    FnV Tryz.prog 195 #[.agg vs.toArray] I (.string x.key) := by
 obtain rfl := h
 refine enter Tryz.func195 Tryz.call195 rfl Tryz.ntmps195 rfl (fun w0 => ?_)
 refine go 3 ?_
 refine o_box _ rfl rfl rfl (fun g1 => ?_)
 refine go 11 ?_
 refine fin1 rfl rfl ?_
 exact q_v rfl

theorem valid1 (I : IMap) (x : Part) (vs : List Value) (h : Enc.rd I vs x) :
    FnV Tryz.prog 162 #[.agg vs.toArray] I (.string x.name) := by
 obtain ⟨q, rfl, B, d, rfl, hB, hd, hm⟩ := h
 refine enter Tryz.func162 Tryz.call162 rfl Tryz.ntmps162 rfl (fun w0 => ?_)
 refine go 3 ?_
 refine o_box _ rfl rfl rfl (fun g1 => ?_)
 refine go 11 ?_
 refine fin1 rfl rfl ?_
 exact q_v rfl

theorem apply11 (I : IMap) (x : Part) (vs : List Value) (h : Enc.rd I vs x) :
    FnV Tryz.prog 132 #[.agg vs.toArray] I (.string x.name) := by
 obtain ⟨q, rfl, B, d, rfl, hB, hd, hm⟩ := h
 refine enter Tryz.func132 Tryz.call132 rfl Tryz.ntmps132 rfl (fun w0 => ?_)
 refine go 3 ?_
 refine o_box _ rfl rfl rfl (fun g1 => ?_)
 refine go 11 ?_
 refine fin1 rfl rfl ?_
 exact q_v rfl

theorem apply5 (I : IMap) (x : Prp) (vs : List Value) (h : Enc.rd I vs x) :
    FnV Tryz.prog 141 #[.agg vs.toArray] I (.string x.key) := by
 obtain rfl := h
 refine enter Tryz.func141 Tryz.call141 rfl Tryz.ntmps141 rfl (fun w0 => ?_)
 refine go 3 ?_
 refine o_box _ rfl rfl rfl (fun g1 => ?_)
 refine go 11 ?_
 refine fin1 rfl rfl ?_
 exact q_v rfl

theorem flRight (I : IMap) (v : Value) (l : List Kind) (hv : RdS I v l) (p : Part) (D : Option Addr) (d : Nat) (hD : RdS I (.slice D p.props.length d) p.props) (hs : SmP p) :
    FnV Tryz.prog 163 #[.agg #[v], .agg (p.cells (.slice D p.props.length d)).toArray] I (.bool (rightP l p)) := by
 have hDA : RdA I D p.props := (by obtain ⟨_, _, e, h, _⟩ := hD; cases e; exact h)
 have hDl : p.props.length ≤ d ∧ d ≤ 9223372036854775807 := (by obtain ⟨_, _, e, h, h1, h2⟩ := hD; cases e; exact ⟨h1, h2⟩)
 refine enter Tryz.func163 Tryz.call163 rfl Tryz.ntmps163 rfl (fun w0 => ?_)
 refine go 3 ?_
 refine o_box _ rfl rfl rfl (fun g2 => ?_)
 refine go 1 ?_
 refine o_box _ rfl rfl rfl (fun g3 => ?_)
 refine go 20 ?_
 refine o_callE (catFind I _ l hv p.kind) rfl rfl (fun v15 q15 => ?_)
 obtain ⟨vs, rfl, ss, rfl, hsl⟩ := q15
 refine go 4 ?_
 refine o_alloc he rfl (fun g7 => ?_)
 refine go 1 ?_
 refine o_stw _ he rfl rfl rfl rfl rfl (by simp [Kind.cells, hsl.one]; exact ⟨rfl, rfl⟩) ?_
 refine go 4 ?_
 refine c_cut (I' := I) (L' := [(2, .pointer (some ⟨g2, 0, none⟩)), (3, .pointer (some ⟨g3, 0, none⟩)), (5, .func (.func 192) #[] #[]), (6, .func (.func 193) #[] #[]), (48, .bool (partBad l p))]) (H' := [.blk g3 170 (p.cells (.slice D p.props.length d)), .blk g2 24 [v]]) ?_ ?_
 ·refine go 4 ?_
  refine sxb 20 rfl (fun h20 p20 => ?_) (fun h20 p20 => ?_)
  ·refine go 30 ?_
   refine sx_drop ?_
   exact q_cut ⟨rfl, rfl, rfl, rfl, (congrArg (fun b => some (Value.bool b)) (by simp only [partBad, h20, bS])), trivial⟩ rfl rfl
  ·refine go 3 ?_
   refine o_yes rfl rfl h20 (o_callV (lexName _ _ hs.1) rfl rfl ?_)
   refine go 3 ?_
   refine sxb 26 rfl (fun h26 p26 => ?_) (fun h26 p26 => ?_)
   ·refine go 24 ?_
    refine sx_drop ?_
    exact q_cut ⟨rfl, rfl, rfl, rfl, (congrArg (fun b => some (Value.bool b)) (by simp only [partBad, h20, h26, bS])), trivial⟩ rfl rfl
   ·refine go 5 ?_
    refine sxb 31 rfl (fun h31 p31 => ?_) (fun h31 p31 => ?_)
    ·refine go 19 ?_
     refine sx_drop ?_
     exact q_cut ⟨rfl, rfl, rfl, rfl, (congrArg (fun b => some (Value.bool b)) (by simp only [partBad, h20, h26, h31, bS])), trivial⟩ rfl rfl
    ·refine go 7 ?_
     refine sxb 38 rfl (fun h38 p38 => ?_) (fun h38 p38 => ?_)
     ·refine go 12 ?_
      refine sx_drop ?_
      exact q_cut ⟨rfl, rfl, rfl, rfl, (congrArg (fun b => some (Value.bool b)) (by simp only [partBad, h20, h26, h31, h38, bS])), trivial⟩ rfl rfl
     ·refine go 5 ?_
      refine sxb 43 rfl (fun h43 p43 => ?_) (fun h43 p43 => ?_)
      ·refine go 7 ?_
       refine sx_drop ?_
       exact q_cut ⟨rfl, rfl, rfl, rfl, (congrArg (fun b => some (Value.bool b)) (by simp only [partBad, h20, h26, h31, h38, h43, bS])), trivial⟩ rfl rfl
      ·refine go 7 ?_
       refine sx_drop ?_
       exact q_cut ⟨rfl, rfl, rfl, rfl, (congrArg (fun b => some (Value.bool b)) (by simp only [partBad, h20, h26, h31, h38, h43, bS])), trivial⟩ rfl rfl
 ·refine cb rfl (fun h48 p48 => ?_) (fun h48 p48 => ?_)
  ·refine go 7 ?_
   refine fin1 rfl rfl ?_
   exact q_v (congrArg Value.bool (by simp only [rightP, h48]; rfl))
  ·refine go 12 ?_
   refine c_loop (α := Nat) 0 (fun i => I)
    (fun i => [(2, .pointer (some ⟨g2, 0, none⟩)), (3, .pointer (some ⟨g3, 0, none⟩)), (5, .func (.func 192) #[] #[]), (6, .func (.func 193) #[] #[]), (50, .slice D p.props.length d), (51, .int .i64 (p.props.length : Int)), (52, .int .i64 (i : Int))])
    (fun i => [.blk g3 170 (p.cells (.slice D p.props.length d)), .blk g2 24 [v]])
    (fun i => i ≤ p.props.length ∧ allP (fun _ q => propOk q) p.props i = true)
    (fun i => p.props.length - i) ⟨Nat.zero_le _, rfl⟩ rfl sb rfl ?_
   intro i ⟨hi, hn⟩
   refine go 6 ?_
   refine cb rfl (fun h53 p53 => ?_) (fun h53 p53 => ?_)
   ·have hlt : i < p.props.length := by omega
    refine go 6 ?_
    obtain ⟨b54, o54, w54, e54, c54, r54⟩ := RdA.at_ hDA (i := i) hlt
    obtain rfl := r54
    refine o_v rfl (v_idx he rfl rfl e54 (i) (by omega) hlt) ?_
    refine o_v rfl (v_ldIa he rfl c54 rfl) ?_
    refine go 1 ?_
    refine o_alloc he rfl (fun g10 => ?_)
    refine go 1 ?_
    refine o_stw _ he rfl rfl rfl rfl rfl rfl ?_
    refine go 7 ?_
    refine o_callV (right2 _ p.props[i] (hs.2 _ (List.getElem_mem hlt))) rfl rfl ?_
    refine go 3 ?_
    refine cb rfl (fun h59 p59 => ?_) (fun h59 p59 => ?_)
    ·refine go 11 ?_
     refine fin1 rfl rfl ?_
     exact q_v (congrArg Value.bool (by simp only [rightP, h48, allP_not (f := fun _ q => propOk q) hlt (by simpa using h59), bS]))
    ·refine go 8 ?_
     refine sx_drop ?_
     exact q_next (i + 1) ⟨by omega, allP_succ hn hlt (by simpa using h59)⟩ (by omega) rfl sb rfl
   ·have hAll : allP (fun _ q => propOk q) p.props p.props.length = true := (show i = p.props.length by omega) ▸ hn
    refine go 10 ?_
    refine o_callV (ordered_Prp _ _ p.props hD _ Prp.key (fun x vs hr => right3 _ x vs hr)) rfl rfl ?_
    refine go 1 ?_
    refine sxb 64 rfl (fun h64 p64 => ?_) (fun h64 p64 => ?_)
    ·refine go 3 ?_
     refine o_cons (o_yes rfl rfl h64 (o_val rfl (v_ldp (p.life.km.cells) m0 he rfl rfl rfl) ?_))
     refine go 1 ?_
     refine o_yes rfl rfl h64 (o_callV (right1 _ p.life.km) rfl rfl ?_)
     refine go 2 ?_
     refine sxb 71 rfl (fun h71 p71 => ?_) (fun h71 p71 => ?_)
     ·refine go 3 ?_
      refine o_cons (o_yes rfl rfl h71 (o_val rfl (v_ldp (p.life.cycles.cells) m0 he rfl rfl rfl) ?_))
      refine go 1 ?_
      refine o_yes rfl rfl h71 (o_callV (right1 _ p.life.cycles) rfl rfl ?_)
      refine go 2 ?_
      refine sxb 78 rfl (fun h78 p78 => ?_) (fun h78 p78 => ?_)
      ·refine go 3 ?_
       refine o_cons (o_yes rfl rfl h78 (o_val rfl (v_ldp (p.life.damage.cells) m0 he rfl rfl rfl) ?_))
       refine go 1 ?_
       refine o_yes rfl rfl h78 (o_callV (right1 _ p.life.damage) rfl rfl ?_)
       refine go 5 ?_
       refine fin1 rfl rfl ?_
       exact q_v (congrArg Value.bool (by simp only [rightP, h48, hAll, h53, h64, h71, h78, bS]))
      ·refine go 10 ?_
       refine fin1 rfl rfl ?_
       exact q_v (congrArg Value.bool (by simp only [rightP, h48, hAll, h53, h64, h71, h78, bS]))
     ·refine go 17 ?_
      refine fin1 rfl rfl ?_
      exact q_v (congrArg Value.bool (by simp only [rightP, h48, hAll, h53, h64, h71, bS]))
    ·refine go 24 ?_
     refine fin1 rfl rfl ?_
     exact q_v (congrArg Value.bool (by simp only [rightP, h48, hAll, h53, h64, bS]))

theorem eqS_seat (p q : ByteArray × ByteArray) : eqV Tryz.prog 9 205 (enc2 p) (enc2 q) = some (decide (p = q)) := by
  have e : eqV Tryz.prog 9 205 (enc2 p) (enc2 q) = some (decide (p.1 = q.1) && (decide (p.2 = q.2) && true)) := by kernel_rfl
  rw [e]
  obtain ⟨a, b⟩ := p
  obtain ⟨c, d⟩ := q
  simp

theorem flValid (I : IMap) (vc : Value) (c : List Kind) (hvc : RdS I vc c) (hsc : SmC c) (v : Value) (l : List Part) (hv : RdS I v l) (hsf : SmF l) :
    FnV Tryz.prog 128 #[.agg #[vc], .agg #[v]] I (.bool (validS c l)) := by
 have hv0 := hv
 obtain ⟨A, c0, rfl, hA, hc, hm⟩ := hv
 refine enter Tryz.func128 Tryz.call128 rfl Tryz.ntmps128 rfl (fun w0 => ?_)
 refine go 3 ?_
 refine o_box _ rfl rfl rfl (fun g2 => ?_)
 refine go 1 ?_
 refine o_box _ rfl rfl rfl (fun g3 => ?_)
 refine go 5 ?_
 refine c_cut (I' := I) (L' := [(2, .pointer (some ⟨g2, 0, none⟩)), (3, .pointer (some ⟨g3, 0, none⟩)), (26, .bool (bad0S c l))]) (H' := [.blk g3 134 [.slice A l.length c0], .blk g2 24 [vc]]) ?_ ?_
 ·refine go 3 ?_
  refine o_callV (catValid _ _ c hvc hsc) rfl rfl ?_
  refine go 2 ?_
  refine sxb 15 rfl (fun h15 p15 => ?_) (fun h15 p15 => ?_)
  ·refine go 13 ?_
   exact q_cut ⟨rfl, rfl, (congrArg (fun b => some (Value.bool b)) (by simp only [bad0S, h15, bS])), trivial⟩ rfl rfl
  ·refine go 6 ?_
   refine sxb 21 rfl (fun h21 p21 => ?_) (fun h21 p21 => ?_)
   ·refine go 7 ?_
    exact q_cut ⟨rfl, rfl, (congrArg (fun b => some (Value.bool b)) (by simp only [bad0S, h15, h21, bS])), trivial⟩ rfl rfl
   ·refine go 3 ?_
    refine o_yes rfl rfl h21 (o_callV (ordered_Part _ _ l hv0 _ Part.name (fun x vs hr => valid1 _ x vs hr)) rfl rfl ?_)
    refine go 4 ?_
    exact q_cut ⟨rfl, rfl, (congrArg (fun b => some (Value.bool b)) (by simp only [bad0S, h15, h21, bS])), trivial⟩ rfl rfl
 ·refine cb rfl (fun h26 p26 => ?_) (fun h26 p26 => ?_)
  ·refine go 7 ?_
   refine fin1 rfl rfl ?_
   exact q_v (congrArg Value.bool (by simp only [validS, h26]; rfl))
  ·refine go 6 ?_
   refine o_callX0 (flOf _ _ l hv0) rfl rfl (fun v28 s28 q28 => ?_)
   obtain ⟨m28, kvs, rfl, rfl, hIx⟩ := q28
   refine go 1 ?_
   refine o_alloc he rfl (fun g5 => ?_)
   refine go 1 ?_
   refine o_stw _ he rfl rfl rfl rfl rfl rfl ?_
   refine go 5 ?_
   refine o_map0 (enc2) he rfl (fun r29 => ?_)
   refine go 13 ?_
   refine bring4 ?_
   refine bring4 ?_
   refine bring3 ?_
   refine bring4 ?_
   refine bring4 ?_
   refine c_loop (α := Nat) 0 (fun i => I)
    (fun i => [(2, .pointer (some ⟨g2, 0, none⟩)), (3, .pointer (some ⟨g3, 0, none⟩)), (5, .pointer (some ⟨g5, 0, none⟩)), (6, .map (some r29)), (31, .slice A l.length c0), (32, .int .i64 (l.length : Int)), (33, .int .i64 (i : Int))])
    (fun i => [.mp r29 (emap enc2 (kvsOf seatOf (fun _ => .bool true) (seated (l.take i)))), .mp m28 (emap Value.string kvs), .blk g5 164 [.slice A l.length c0, .map (some m28)], .blk g3 134 [.slice A l.length c0], .blk g2 24 [vc]])
    (fun i => i ≤ l.length ∧ allP (partFine c l) l i = true)
    (fun i => l.length - i) ⟨Nat.zero_le _, rfl⟩ rfl sb rfl ?_
   intro i ⟨hi, hn⟩
   refine go 6 ?_
   refine cb rfl (fun h34 p34 => ?_) (fun h34 p34 => ?_)
   ·have hlt : i < l.length := by omega
    refine go 6 ?_
    obtain ⟨b35, o35, w35, e35, c35, r35⟩ := RdA.at_ hA (i := i) hlt
    obtain ⟨q35, rfl, B35, d35, rfl, hB35, hd35, hm35⟩ := r35
    refine o_v rfl (v_idx he rfl rfl e35 (i) (by omega) hlt) ?_
    refine o_v rfl (v_ldIa he rfl c35 rfl) ?_
    refine go 1 ?_
    refine o_alloc he rfl (fun g8 => ?_)
    refine go 1 ?_
    refine o_stw _ he rfl rfl rfl rfl rfl rfl ?_
    refine go 4 ?_
    refine c_cut (I' := I) (L' := [(2, .pointer (some ⟨g2, 0, none⟩)), (3, .pointer (some ⟨g3, 0, none⟩)), (5, .pointer (some ⟨g5, 0, none⟩)), (6, .map (some r29)), (31, .slice A l.length c0), (32, .int .i64 (l.length : Int)), (33, .int .i64 (i : Int)), (8, .pointer (some ⟨g8, 0, none⟩)), (49, .bool (bad1P c l[i]))]) (H' := [.blk g8 170 (l[i].cells (.slice B35 l[i].props.length d35)), .mp r29 (emap enc2 (kvsOf seatOf (fun _ => .bool true) (seated (l.take i)))), .mp m28 (emap Value.string kvs), .blk g5 164 [.slice A l.length c0, .map (some m28)], .blk g3 134 [.slice A l.length c0], .blk g2 24 [vc]]) ?_ ?_
    ·refine go 4 ?_
     refine o_callV (flRight _ _ c hvc l[i] B35 d35 ⟨_, _, rfl, hB35, hd35, hm35⟩ (hsf _ (List.getElem_mem hlt))) rfl rfl ?_
     refine go 2 ?_
     refine sxb 41 rfl (fun h41 p41 => ?_) (fun h41 p41 => ?_)
     ·refine go 10 ?_
      exact q_cut ⟨rfl, rfl, rfl, rfl, rfl, rfl, rfl, rfl, (congrArg (fun b => some (Value.bool b)) (by simp only [bad1P, h34, h41, bS])), trivial⟩ rfl rfl
     ·refine go 6 ?_
      refine o_cons (o_yes rfl rfl h41 (o_val rfl (v_bneq he rfl rfl) ?_))
      refine go 3 ?_
      exact q_cut ⟨rfl, rfl, rfl, rfl, rfl, rfl, rfl, rfl, (congrArg (fun b => some (Value.bool b)) (by simp only [bad1P, h34, h41, bS])), trivial⟩ rfl rfl
    ·refine cb rfl (fun h49 p49 => ?_) (fun h49 p49 => ?_)
     ·refine go 12 ?_
      refine fin1 rfl rfl ?_
      exact q_v (congrArg Value.bool (by simp only [validS, allP_not hlt (show partFine c l (l.take i) l[i] = false by simp only [partFine, h49]; rfl), bS]))
     ·refine go 10 ?_
      refine cb rfl (fun h52 p52 => ?_) (fun h52 p52 => ?_)
      ·refine go 9 ?_
       refine sx_drop ?_
       exact q_next (i + 1) ⟨by omega, allP_succ hn hlt (by simp only [partFine, h49, h52, bS])⟩ (by omega) rfl sb (by rw [seated_take hlt p52])
      ·refine go 8 ?_
       refine bring2 ?_
       refine o_callK (flGet _ _ l hv0 m28 kvs hIx l[i].into) rfl rfl (fun v57 q57 => ?_)
       obtain ⟨vs, rfl, s57, rfl, hs57⟩ := q57
       refine go 4 ?_
       refine o_alloc he rfl (fun g9 => ?_)
       refine go 1 ?_
       refine o_stw _ he rfl rfl rfl rfl rfl (Enc.one (α := Part) (I := I) (x := (findP l l[i].into).getD zPart) ⟨s57, rfl, hs57⟩) ?_
       refine go 10 ?_
       refine o_val rfl (v_build (pl := [(0, 1), (1, 1)]) he he rfl rfl) ?_
       refine go 1 ?_
       refine o_alloc he rfl (fun g11 => ?_)
       refine go 1 ?_
       refine o_stw _ he rfl rfl rfl rfl rfl rfl ?_
       refine go 4 ?_
       refine c_cut (I' := I) (L' := [(2, .pointer (some ⟨g2, 0, none⟩)), (3, .pointer (some ⟨g3, 0, none⟩)), (5, .pointer (some ⟨g5, 0, none⟩)), (6, .map (some r29)), (31, .slice A l.length c0), (32, .int .i64 (l.length : Int)), (33, .int .i64 (i : Int)), (8, .pointer (some ⟨g8, 0, none⟩)), (11, .pointer (some ⟨g11, 0, none⟩)), (90, .bool (bad2P c l (l.take i) l[i]))]) (H' := [.blk g11 205 [.string l[i].into, .string l[i].slot], .blk g8 170 (l[i].cells (.slice B35 l[i].props.length d35)), .mp r29 (emap enc2 (kvsOf seatOf (fun _ => .bool true) (seated (l.take i)))), .mp m28 (emap Value.string kvs), .blk g5 164 [.slice A l.length c0, .map (some m28)], .blk g3 134 [.slice A l.length c0], .blk g2 24 [vc]]) ?_ ?_
       ·refine go 4 ?_
        refine sxb 67 rfl (fun h67 p67 => ?_) (fun h67 p67 => ?_)
        ·refine go 25 ?_
         refine bring1 ?_
         refine sx_drop ?_
         refine bring6 ?_
         refine bring6 ?_
         refine bring6 ?_
         refine bring4 ?_
         refine bring6 ?_
         refine bring6 ?_
         refine bring6 ?_
         exact q_cut ⟨rfl, rfl, rfl, rfl, rfl, rfl, rfl, rfl, rfl, (congrArg (fun b => some (Value.bool b)) (by simp only [bad2P, h49, h52, h67, bS])), trivial⟩ rfl rfl
        ·refine go 4 ?_
         refine sxb 71 rfl (fun h71 p71 => ?_) (fun h71 p71 => ?_)
         ·refine go 21 ?_
          refine bring1 ?_
          refine sx_drop ?_
          refine bring6 ?_
          refine bring6 ?_
          refine bring6 ?_
          refine bring4 ?_
          refine bring6 ?_
          refine bring6 ?_
          refine bring6 ?_
          exact q_cut ⟨rfl, rfl, rfl, rfl, rfl, rfl, rfl, rfl, rfl, (congrArg (fun b => some (Value.bool b)) (by simp only [bad2P, h49, h52, h67, h71, bS])), trivial⟩ rfl rfl
         ·refine go 4 ?_
          refine sxb 75 rfl (fun h75 p75 => ?_) (fun h75 p75 => ?_)
          ·refine go 17 ?_
           refine bring1 ?_
           refine sx_drop ?_
           refine bring6 ?_
           refine bring6 ?_
           refine bring6 ?_
           refine bring4 ?_
           refine bring6 ?_
           refine bring6 ?_
           refine bring6 ?_
           exact q_cut ⟨rfl, rfl, rfl, rfl, rfl, rfl, rfl, rfl, rfl, (congrArg (fun b => some (Value.bool b)) (by simp only [bad2P, h49, h52, h67, h71, h75, bS])), trivial⟩ rfl rfl
          ·refine go 2 ?_
           refine o_cons (o_yes rfl rfl h75 (o_val rfl (v_get m4 (key_pair T.sp_205 eqS_seat) he he (seatOf l[i]) rfl rfl (kvs_hit1 seatOf _ _)) ?_))
           refine go 2 ?_
           refine sxb 80 rfl (fun h80 p80 => ?_) (fun h80 p80 => ?_)
           ·refine go 12 ?_
            refine bring1 ?_
            refine sx_drop ?_
            refine bring6 ?_
            refine bring6 ?_
            refine bring6 ?_
            refine bring4 ?_
            refine bring6 ?_
            refine bring6 ?_
            refine bring6 ?_
            exact q_cut ⟨rfl, rfl, rfl, rfl, rfl, rfl, rfl, rfl, rfl, (congrArg (fun b => some (Value.bool b)) (by simp only [bad2P, h49, h52, h67, h71, h75, h80, bS])), trivial⟩ rfl rfl
           ·refine o_cons (o_yes rfl rfl h80 (o_val rfl (v_ldw m7 he rfl rfl) ?_))
            refine go 7 ?_
            refine o_yes rfl rfl h80 (o_callV (catTakes _ _ c hvc ((findP l l[i].into).getD zPart).kind l[i].slot l[i].kind) rfl rfl ?_)
            refine go 4 ?_
            refine bring1 ?_
            refine sx_drop ?_
            refine bring6 ?_
            refine bring6 ?_
            refine bring6 ?_
            refine bring4 ?_
            refine bring6 ?_
            refine bring6 ?_
            refine bring6 ?_
            exact q_cut ⟨rfl, rfl, rfl, rfl, rfl, rfl, rfl, rfl, rfl, (congrArg (fun b => some (Value.bool b)) (by simp only [bad2P, h49, h52, h67, h71, h75, h80, bS])), trivial⟩ rfl rfl
       ·refine cb rfl (fun h90 p90 => ?_) (fun h90 p90 => ?_)
        ·refine go 12 ?_
         refine fin1 rfl rfl ?_
         exact q_v (congrArg Value.bool (by simp only [validS, allP_not hlt (show partFine c l (l.take i) l[i] = false by simp only [partFine, h52, h90]; simp), bS]))
        ·refine go 6 ?_
         have h90n : hit seatOf (seated (l.take i)) (seatOf l[i]) = false := by revert h90; simp only [bad2P]; cases hit seatOf (seated (l.take i)) (seatOf l[i]) <;> simp
         refine bring2 ?_
         refine o_mapPut (kvsOf seatOf (fun _ => .bool true) (seated (l.take (i + 1)))) (key_pair T.sp_205 eqS_seat) he (seatOf l[i]) rfl rfl rfl ((kvs_put seatOf (fun _ => .bool true) (seated (l.take i)) l[i] (hit_none h90n)).trans (by rw [seated_take' hlt p52])) ?_
         refine go 8 ?_
         refine bring1 ?_
         refine sx_drop ?_
         refine bring1 ?_
         refine sx_drop ?_
         exact q_next (i + 1) ⟨by omega, allP_succ hn hlt (by simp only [partFine, h49, h90, bS])⟩ (by omega) rfl sb rfl
   ·refine go 11 ?_
    refine fin1 rfl rfl ?_
    have e : i = l.length := (by omega)
    subst e
    exact q_v (congrArg Value.bool (by simp only [validS, h26, hn, bS]))

theorem bsearch_Part (I : IMap) (v : Value) (l : List Part) (hv : RdS I v l) (hl : l.length ≤ 1000000) (s : ByteArray) (f : FuncId) (cs : List Value) (nm : Part → ByteArray) (hp : ∀ x vs, Enc.rd I vs x → FnV Tryz.prog f ([Value.agg vs.toArray, Value.string s] ++ cs).toArray I (.int .i64 (cmpS (nm x) s))) (hs : Srt nm l) :
    FnV Tryz.prog 164 #[v, .string s, .func (.func f) #[] cs.toArray] I (.tuple #[.int .i64 (posF nm l s : Nat), .bool (atF nm l s)]) := by
 obtain ⟨A, c0, rfl, hA, hc, hm⟩ := hv
 refine enter Tryz.func164 Tryz.call164 rfl Tryz.ntmps164 rfl (fun w0 => ?_)
 refine go 22 ?_
 refine c_loop2 ((0 : Nat)) (l.length) (fun i j => I)
  (fun i j => [(0, .slice A l.length c0), (1, .string s), (2, .func (.func f) #[] cs.toArray), (8, .int .i64 (l.length : Int)), (9, .int .i64 (i : Int)), (10, .int .i64 (j : Int))])
  (fun i j => [])
  (fun i j => i ≤ j ∧ j ≤ l.length ∧ (∀ q x, q < i → l[q]? = some x → sLt (nm x) s = true) ∧ (∀ q x, j ≤ q → l[q]? = some x → sLt (nm x) s = false))
  (fun i j => j - i) ⟨Nat.zero_le _, Nat.le_refl _, fun q x h => absurd h (Nat.not_lt_zero q), fun q x h hx => by rw [List.getElem?_eq_none h] at hx; cases hx⟩ rfl sb rfl ?_
 intro i j ⟨hij, hj, hlo, hhi⟩
 refine go 8 ?_
 refine cb rfl (fun h17 p17 => ?_) (fun h17 p17 => ?_)
 ·have hlt : (i + j) / 2 < l.length := by omega
  refine go 8 ?_
  refine o_v rfl (v_conv he he rfl (m := (i : Int) + (j : Int)) (wrap_u64 _ (by omega) (by omega))) ?_
  refine o_v rfl (v_shr1 rfl (by decide)) ?_
  refine o_v rfl (v_conv he he rfl (m := (((i + j) / 2 : Nat) : Int)) (by rw [IntKind.wrap_i64]; omega)) ?_
  refine go 8 ?_
  obtain ⟨b27, o27, w27, e27, c27, r27⟩ := RdA.at_ hA (i := (i + j) / 2) hlt
  refine o_v rfl (v_idx he rfl rfl e27 ((i + j) / 2) (by omega) hlt) ?_
  refine o_v rfl (v_ldIa he rfl c27 (Enc.len r27)) ?_
  refine go 2 ?_
  refine o_callV (hp _ _ r27) rfl rfl ?_
  refine go 3 ?_
  refine cb rfl (fun h31 p31 => ?_) (fun h31 p31 => ?_)
  ·refine go 7 ?_
   exact q_next2 ((i + j) / 2 + 1) (j) ⟨by omega, hj, bs_lo hs hlt (cmpS_neg.1 p31), hhi⟩ (by omega) rfl sb rfl
  ·refine go 6 ?_
   exact q_next2 (i) ((i + j) / 2) ⟨by omega, by omega, hlo, bs_hi hs hlt (by simpa [cmpS_neg] using p31)⟩ (by omega) rfl sb rfl
 ·have hpos : posF nm l s = i := pos_eq (by omega) hlo (fun q x hq hx => hhi q x (by omega) hx)
  refine go 12 ?_
  refine sxb 39 rfl (fun h39 p39 => ?_) (fun h39 p39 => ?_)
  ·have hlt : i < l.length := by omega
   refine go 3 ?_
   obtain ⟨b43, o43, w43, e43, c43, r43⟩ := RdA.at_ hA (i := i) hlt
   refine o_cons (o_yes rfl rfl h39 (o_val rfl (v_idx he rfl rfl e43 (i) (by omega) hlt) ?_))
   refine o_cons (o_yes rfl rfl h39 (o_val rfl (v_ldIa he rfl c43 (Enc.len r43)) ?_))
   refine go 2 ?_
   refine o_yes rfl rfl h39 (o_callV (hp _ _ r43) rfl rfl ?_)
   refine go 7 ?_
   refine fin2 rfl rfl rfl ?_
   exact q_v (by rw [hpos, at_of hpos hlt]; simp only [cmpS_zero])
  ·refine go 14 ?_
   refine fin2 rfl rfl rfl ?_
   exact q_v (by rw [hpos, at_no hpos (by omega)])

theorem put1_Part (I : IMap) (x : Part) (vs : List Value) (h : Enc.rd I vs x) (s : ByteArray) (f : FuncId) (nm : Part → ByteArray) (hp : FnV Tryz.prog f #[.agg vs.toArray] I (.string (nm x))) (g : Nat) (hg : ICells I g 0 [.func (.func f) #[] #[]]) :
    FnV Tryz.prog 165 #[.agg vs.toArray, .string s, .pointer (some ⟨g, 0, none⟩)] I (.int .i64 (cmpS (nm x) s)) := by
 have hl := Enc.len h
 refine enter Tryz.func165 Tryz.call165 rfl Tryz.ntmps165 rfl (fun w0 => ?_)
 refine go 3 ?_
 refine o_box _ rfl rfl rfl (fun g3 => ?_)
 refine go 5 ?_
 refine o_v rfl (v_ldI he rfl (hg 0 _ rfl)) ?_
 refine o_v rfl (v_ldw m0 he rfl hl) ?_
 refine go 1 ?_
 refine o_callV (hp) rfl rfl ?_
 refine go 2 ?_
 refine o_callV (compare_string _ _ _) rfl rfl ?_
 refine go 4 ?_
 refine fin1 rfl rfl ?_
 exact q_v rfl

theorem bsearch_Prp (I : IMap) (v : Value) (l : List Prp) (hv : RdS I v l) (hl : l.length ≤ 1000000) (s : ByteArray) (f : FuncId) (cs : List Value) (nm : Prp → ByteArray) (hp : ∀ x vs, Enc.rd I vs x → FnV Tryz.prog f ([Value.agg vs.toArray, Value.string s] ++ cs).toArray I (.int .i64 (cmpS (nm x) s))) (hs : Srt nm l) :
    FnV Tryz.prog 174 #[v, .string s, .func (.func f) #[] cs.toArray] I (.tuple #[.int .i64 (posF nm l s : Nat), .bool (atF nm l s)]) := by
 obtain ⟨A, c0, rfl, hA, hc, hm⟩ := hv
 refine enter Tryz.func174 Tryz.call174 rfl Tryz.ntmps174 rfl (fun w0 => ?_)
 refine go 22 ?_
 refine c_loop2 ((0 : Nat)) (l.length) (fun i j => I)
  (fun i j => [(0, .slice A l.length c0), (1, .string s), (2, .func (.func f) #[] cs.toArray), (8, .int .i64 (l.length : Int)), (9, .int .i64 (i : Int)), (10, .int .i64 (j : Int))])
  (fun i j => [])
  (fun i j => i ≤ j ∧ j ≤ l.length ∧ (∀ q x, q < i → l[q]? = some x → sLt (nm x) s = true) ∧ (∀ q x, j ≤ q → l[q]? = some x → sLt (nm x) s = false))
  (fun i j => j - i) ⟨Nat.zero_le _, Nat.le_refl _, fun q x h => absurd h (Nat.not_lt_zero q), fun q x h hx => by rw [List.getElem?_eq_none h] at hx; cases hx⟩ rfl sb rfl ?_
 intro i j ⟨hij, hj, hlo, hhi⟩
 refine go 8 ?_
 refine cb rfl (fun h17 p17 => ?_) (fun h17 p17 => ?_)
 ·have hlt : (i + j) / 2 < l.length := by omega
  refine go 8 ?_
  refine o_v rfl (v_conv he he rfl (m := (i : Int) + (j : Int)) (wrap_u64 _ (by omega) (by omega))) ?_
  refine o_v rfl (v_shr1 rfl (by decide)) ?_
  refine o_v rfl (v_conv he he rfl (m := (((i + j) / 2 : Nat) : Int)) (by rw [IntKind.wrap_i64]; omega)) ?_
  refine go 8 ?_
  obtain ⟨b27, o27, w27, e27, c27, r27⟩ := RdA.at_ hA (i := (i + j) / 2) hlt
  refine o_v rfl (v_idx he rfl rfl e27 ((i + j) / 2) (by omega) hlt) ?_
  refine o_v rfl (v_ldIa he rfl c27 (Enc.len r27)) ?_
  refine go 2 ?_
  refine o_callV (hp _ _ r27) rfl rfl ?_
  refine go 3 ?_
  refine cb rfl (fun h31 p31 => ?_) (fun h31 p31 => ?_)
  ·refine go 7 ?_
   exact q_next2 ((i + j) / 2 + 1) (j) ⟨by omega, hj, bs_lo hs hlt (cmpS_neg.1 p31), hhi⟩ (by omega) rfl sb rfl
  ·refine go 6 ?_
   exact q_next2 (i) ((i + j) / 2) ⟨by omega, by omega, hlo, bs_hi hs hlt (by simpa [cmpS_neg] using p31)⟩ (by omega) rfl sb rfl
 ·have hpos : posF nm l s = i := pos_eq (by omega) hlo (fun q x hq hx => hhi q x (by omega) hx)
  refine go 12 ?_
  refine sxb 39 rfl (fun h39 p39 => ?_) (fun h39 p39 => ?_)
  ·have hlt : i < l.length := by omega
   refine go 3 ?_
   obtain ⟨b43, o43, w43, e43, c43, r43⟩ := RdA.at_ hA (i := i) hlt
   refine o_cons (o_yes rfl rfl h39 (o_val rfl (v_idx he rfl rfl e43 (i) (by omega) hlt) ?_))
   refine o_cons (o_yes rfl rfl h39 (o_val rfl (v_ldIa he rfl c43 (Enc.len r43)) ?_))
   refine go 2 ?_
   refine o_yes rfl rfl h39 (o_callV (hp _ _ r43) rfl rfl ?_)
   refine go 7 ?_
   refine fin2 rfl rfl rfl ?_
   exact q_v (by rw [hpos, at_of hpos hlt]; simp only [cmpS_zero])
  ·refine go 14 ?_
   refine fin2 rfl rfl rfl ?_
   exact q_v (by rw [hpos, at_no hpos (by omega)])

theorem put1_Prp (I : IMap) (x : Prp) (vs : List Value) (h : Enc.rd I vs x) (s : ByteArray) (f : FuncId) (nm : Prp → ByteArray) (hp : FnV Tryz.prog f #[.agg vs.toArray] I (.string (nm x))) (g : Nat) (hg : ICells I g 0 [.func (.func f) #[] #[]]) :
    FnV Tryz.prog 175 #[.agg vs.toArray, .string s, .pointer (some ⟨g, 0, none⟩)] I (.int .i64 (cmpS (nm x) s)) := by
 have hl := Enc.len h
 refine enter Tryz.func175 Tryz.call175 rfl Tryz.ntmps175 rfl (fun w0 => ?_)
 refine go 3 ?_
 refine o_box _ rfl rfl rfl (fun g3 => ?_)
 refine go 5 ?_
 refine o_v rfl (v_ldI he rfl (hg 0 _ rfl)) ?_
 refine o_v rfl (v_ldw m0 he rfl hl) ?_
 refine go 1 ?_
 refine o_callV (hp) rfl rfl ?_
 refine go 2 ?_
 refine o_callV (compare_string _ _ _) rfl rfl ?_
 refine go 4 ?_
 refine fin1 rfl rfl ?_
 exact q_v rfl

theorem clone_Part (I : IMap) (v : Value) (l : List Part) (hv : RdS I v l) (hl : l.length ≤ 1000000) :
    FnX Tryz.prog 167 #[v] I [] (fun u r => ∃ xss, r = .row u 170 14 l.length xss.flatten ∧ FlatC I xss l) := by
 have hv0 := hv
 obtain ⟨A, c0, rfl, hA, hc, hm⟩ := hv
 refine enter Tryz.func167 Tryz.call167 rfl Tryz.ntmps167 rfl (fun w0 => ?_)
 refine go 9 ?_
 refine o_v rfl (v_seqnil he rfl) ?_
 refine go 2 ?_
 refine cb rfl (fun h4 p4 => ?_) (fun h4 p4 => ?_)
 ·obtain rfl : l = [] := List.eq_nil_of_length_eq_zero (by rcases Nat.eq_zero_or_pos l.length with h | h; exact h; obtain ⟨_, _, e, _⟩ := hA h; subst e; cases h4)
  refine sx_nilrow 170 14 ?_
  refine go 7 ?_
  refine fin1 rfl rfl ?_
  exact q_x ⟨[], rfl, .nil⟩
 ·refine go 5 ?_
  refine o_buildSlice he he rfl rfl rfl rfl rfl rfl rfl (fun v5 => ?_)
  refine go 2 ?_
  refine o_appendR (hv0) rfl he he rfl rfl rfl rfl (by omega) (by omega) rfl (fun v7 x7 f7 => ?_)
  refine go 4 ?_
  refine fin1 rfl rfl ?_
  exact q_x (by obtain ⟨xss, rfl, hx⟩ := FlatC.of f7; exact ⟨xss, by rw [Nat.zero_add]; rfl, hx⟩)

theorem clone_Prp (I : IMap) (v : Value) (l : List Prp) (hv : RdS I v l) (hl : l.length ≤ 1000000) :
    FnX Tryz.prog 176 #[v] I [] (fun u r => ∃ xss, r = .row u 183 2 l.length xss.flatten ∧ FlatC I xss l) := by
 have hv0 := hv
 obtain ⟨A, c0, rfl, hA, hc, hm⟩ := hv
 refine enter Tryz.func176 Tryz.call176 rfl Tryz.ntmps176 rfl (fun w0 => ?_)
 refine go 9 ?_
 refine o_v rfl (v_seqnil he rfl) ?_
 refine go 2 ?_
 refine cb rfl (fun h4 p4 => ?_) (fun h4 p4 => ?_)
 ·obtain rfl : l = [] := List.eq_nil_of_length_eq_zero (by rcases Nat.eq_zero_or_pos l.length with h | h; exact h; obtain ⟨_, _, e, _⟩ := hA h; subst e; cases h4)
  refine sx_nilrow 183 2 ?_
  refine go 7 ?_
  refine fin1 rfl rfl ?_
  exact q_x ⟨[], rfl, .nil⟩
 ·refine go 5 ?_
  refine o_buildSlice he he rfl rfl rfl rfl rfl rfl rfl (fun v5 => ?_)
  refine go 2 ?_
  refine o_appendR (hv0) rfl he he rfl rfl rfl rfl (by omega) (by omega) rfl (fun v7 x7 f7 => ?_)
  refine go 4 ?_
  refine fin1 rfl rfl ?_
  exact q_x (by obtain ⟨xss, rfl, hx⟩ := FlatC.of f7; exact ⟨xss, by rw [Nat.zero_add]; rfl, hx⟩)


theorem ext_overlaps_Part (args : Array Value) (w : World) : (callFunc 196 args).run Tryz.prog w = ((Extern.SlicesOverlaps.overlaps #[132, 132] #[4] args).run Tryz.prog w).andThen fun v w' => .ok (.value v) w' := by
  have h1 : Extern.findNext Tryz.f196 = none := by kernel_rfl
  have h2 : Extern.find Tryz.f196 = some (Extern.SlicesOverlaps.overlaps #[132, 132] #[4]) := by kernel_rfl
  have h3 : (Tryz.f196.name == "runtime.NumGoroutine") = false := by kernel_rfl
  have h4 : Tryz.f196.body.isNone = true := rfl
  simp only [callFunc, Sem.run_bind, run_program, Result.andThen_ok, Tryz.func196, h3, h4, h1, h2]
  simp
theorem overlaps_Part (I : IMap) (b g la ca lb cb o : Nat) (c : List Value) (cs : List Value) (tt : Nat) (B : Option Addr) (hB : B = some ⟨g, o, none⟩) (hb : I b = some (.cells c.toArray tt (0, 0))) (hcs : cs.length ≠ 0) :
    FnK Tryz.prog 196 #[.slice (some ⟨b, 0, none⟩) la ca, .slice B lb cb] I (.blk g 170 cs) (fun u => u = .bool false) := by
  subst hB
  refine ⟨fun w m => ?_⟩
  unfold After
  have hg : w.heap[g]? = some (.cells cs.toArray 170 (0, 0)) := m.blk
  have hbw := m.con b _ hb
  have hne : b ≠ g := by
    rintro rfl
    have := (m.priv _ (List.mem_cons_self ..) b rfl).1
    rw [hb] at this; cases this
  rw [ext_overlaps_Part, Lib.run_overlaps_apart (P := Tryz.prog) w 132 4 170 he 14 (fun w => (tyK_spec he w).2) ⟨b, 0, none⟩ ⟨g, o, none⟩ la ca lb cb hne tt 170 c.length cs.length (by simp [World.shape?, hbw]) (by simp [World.shape?, hg]) hcs (by simp [World.frozen?, hbw]) (by simp [World.frozen?, hbw])]
  exact ⟨_, I, [_], rfl, m, rfl, rfl, rfl⟩

theorem insertNil_Part (I : IMap) (y : Value) (x : Part) (hy : RdS I y [x]) :
    FnX Tryz.prog 168 #[.slice none 0 0, .int .i64 0, y] I [] (fun u r => ∃ zss, r = .row u 170 14 1 zss.flatten ∧ FlatC I zss [x]) := by
 have hy0 := hy
 obtain ⟨Y, yc, rfl, hA, hc, hm⟩ := hy
 refine enter Tryz.func168 Tryz.call168 rfl Tryz.ntmps168 rfl (fun w0 => ?_)
 refine sx_nilrow 170 14 ?_
 refine go 9 ?_
 refine o_v rfl (v_slice_lo he rfl rfl 0 rfl (Nat.le_refl _)) ?_
 refine go 16 ?_
 refine c_false rfl ?_
 refine go 17 ?_
 refine c_true rfl ?_
 refine go 5 ?_
 refine o_appendR (hy0) rfl he he rfl rfl rfl rfl (by simp) (by simp) rfl (fun v25 x25 f25 => ?_)
 refine go 5 ?_
 refine fin1 rfl rfl ?_
 exact q_x (by obtain ⟨xss, rfl, hx⟩ := FlatC.of f25; exact ⟨xss, rfl, hx⟩)

theorem insertBlk_Part (I : IMap) (l : List Part) (xss rest : List (List Value)) (g cap i b yc : Nat) (hx : FlatC I xss l) (hR : Uk 14 rest) (hcap : l.length + rest.length = cap) (hmax : cap ≤ maxLen) (hl : l.length ≤ 1000000) (hi : i ≤ l.length) (x : Part) (c c2 : List Value) (hb : I b = some (.cells (c ++ c2).toArray 170 (0, 0))) (hc : Enc.rd I c x) (hyc : 1 ≤ yc) (hyc2 : yc ≤ 9223372036854775807) :
    FnX Tryz.prog 168 #[.slice (some ⟨g, 0, none⟩) l.length cap, .int .i64 (i : Nat), .slice (some ⟨b, 0, none⟩) 1 yc] I [(.blk g 170 (xss ++ rest).flatten)] (fun u r => ∃ zss, r = .row u 170 14 (l.length + 1) zss.flatten ∧ FlatC I zss (l.take i ++ x :: l.drop i)) := by
 have hU : Uk 14 xss := hx.uk
 have hlen := hx.len
 have hV1 : Uk 14 [c] := (fun d hd => by rw [List.mem_singleton.1 hd]; exact Enc.len hc)
 have hcI : ICells I b 0 c := (fun j u hu => ⟨_, _, _, hb, by rw [Nat.zero_add]; simpa using (List.getElem?_append_left (List.getElem?_eq_some_iff.1 hu).1).trans hu⟩)
 have hY : RdS I (.slice (some ⟨b, 0, none⟩) 1 yc) [x] := ⟨_, yc, rfl, fun _ => ⟨b, 0, rfl, fun q z hq => by cases q with | zero => (cases hq; exact ⟨c, by simpa using hcI, hc⟩) | succ q => simp at hq⟩, hyc, hyc2⟩
 refine enter Tryz.func168 Tryz.call168 rfl Tryz.ntmps168 rfl (fun w0 => ?_)
 refine go 9 ?_
 refine o_v rfl (v_slice_lo he rfl rfl i rfl hi) ?_
 refine go 16 ?_
 refine c_false rfl ?_
 refine go 17 ?_
 refine cb rfl (fun h22 p22 => ?_) (fun h22 p22 => ?_)
 ·obtain rfl : i = l.length := by omega
  refine go 5 ?_
  refine sx_unrow hU hR hlen hcap hmax ?_
  refine o_appendR (hY) rfl he he rfl rfl rfl rfl (by simp; omega) (by simp; omega) rfl (fun v25 x25 f25 => ?_)
  refine go 5 ?_
  refine fin1 rfl rfl ?_
  exact q_x (by obtain ⟨zss, rfl, hz⟩ := FlatC.of f25; exact ⟨xss ++ zss, by rw [List.flatten_append]; rfl, by rw [List.take_length, List.drop_length]; exact hx.append hz⟩)
 ·refine go 9 ?_
  refine o_v rfl (v_cap he rfl) ?_
  refine go 3 ?_
  refine cb rfl (fun h31 p31 => ?_) (fun h31 p31 => ?_)
  ·refine go 4 ?_
   refine o_v rfl (v_slice_hi he rfl rfl i rfl (by omega)) ?_
   refine go 4 ?_
   refine o_v rfl (OV.cast (u := .int .i64 ((l.length + 1 - i : Nat) : Int)) (v_sub rfl rfl ⟨by omega, by omega⟩) (congrArg (Value.int .i64) (by omega))) ?_
   refine go 1 ?_
   refine o_appendMake (xss.take i) he he he rfl rfl rfl rfl (hU.append hR) (by rw [List.length_take]; omega) (hU.take i) (fun _ => ⟨rfl, by rw [List.take_append_of_le_length (by omega)]⟩) (by omega) (by omega) (by omega) (by unfold maxLen; omega) rfl (fun g40 r40 hr40 => ?_)
   refine go 7 ?_
   refine o_v rfl (v_slice_lo he rfl rfl i rfl (by omega)) ?_
   refine go 2 ?_
   have hU1 : Uk 14 (xss.take i ++ List.replicate (l.length + 1 - i + r40) _) := (hU.take i).append (Uk.rep (c := [.string ⟨#[]⟩, .string ⟨#[]⟩, .string ⟨#[]⟩, .string ⟨#[]⟩, .int .i64 0, .int .i64 0, .bool false, .slice none 0 0, .int .i64 0, .int .i64 0, .int .i64 0, .int .i64 0, .int .i64 0, .int .i64 0]) rfl _)
   refine o_copy [c] i he rfl rfl (by simp; omega) hU1 hV1 (by simpa using Enc.one hc) (fun _ => cutA_some (by omega)) (fun _ => ⟨b, 0, rfl, fun w mm j u hu => (hcI j u (by simpa using hu)).at_ mm.con⟩) (by simp; omega) rfl ?_
   refine go 3 ?_
   refine d_start1 T.mixed ?_
   refine d_tv 0 rfl rfl (by kernel_rfl) rfl (.cons _ (.refl _)) rfl (v_move rfl) ?_
   refine d_tv 1 rfl rfl (by kernel_rfl) rfl (.cons _ (.refl _)) rfl (v_move rfl) ?_
   refine d_tv 2 rfl rfl (by kernel_rfl) rfl (.cons _ (.refl _)) rfl (v_move rfl) ?_
   refine d_tv 3 rfl rfl (by kernel_rfl) rfl (.cons _ (.refl _)) rfl (v_add rfl rfl ⟨by omega, by omega⟩) ?_
   refine d_tv 4 rfl rfl (by kernel_rfl) rfl (.cons _ (.refl _)) rfl (v_slice_lo he rfl rfl (i + 1) (by omega) (by omega)) ?_
   refine d_tv 5 rfl rfl (by kernel_rfl) rfl (.cons _ (.refl _)) rfl (v_move rfl) ?_
   refine d_tv 6 rfl rfl (by kernel_rfl) rfl (.cons _ (.refl _)) rfl (v_move rfl) ?_
   refine d_tv 7 rfl rfl (by kernel_rfl) rfl (.cons _ (.refl _)) rfl (v_slice_lo he rfl rfl i rfl (by omega)) ?_
   refine d_one 8 (by kernel_rfl) rfl ?_
   have hU2 := ((hU1.take i).append (hV1.append (hU1.drop (i + [c].length))))
   refine o_copy (xss.drop i) (i + 1) he rfl rfl (by simp; omega) hU2 (hU.drop i) (hx.drop i).one (fun _ => cutA_some (by omega)) (fun h => ⟨g, i * 14, cutA_some (by simp at h; omega), fun w mm j u hu => src_blk (o := i) (m := l.length - i) m1 (hU.append hR) w mm j u (by rw [List.drop_append_of_le_length (by omega), List.take_append_of_le_length (by simp; omega), List.take_of_length_le (by simp; omega)]; exact hu)⟩) (by simp; omega) rfl ?_
   refine d_on (fun _ m => m.keeps (.cons _ (.refl _))) ?_
   refine d_done (by kernel_rfl) ?_
   refine go 9 ?_
   refine fin1 rfl rfl ?_
   refine bring1 ?_
   refine sx_drop ?_
   refine sx_blk_eq (ins_grow hlen hi (by omega)) ?_
   refine sx_unrow (m := i + (l.length + 1 - i)) (cap := i + (l.length + 1 - i) + r40) ((hU.take i).append (fun d hd => by rcases List.mem_cons.1 hd with rfl | hd; exact Enc.len hc; exact hU.drop i d hd)) (Uk.rep rfl _) (by simp <;> omega) (by simp <;> omega) (by omega) ?_
   exact q_x (by exact ⟨_, by congr 1 <;> omega, (hx.take i).append (.cons hc (hx.drop i))⟩)
  ·have hr1 : 0 < rest.length := by omega
   refine go 8 ?_
   refine o_v rfl (v_slice_hi he rfl rfl (l.length + 1) (by omega) (by omega)) ?_
   refine go 11 ?_
   refine o_v rfl (v_slice_lo he rfl rfl (i + 1) (by omega) (by omega)) ?_
   refine go 1 ?_
   refine o_callK (overlaps_Part I b g 1 yc _ _ _ (c ++ c2) _ 170 _ (cutA_some (k := 14) (show i + 1 < cap by omega)) hb (by rw [flat_len (hU.append hR), List.length_append]; omega)) rfl rfl (fun v67 q67 => ?_)
   obtain rfl := q67
   refine go 3 ?_
   refine c_true rfl ?_
   refine go 1 ?_
   refine d_start1 T.mixed ?_
   refine d_tv 0 rfl rfl (by kernel_rfl) rfl (.cons _ .slnil) rfl (v_move rfl) ?_
   refine d_tv 1 rfl rfl (by kernel_rfl) rfl (.cons _ .slnil) rfl (v_move rfl) ?_
   refine d_tv 2 rfl rfl (by kernel_rfl) rfl (.cons _ .slnil) rfl (v_move rfl) ?_
   refine d_tv 3 rfl rfl (by kernel_rfl) rfl (.cons _ .slnil) rfl (v_add rfl rfl ⟨by omega, by omega⟩) ?_
   refine d_tv 4 rfl rfl (by kernel_rfl) rfl (.cons _ .slnil) rfl (v_slice_lo he rfl rfl (i + 1) (by omega) (by omega)) ?_
   refine d_tv 5 rfl rfl (by kernel_rfl) rfl (.cons _ .slnil) rfl (v_move rfl) ?_
   refine d_tv 6 rfl rfl (by kernel_rfl) rfl (.cons _ .slnil) rfl (v_move rfl) ?_
   refine d_tv 7 rfl rfl (by kernel_rfl) rfl (.cons _ .slnil) rfl (v_slice_lo he rfl rfl i rfl (by omega)) ?_
   refine d_one 8 (by kernel_rfl) rfl ?_
   refine o_copy (((xss ++ rest).drop i).take (l.length - i)) (i + 1) he rfl rfl (by simp; omega) (hU.append hR) (((hU.append hR).drop i).take _) (by rw [List.drop_append_of_le_length (by omega), List.take_append_of_le_length (by simp; omega)]; exact ((hx.drop i).take _).one) (fun _ => cutA_some (by omega)) (fun h => ⟨g, i * 14, cutA_some (by omega), fun w mm j u hu => src_blk (o := i) m0 (hU.append hR) w mm j u hu⟩) (by simp; omega) rfl ?_
   refine d_on (fun _ m => m.keeps (.cons _ .slnil)) ?_
   refine d_done (by kernel_rfl) ?_
   refine go 5 ?_
   refine o_v rfl (v_slice_lo he rfl rfl i rfl (by omega)) ?_
   refine go 2 ?_
   have hU3 := (((hU.append hR).take (i + 1)).append ((((hU.append hR).drop i).take (l.length - i)).append ((hU.append hR).drop (i + 1 + (((xss ++ rest).drop i).take (l.length - i)).length))))
   refine o_copy [c] i he rfl rfl (by simp; omega) hU3 hV1 (by simpa using Enc.one hc) (fun _ => cutA_some (by omega)) (fun _ => ⟨b, 0, rfl, fun w mm j u hu => (hcI j u (by simpa using hu)).at_ mm.con⟩) (by simp; omega) rfl ?_
   refine go 10 ?_
   refine fin1 rfl rfl ?_
   refine sx_blk_eq (ins_place hlen hi hr1) ?_
   refine sx_unrow (m := l.length + 1) (cap := cap) ((hU.take i).append (fun d hd => by rcases List.mem_cons.1 hd with rfl | hd; exact Enc.len hc; exact hU.drop i d hd)) (hR.drop 1) (by simp <;> omega) (by simp <;> omega) hmax ?_
   exact q_x (by exact ⟨_, by congr 1 <;> omega, (hx.take i).append (.cons hc (hx.drop i))⟩)

theorem ext_overlaps_Prp (args : Array Value) (w : World) : (callFunc 203 args).run Tryz.prog w = ((Extern.SlicesOverlaps.overlaps #[166, 166] #[4] args).run Tryz.prog w).andThen fun v w' => .ok (.value v) w' := by
  have h1 : Extern.findNext Tryz.f203 = none := by kernel_rfl
  have h2 : Extern.find Tryz.f203 = some (Extern.SlicesOverlaps.overlaps #[166, 166] #[4]) := by kernel_rfl
  have h3 : (Tryz.f203.name == "runtime.NumGoroutine") = false := by kernel_rfl
  have h4 : Tryz.f203.body.isNone = true := rfl
  simp only [callFunc, Sem.run_bind, run_program, Result.andThen_ok, Tryz.func203, h3, h4, h1, h2]
  simp
theorem overlaps_Prp (I : IMap) (b g la ca lb cb o : Nat) (c : List Value) (cs : List Value) (tt : Nat) (B : Option Addr) (hB : B = some ⟨g, o, none⟩) (hb : I b = some (.cells c.toArray tt (0, 0))) (hcs : cs.length ≠ 0) :
    FnK Tryz.prog 203 #[.slice (some ⟨b, 0, none⟩) la ca, .slice B lb cb] I (.blk g 183 cs) (fun u => u = .bool false) := by
  subst hB
  refine ⟨fun w m => ?_⟩
  unfold After
  have hg : w.heap[g]? = some (.cells cs.toArray 183 (0, 0)) := m.blk
  have hbw := m.con b _ hb
  have hne : b ≠ g := by
    rintro rfl
    have := (m.priv _ (List.mem_cons_self ..) b rfl).1
    rw [hb] at this; cases this
  rw [ext_overlaps_Prp, Lib.run_overlaps_apart (P := Tryz.prog) w 166 4 183 he 2 (fun w => (tyK_spec he w).2) ⟨b, 0, none⟩ ⟨g, o, none⟩ la ca lb cb hne tt 183 c.length cs.length (by simp [World.shape?, hbw]) (by simp [World.shape?, hg]) hcs (by simp [World.frozen?, hbw]) (by simp [World.frozen?, hbw])]
  exact ⟨_, I, [_], rfl, m, rfl, rfl, rfl⟩

theorem insertNil_Prp (I : IMap) (y : Value) (x : Prp) (hy : RdS I y [x]) :
    FnX Tryz.prog 177 #[.slice none 0 0, .int .i64 0, y] I [] (fun u r => ∃ zss, r = .row u 183 2 1 zss.flatten ∧ FlatC I zss [x]) := by
 have hy0 := hy
 obtain ⟨Y, yc, rfl, hA, hc, hm⟩ := hy
 refine enter Tryz.func177 Tryz.call177 rfl Tryz.ntmps177 rfl (fun w0 => ?_)
 refine sx_nilrow 183 2 ?_
 refine go 9 ?_
 refine o_v rfl (v_slice_lo he rfl rfl 0 rfl (Nat.le_refl _)) ?_
 refine go 16 ?_
 refine c_false rfl ?_
 refine go 17 ?_
 refine c_true rfl ?_
 refine go 5 ?_
 refine o_appendR (hy0) rfl he he rfl rfl rfl rfl (by simp) (by simp) rfl (fun v25 x25 f25 => ?_)
 refine go 5 ?_
 refine fin1 rfl rfl ?_
 exact q_x (by obtain ⟨xss, rfl, hx⟩ := FlatC.of f25; exact ⟨xss, rfl, hx⟩)

theorem insertBlk_Prp (I : IMap) (l : List Prp) (xss rest : List (List Value)) (g cap i b yc : Nat) (hx : FlatC I xss l) (hR : Uk 2 rest) (hcap : l.length + rest.length = cap) (hmax : cap ≤ maxLen) (hl : l.length ≤ 1000000) (hi : i ≤ l.length) (x : Prp) (c c2 : List Value) (hb : I b = some (.cells (c ++ c2).toArray 183 (0, 0))) (hc : Enc.rd I c x) (hyc : 1 ≤ yc) (hyc2 : yc ≤ 9223372036854775807) :
    FnX Tryz.prog 177 #[.slice (some ⟨g, 0, none⟩) l.length cap, .int .i64 (i : Nat), .slice (some ⟨b, 0, none⟩) 1 yc] I [(.blk g 183 (xss ++ rest).flatten)] (fun u r => ∃ zss, r = .row u 183 2 (l.length + 1) zss.flatten ∧ FlatC I zss (l.take i ++ x :: l.drop i)) := by
 have hU : Uk 2 xss := hx.uk
 have hlen := hx.len
 have hV1 : Uk 2 [c] := (fun d hd => by rw [List.mem_singleton.1 hd]; exact Enc.len hc)
 have hcI : ICells I b 0 c := (fun j u hu => ⟨_, _, _, hb, by rw [Nat.zero_add]; simpa using (List.getElem?_append_left (List.getElem?_eq_some_iff.1 hu).1).trans hu⟩)
 have hY : RdS I (.slice (some ⟨b, 0, none⟩) 1 yc) [x] := ⟨_, yc, rfl, fun _ => ⟨b, 0, rfl, fun q z hq => by cases q with | zero => (cases hq; exact ⟨c, by simpa using hcI, hc⟩) | succ q => simp at hq⟩, hyc, hyc2⟩
 refine enter Tryz.func177 Tryz.call177 rfl Tryz.ntmps177 rfl (fun w0 => ?_)
 refine go 9 ?_
 refine o_v rfl (v_slice_lo he rfl rfl i rfl hi) ?_
 refine go 16 ?_
 refine c_false rfl ?_
 refine go 17 ?_
 refine cb rfl (fun h22 p22 => ?_) (fun h22 p22 => ?_)
 ·obtain rfl : i = l.length := by omega
  refine go 5 ?_
  refine sx_unrow hU hR hlen hcap hmax ?_
  refine o_appendR (hY) rfl he he rfl rfl rfl rfl (by simp; omega) (by simp; omega) rfl (fun v25 x25 f25 => ?_)
  refine go 5 ?_
  refine fin1 rfl rfl ?_
  exact q_x (by obtain ⟨zss, rfl, hz⟩ := FlatC.of f25; exact ⟨xss ++ zss, by rw [List.flatten_append]; rfl, by rw [List.take_length, List.drop_length]; exact hx.append hz⟩)
 ·refine go 9 ?_
  refine o_v rfl (v_cap he rfl) ?_
  refine go 3 ?_
  refine cb rfl (fun h31 p31 => ?_) (fun h31 p31 => ?_)
  ·refine go 4 ?_
   refine o_v rfl (v_slice_hi he rfl rfl i rfl (by omega)) ?_
   refine go 4 ?_
   refine o_v rfl (OV.cast (u := .int .i64 ((l.length + 1 - i : Nat) : Int)) (v_sub rfl rfl ⟨by omega, by omega⟩) (congrArg (Value.int .i64) (by omega))) ?_
   refine go 1 ?_
   refine o_appendMake (xss.take i) he he he rfl rfl rfl rfl (hU.append hR) (by rw [List.length_take]; omega) (hU.take i) (fun _ => ⟨rfl, by rw [List.take_append_of_le_length (by omega)]⟩) (by omega) (by omega) (by omega) (by unfold maxLen; omega) rfl (fun g40 r40 hr40 => ?_)
   refine go 7 ?_
   refine o_v rfl (v_slice_lo he rfl rfl i rfl (by omega)) ?_
   refine go 2 ?_
   have hU1 : Uk 2 (xss.take i ++ List.replicate (l.length + 1 - i + r40) _) := (hU.take i).append (Uk.rep (c := [.string ⟨#[]⟩, .string ⟨#[]⟩]) rfl _)
   refine o_copy [c] i he rfl rfl (by simp; omega) hU1 hV1 (by simpa using Enc.one hc) (fun _ => cutA_some (by omega)) (fun _ => ⟨b, 0, rfl, fun w mm j u hu => (hcI j u (by simpa using hu)).at_ mm.con⟩) (by simp; omega) rfl ?_
   refine go 3 ?_
   refine d_start1 T.mixed ?_
   refine d_tv 0 rfl rfl (by kernel_rfl) rfl (.cons _ (.refl _)) rfl (v_move rfl) ?_
   refine d_tv 1 rfl rfl (by kernel_rfl) rfl (.cons _ (.refl _)) rfl (v_move rfl) ?_
   refine d_tv 2 rfl rfl (by kernel_rfl) rfl (.cons _ (.refl _)) rfl (v_move rfl) ?_
   refine d_tv 3 rfl rfl (by kernel_rfl) rfl (.cons _ (.refl _)) rfl (v_add rfl rfl ⟨by omega, by omega⟩) ?_
   refine d_tv 4 rfl rfl (by kernel_rfl) rfl (.cons _ (.refl _)) rfl (v_slice_lo he rfl rfl (i + 1) (by omega) (by omega)) ?_
   refine d_tv 5 rfl rfl (by kernel_rfl) rfl (.cons _ (.refl _)) rfl (v_move rfl) ?_
   refine d_tv 6 rfl rfl (by kernel_rfl) rfl (.cons _ (.refl _)) rfl (v_move rfl) ?_
   refine d_tv 7 rfl rfl (by kernel_rfl) rfl (.cons _ (.refl _)) rfl (v_slice_lo he rfl rfl i rfl (by omega)) ?_
   refine d_one 8 (by kernel_rfl) rfl ?_
   have hU2 := ((hU1.take i).append (hV1.append (hU1.drop (i + [c].length))))
   refine o_copy (xss.drop i) (i + 1) he rfl rfl (by simp; omega) hU2 (hU.drop i) (hx.drop i).one (fun _ => cutA_some (by omega)) (fun h => ⟨g, i * 2, cutA_some (by simp at h; omega), fun w mm j u hu => src_blk (o := i) (m := l.length - i) m1 (hU.append hR) w mm j u (by rw [List.drop_append_of_le_length (by omega), List.take_append_of_le_length (by simp; omega), List.take_of_length_le (by simp; omega)]; exact hu)⟩) (by simp; omega) rfl ?_
   refine d_on (fun _ m => m.keeps (.cons _ (.refl _))) ?_
   refine d_done (by kernel_rfl) ?_
   refine go 9 ?_
   refine fin1 rfl rfl ?_
   refine bring1 ?_
   refine sx_drop ?_
   refine sx_blk_eq (ins_grow hlen hi (by omega)) ?_
   refine sx_unrow (m := i + (l.length + 1 - i)) (cap := i + (l.length + 1 - i) + r40) ((hU.take i).append (fun d hd => by rcases List.mem_cons.1 hd with rfl | hd; exact Enc.len hc; exact hU.drop i d hd)) (Uk.rep rfl _) (by simp <;> omega) (by simp <;> omega) (by omega) ?_
   exact q_x (by exact ⟨_, by congr 1 <;> omega, (hx.take i).append (.cons hc (hx.drop i))⟩)
  ·have hr1 : 0 < rest.length := by omega
   refine go 8 ?_
   refine o_v rfl (v_slice_hi he rfl rfl (l.length + 1) (by omega) (by omega)) ?_
   refine go 11 ?_
   refine o_v rfl (v_slice_lo he rfl rfl (i + 1) (by omega) (by omega)) ?_
   refine go 1 ?_
   refine o_callK (overlaps_Prp I b g 1 yc _ _ _ (c ++ c2) _ 183 _ (cutA_some (k := 2) (show i + 1 < cap by omega)) hb (by rw [flat_len (hU.append hR), List.length_append]; omega)) rfl rfl (fun v67 q67 => ?_)
   obtain rfl := q67
   refine go 3 ?_
   refine c_true rfl ?_
   refine go 1 ?_
   refine d_start1 T.mixed ?_
   refine d_tv 0 rfl rfl (by kernel_rfl) rfl (.cons _ .slnil) rfl (v_move rfl) ?_
   refine d_tv 1 rfl rfl (by kernel_rfl) rfl (.cons _ .slnil) rfl (v_move rfl) ?_
   refine d_tv 2 rfl rfl (by kernel_rfl) rfl (.cons _ .slnil) rfl (v_move rfl) ?_
   refine d_tv 3 rfl rfl (by kernel_rfl) rfl (.cons _ .slnil) rfl (v_add rfl rfl ⟨by omega, by omega⟩) ?_
   refine d_tv 4 rfl rfl (by kernel_rfl) rfl (.cons _ .slnil) rfl (v_slice_lo he rfl rfl (i + 1) (by omega) (by omega)) ?_
   refine d_tv 5 rfl rfl (by kernel_rfl) rfl (.cons _ .slnil) rfl (v_move rfl) ?_
   refine d_tv 6 rfl rfl (by kernel_rfl) rfl (.cons _ .slnil) rfl (v_move rfl) ?_
   refine d_tv 7 rfl rfl (by kernel_rfl) rfl (.cons _ .slnil) rfl (v_slice_lo he rfl rfl i rfl (by omega)) ?_
   refine d_one 8 (by kernel_rfl) rfl ?_
   refine o_copy (((xss ++ rest).drop i).take (l.length - i)) (i + 1) he rfl rfl (by simp; omega) (hU.append hR) (((hU.append hR).drop i).take _) (by rw [List.drop_append_of_le_length (by omega), List.take_append_of_le_length (by simp; omega)]; exact ((hx.drop i).take _).one) (fun _ => cutA_some (by omega)) (fun h => ⟨g, i * 2, cutA_some (by omega), fun w mm j u hu => src_blk (o := i) m0 (hU.append hR) w mm j u hu⟩) (by simp; omega) rfl ?_
   refine d_on (fun _ m => m.keeps (.cons _ .slnil)) ?_
   refine d_done (by kernel_rfl) ?_
   refine go 5 ?_
   refine o_v rfl (v_slice_lo he rfl rfl i rfl (by omega)) ?_
   refine go 2 ?_
   have hU3 := (((hU.append hR).take (i + 1)).append ((((hU.append hR).drop i).take (l.length - i)).append ((hU.append hR).drop (i + 1 + (((xss ++ rest).drop i).take (l.length - i)).length))))
   refine o_copy [c] i he rfl rfl (by simp; omega) hU3 hV1 (by simpa using Enc.one hc) (fun _ => cutA_some (by omega)) (fun _ => ⟨b, 0, rfl, fun w mm j u hu => (hcI j u (by simpa using hu)).at_ mm.con⟩) (by simp; omega) rfl ?_
   refine go 10 ?_
   refine fin1 rfl rfl ?_
   refine sx_blk_eq (ins_place hlen hi hr1) ?_
   refine sx_unrow (m := l.length + 1) (cap := cap) ((hU.take i).append (fun d hd => by rcases List.mem_cons.1 hd with rfl | hd; exact Enc.len hc; exact hU.drop i d hd)) (hR.drop 1) (by simp <;> omega) (by simp <;> omega) hmax ?_
   exact q_x (by exact ⟨_, by congr 1 <;> omega, (hx.take i).append (.cons hc (hx.drop i))⟩)

theorem insert_Part (I : IMap) (v : Value) (l : List Part) (xss : List (List Value)) (i b yc : Nat) (hx : FlatC I xss l) (hl : l.length ≤ 1000000) (hi : i ≤ l.length) (x : Part) (c c2 : List Value) (hb : I b = some (.cells (c ++ c2).toArray 170 (0, 0))) (hc : Enc.rd I c x) (hyc : 1 ≤ yc) (hyc2 : yc ≤ 9223372036854775807) :
    FnX Tryz.prog 168 #[v, .int .i64 (i : Nat), .slice (some ⟨b, 0, none⟩) 1 yc] I [.row v 170 14 l.length xss.flatten] (fun u r => ∃ zss, r = .row u 170 14 (l.length + 1) zss.flatten ∧ FlatC I zss (l.take i ++ x :: l.drop i)) :=
  FnX.of_row (args := fun v => [v, .int .i64 (i : Nat), .slice (some ⟨b, 0, none⟩) 1 yc]) hx.uk hx.len (fun h0 => by
    obtain rfl := List.eq_nil_of_length_eq_zero h0
    obtain rfl : i = 0 := by simp at hi; omega
    have hcI : ICells I b 0 c := (fun j u hu => ⟨_, _, _, hb, by rw [Nat.zero_add]; simpa using (List.getElem?_append_left (List.getElem?_eq_some_iff.1 hu).1).trans hu⟩)
    exact insertNil_Part I _ x ⟨_, yc, rfl, fun _ => ⟨b, 0, rfl, fun q z hq => by cases q with | zero => (cases hq; exact ⟨c, by simpa using hcI, hc⟩) | succ q => simp at hq⟩, hyc, hyc2⟩)
    (fun g cap rest h1 h2 h3 => insertBlk_Part I l xss rest g cap i b yc hx h1 h2 h3 hl hi x c c2 hb hc hyc hyc2)

theorem put_Part (I : IMap) (v : Value) (l : List Part) (hv : RdS I v l) (hl : l.length ≤ 1000000) (x : Part) (B : Option Addr) (d : Nat) (hr : Enc.rd I (x.cells (.slice B x.props.length d)) x) (f : FuncId) (nm : Part → ByteArray) (hp : ∀ J, ILe I J → ∀ y vs, Enc.rd J vs y → FnV Tryz.prog f #[.agg vs.toArray] J (.string (nm y))) (hs : Srt nm l) :
    FnI Tryz.prog 131 #[v, .agg (x.cells (.slice B x.props.length d)).toArray, .func (.func f) #[] #[]] I (fun u J => RdS J u (putL nm l x)) := by
 refine enter Tryz.func131 Tryz.call131 rfl Tryz.ntmps131 rfl (fun w0 => ?_)
 refine go 3 ?_
 refine o_box _ rfl rfl rfl (fun g4 => ?_)
 refine go 1 ?_
 refine o_box _ rfl rfl rfl (fun g5 => ?_)
 refine go 9 ?_
 refine o_callV (hp _ (ILe.refl _) x _ hr) rfl rfl ?_
 refine sx_pub (fun Ig5 jg5 cg5 => ?_)
 have hv := hv.le jg5
 have hr := Enc.mono jg5 hr
 refine o_v rfl (v_makeFunc rfl rfl) ?_
 refine go 1 ?_
 refine o_callV (bsearch_Part Ig5 v l hv hl (nm x) _ [.pointer (some ⟨g5, 0, none⟩)] nm (fun y vs hr => put1_Part _ y vs hr (nm x) f nm (hp _ jg5 y vs hr) g5 cg5) hs) rfl rfl ?_
 refine go 11 ?_
 refine o_callX0 (clone_Part _ v l hv hl) rfl rfl (fun v20 s20 q20 => ?_)
 obtain ⟨xss, rfl, hx⟩ := q20
 refine go 9 ?_
 refine cb rfl (fun h21 p21 => ?_) (fun h21 p21 => ?_)
 ·have hlt := atF_lt h21
  refine sx_row hx.uk hx.len (fun h0 _ => absurd hlt (by omega)) (fun g20 cap20 rest20 e20 hr20 hc20 hm20 => ?_)
  subst e20
  refine go 5 ?_
  refine o_v rfl (v_idx he rfl rfl rfl (posF nm l (nm x)) (by omega) hlt) ?_
  refine go 1 ?_
  refine o_stc _ (posF nm l (nm x)) (hx.uk.append hr20) he rfl rfl rfl rfl (Enc.one hr) (Nat.zero_add _) (by rw [List.length_append, hx.len]; omega) ?_
  refine sx_blk_eq (List.set_append_left _ _ (by rw [hx.len]; exact hlt)) ?_
  refine sx_unrow (m := l.length) (cap := cap20) (hx.uk.set rfl _) hr20 (by simp [hx.len]) hc20 hm20 ?_
  refine go 10 ?_
  refine fin1 rfl rfl ?_
  refine sx_pubrow (l := l.set (posF nm l (nm x)) x) rfl (by simp) ((hx.set hr _).flat) (fun I9 j9 R9 => ?_)
  exact q_i (by simp only [putL, h21, if_true]; exact R9)
 ·refine go 8 ?_
  refine o_buildSlice he he rfl rfl rfl rfl rfl rfl rfl (fun v30 => ?_)
  refine sx_row (xss := [x.cells (.slice B x.props.length d)]) (fun d hd => by rw [List.mem_singleton.1 hd]; rfl) rfl (fun h => absurd h (by decide)) (fun b30 cap30 rest30 e30 hr30 hc30 hm30 => ?_)
  subst e30
  refine sx_pubB (fun I30 j30 B30 => ?_)
  have hx := hx.le j30
  have hv := hv.le j30
  have hr := Enc.mono j30 hr
  refine go 1 ?_
  refine o_callX1 (insert_Part _ _ l xss (posF nm l (nm x)) b30 cap30 hx hl (pos_le _ _ _) x _ rest30.flatten B30 hr (by omega) (by unfold maxLen at hm30; omega)) rfl rfl (fun v31 s31 q31 => ?_)
  obtain ⟨zss, rfl, hz⟩ := q31
  refine go 4 ?_
  refine fin1 rfl rfl ?_
  refine sx_pubrow (l := l.take (posF nm l (nm x)) ++ x :: l.drop (posF nm l (nm x))) rfl (by have := pos_le nm l (nm x); simp; omega) hz.flat (fun I9 j9 R9 => ?_)
  exact q_i (by simp only [putL, h21]; exact R9)

theorem insert_Prp (I : IMap) (v : Value) (l : List Prp) (xss : List (List Value)) (i b yc : Nat) (hx : FlatC I xss l) (hl : l.length ≤ 1000000) (hi : i ≤ l.length) (x : Prp) (c c2 : List Value) (hb : I b = some (.cells (c ++ c2).toArray 183 (0, 0))) (hc : Enc.rd I c x) (hyc : 1 ≤ yc) (hyc2 : yc ≤ 9223372036854775807) :
    FnX Tryz.prog 177 #[v, .int .i64 (i : Nat), .slice (some ⟨b, 0, none⟩) 1 yc] I [.row v 183 2 l.length xss.flatten] (fun u r => ∃ zss, r = .row u 183 2 (l.length + 1) zss.flatten ∧ FlatC I zss (l.take i ++ x :: l.drop i)) :=
  FnX.of_row (args := fun v => [v, .int .i64 (i : Nat), .slice (some ⟨b, 0, none⟩) 1 yc]) hx.uk hx.len (fun h0 => by
    obtain rfl := List.eq_nil_of_length_eq_zero h0
    obtain rfl : i = 0 := by simp at hi; omega
    have hcI : ICells I b 0 c := (fun j u hu => ⟨_, _, _, hb, by rw [Nat.zero_add]; simpa using (List.getElem?_append_left (List.getElem?_eq_some_iff.1 hu).1).trans hu⟩)
    exact insertNil_Prp I _ x ⟨_, yc, rfl, fun _ => ⟨b, 0, rfl, fun q z hq => by cases q with | zero => (cases hq; exact ⟨c, by simpa using hcI, hc⟩) | succ q => simp at hq⟩, hyc, hyc2⟩)
    (fun g cap rest h1 h2 h3 => insertBlk_Prp I l xss rest g cap i b yc hx h1 h2 h3 hl hi x c c2 hb hc hyc hyc2)

theorem put_Prp (I : IMap) (v : Value) (l : List Prp) (hv : RdS I v l) (hl : l.length ≤ 1000000) (x : Prp)  (hr : Enc.rd I (x.cells) x) (f : FuncId) (nm : Prp → ByteArray) (hp : ∀ J, ILe I J → ∀ y vs, Enc.rd J vs y → FnV Tryz.prog f #[.agg vs.toArray] J (.string (nm y))) (hs : Srt nm l) :
    FnI Tryz.prog 140 #[v, .agg (x.cells).toArray, .func (.func f) #[] #[]] I (fun u J => RdS J u (putL nm l x)) := by
 refine enter Tryz.func140 Tryz.call140 rfl Tryz.ntmps140 rfl (fun w0 => ?_)
 refine go 3 ?_
 refine o_box _ rfl rfl rfl (fun g4 => ?_)
 refine go 1 ?_
 refine o_box _ rfl rfl rfl (fun g5 => ?_)
 refine go 9 ?_
 refine o_callV (hp _ (ILe.refl _) x _ hr) rfl rfl ?_
 refine sx_pub (fun Ig5 jg5 cg5 => ?_)
 have hv := hv.le jg5
 have hr := Enc.mono jg5 hr
 refine o_v rfl (v_makeFunc rfl rfl) ?_
 refine go 1 ?_
 refine o_callV (bsearch_Prp Ig5 v l hv hl (nm x) _ [.pointer (some ⟨g5, 0, none⟩)] nm (fun y vs hr => put1_Prp _ y vs hr (nm x) f nm (hp _ jg5 y vs hr) g5 cg5) hs) rfl rfl ?_
 refine go 11 ?_
 refine o_callX0 (clone_Prp _ v l hv hl) rfl rfl (fun v20 s20 q20 => ?_)
 obtain ⟨xss, rfl, hx⟩ := q20
 refine go 9 ?_
 refine cb rfl (fun h21 p21 => ?_) (fun h21 p21 => ?_)
 ·have hlt := atF_lt h21
  refine sx_row hx.uk hx.len (fun h0 _ => absurd hlt (by omega)) (fun g20 cap20 rest20 e20 hr20 hc20 hm20 => ?_)
  subst e20
  refine go 5 ?_
  refine o_v rfl (v_idx he rfl rfl rfl (posF nm l (nm x)) (by omega) hlt) ?_
  refine go 1 ?_
  refine o_stc _ (posF nm l (nm x)) (hx.uk.append hr20) he rfl rfl rfl rfl (Enc.one hr) (Nat.zero_add _) (by rw [List.length_append, hx.len]; omega) ?_
  refine sx_blk_eq (List.set_append_left _ _ (by rw [hx.len]; exact hlt)) ?_
  refine sx_unrow (m := l.length) (cap := cap20) (hx.uk.set rfl _) hr20 (by simp [hx.len]) hc20 hm20 ?_
  refine go 10 ?_
  refine fin1 rfl rfl ?_
  refine sx_pubrow (l := l.set (posF nm l (nm x)) x) rfl (by simp) ((hx.set hr _).flat) (fun I9 j9 R9 => ?_)
  exact q_i (by simp only [putL, h21, if_true]; exact R9)
 ·refine go 8 ?_
  refine o_buildSlice he he rfl rfl rfl rfl rfl rfl rfl (fun v30 => ?_)
  refine sx_row (xss := [x.cells]) (fun d hd => by rw [List.mem_singleton.1 hd]; rfl) rfl (fun h => absurd h (by decide)) (fun b30 cap30 rest30 e30 hr30 hc30 hm30 => ?_)
  subst e30
  refine sx_pubB (fun I30 j30 B30 => ?_)
  have hx := hx.le j30
  have hv := hv.le j30
  have hr := Enc.mono j30 hr
  refine go 1 ?_
  refine o_callX1 (insert_Prp _ _ l xss (posF nm l (nm x)) b30 cap30 hx hl (pos_le _ _ _) x _ rest30.flatten B30 hr (by omega) (by unfold maxLen at hm30; omega)) rfl rfl (fun v31 s31 q31 => ?_)
  obtain ⟨zss, rfl, hz⟩ := q31
  refine go 4 ?_
  refine fin1 rfl rfl ?_
  refine sx_pubrow (l := l.take (posF nm l (nm x)) ++ x :: l.drop (posF nm l (nm x))) rfl (by have := pos_le nm l (nm x); simp; omega) hz.flat (fun I9 j9 R9 => ?_)
  exact q_i (by simp only [putL, h21]; exact R9)

end Go.Proofs.YtoadjlmbdliceaaGreat

/- Walks, printed by a program out of the code of the functions: each theorem is a contract of one function. -/
namespace Go.Proofs.YtoadjlmbdliceaaGreat
open Go Go.Sx
set_option linter.all false
set_option maxRecDepth 20000
set_option maxHeartbeats 4000000
instance T.pl_134 : Has (plK Tryz.prog 134) [(0, 1)] := ⟨by kernel_rfl⟩
instance T.pl_168 : Has (plK Tryz.prog 168) [(0, 2), (2, 2), (4, 2)] := ⟨by kernel_rfl⟩
instance T.pl_183 : Has (plK Tryz.prog 183) [(0, 1), (1, 1)] := ⟨by kernel_rfl⟩
instance T.ty_168 : Has (tyK Tryz.prog 168) (true, 6) := ⟨by kernel_rfl⟩
instance T.zero_134 : Has (zeroK Tryz.prog 134) [.slice none 0 0] := ⟨by kernel_rfl⟩
instance T.zero_168 : Has (zeroK Tryz.prog 168) [.int .i64 0, .int .i64 0, .int .i64 0, .int .i64 0, .int .i64 0, .int .i64 0] := ⟨by kernel_rfl⟩
theorem apply1 (I : IMap) (v : Value) (l : List Part) (hv : RdS I v l) (hl : l.length ≤ 1000000) (x : Part) (B : Option Addr) (d : Nat) (hr : Enc.rd I (x.cells (.slice B x.props.length d)) x) (g4 : Nat) (c4 : ICells I g4 0 [v]) (hs : Srt Part.name l) :
    FnI Tryz.prog 130 #[.agg (x.cells (.slice B x.props.length d)).toArray, .pointer (some ⟨g4, 0, none⟩)] I (fun u J => ∃ w, u = .tuple #[.agg #[w], .int .i64 0] ∧ RdS J w (putL Part.name l x)) := by
 refine enter Tryz.func130 Tryz.call130 rfl Tryz.ntmps130 rfl (fun w0 => ?_)
 refine go 3 ?_
 refine o_box _ rfl rfl rfl (fun g2 => ?_)
 refine go 1 ?_
 refine o_alloc he rfl (fun g3 => ?_)
 refine go 6 ?_
 refine o_v rfl (v_ldI he rfl (c4 0 _ rfl)) ?_
 refine go 2 ?_
 refine o_call (put_Part _ v l hv hl x B d hr _ Part.name (fun J hJ y vs hr => apply11 J y vs hr) hs) rfl rfl (fun v8 I8 j8 q8 => ?_)
 obtain ⟨B8, d8, rfl, h8⟩ := q8
 refine go 1 ?_
 refine o_val rfl (v_build (pl := [(0, 1)]) he he rfl rfl) ?_
 refine go 1 ?_
 refine o_stw _ he rfl rfl rfl rfl rfl rfl ?_
 refine go 4 ?_
 refine fin2 rfl ⟨_, _, _, rfl, m0, .inr ⟨_, he, rfl, rfl⟩⟩ rfl ?_
 exact q_i ⟨_, rfl, B8, d8, rfl, h8⟩

theorem apply2 (I : IMap) (n : Int) :
    FnV Tryz.prog 133 #[.int .i64 n] I (.tuple #[.agg #[.slice none 0 0], .int .i64 n]) := by
 refine enter Tryz.func133 Tryz.call133 rfl Tryz.ntmps133 rfl (fun w0 => ?_)
 refine go 3 ?_
 refine o_alloc he rfl (fun g2 => ?_)
 refine go 6 ?_
 refine o_val rfl (v_build (pl := [(0, 1)]) he he rfl rfl) ?_
 refine go 2 ?_
 refine o_stw _ he rfl rfl rfl rfl rfl rfl ?_
 refine go 4 ?_
 refine fin2 rfl ⟨_, _, _, rfl, m0, .inr ⟨_, he, rfl, rfl⟩⟩ rfl ?_
 exact q_v rfl

theorem apply3 (I : IMap) (v : Value) (l : List Part) (hv : RdS I v l) (g4 : Nat) (c4 : ICells I g4 0 [v]) (f : FuncId) (cs : List Value) (p : Part → Bool) (hp : ∀ x ∈ l, ∀ vs, Enc.rd I vs x → FnV Tryz.prog f ([Value.agg vs.toArray] ++ cs).toArray I (.bool (p x))) :
    FnV Tryz.prog 136 #[.func (.func f) #[] cs.toArray, .pointer (some ⟨g4, 0, none⟩)] I (.bool (l.any p)) := by
 refine enter Tryz.func136 Tryz.call136 rfl Tryz.ntmps136 rfl (fun w0 => ?_)
 refine go 8 ?_
 refine o_v rfl (v_ldI he rfl (c4 0 _ rfl)) ?_
 refine go 2 ?_
 refine o_callV (containsFunc_Part _ v l hv f cs p hp) rfl rfl ?_
 refine go 4 ?_
 refine fin1 rfl rfl ?_
 exact q_v rfl

theorem apply4 (I : IMap) (x : Part) (vs : List Value) (h : Enc.rd I vs x) (g : Nat) (e : Evt) (cg : ICells I g 0 e.cells) :
    FnV Tryz.prog 139 #[.agg vs.toArray, .pointer (some ⟨g, 0, none⟩)] I (.bool (decide (x.into = e.into) && decide (x.slot = e.slot))) := by
 obtain ⟨ps, rfl, hps⟩ := h
 refine enter Tryz.func139 Tryz.call139 rfl Tryz.ntmps139 rfl (fun w0 => ?_)
 refine go 3 ?_
 refine o_box _ rfl rfl rfl (fun g2 => ?_)
 refine go 8 ?_
 refine o_v rfl (v_ldI he rfl (cg 4 _ rfl)) ?_
 refine go 2 ?_
 refine sxb 9 rfl (fun h9 p9 => ?_) (fun h9 p9 => ?_)
 ·refine go 3 ?_
  refine o_cons (o_yes rfl rfl h9 (o_val rfl (v_ldI he rfl (cg 5 _ rfl)) ?_))
  refine go 6 ?_
  refine fin1 rfl rfl ?_
  exact q_v (congrArg Value.bool (by simp only [h9, bS]))
 ·refine go 10 ?_
  refine fin1 rfl rfl ?_
  exact q_v (congrArg Value.bool (by simp only [h9, bS]))

theorem apply6 (I : IMap) (x : Part) (vs : List Value) (h : Enc.rd I vs x) (g : Nat) (q : Part) (s : Value) (cg : ICells I g 0 (q.cells s)) :
    FnV Tryz.prog 142 #[.agg vs.toArray, .pointer (some ⟨g, 0, none⟩)] I (.bool (decide (x.into = q.name))) := by
 obtain ⟨ps, rfl, hps⟩ := h
 refine enter Tryz.func142 Tryz.call142 rfl Tryz.ntmps142 rfl (fun w0 => ?_)
 refine go 3 ?_
 refine o_box _ rfl rfl rfl (fun g2 => ?_)
 refine go 8 ?_
 refine o_v rfl (v_ldI he rfl (cg 0 _ rfl)) ?_
 refine go 5 ?_
 refine fin1 rfl rfl ?_
 exact q_v rfl

theorem flApply (I : IMap) (vc : Value) (c : List Kind) (hvc : RdS I vc c) (hsc : SmC c) (v : Value) (l : List Part) (hv : RdS I v l) (hsf : SmF l) (e : Evt) (hse : SmE e) :
    FnI Tryz.prog 112 #[.agg #[vc], .agg #[v], .agg e.cells.toArray] I (fun u J => StIs J (applyF c l e) u) := by
 have hv0 := hv
 obtain ⟨A, c0, rfl, hA, hc, hm⟩ := hv
 refine enter Tryz.func112 Tryz.call112 rfl Tryz.ntmps112 rfl (fun w0 => ?_)
 refine go 3 ?_
 refine o_box _ rfl rfl rfl (fun g3 => ?_)
 refine go 1 ?_
 refine o_box _ rfl rfl rfl (fun g4 => ?_)
 refine go 1 ?_
 refine o_box _ rfl rfl rfl (fun g5 => ?_)
 refine go 1 ?_
 refine o_alloc he rfl (fun g6 => ?_)
 refine go 5 ?_
 refine c_cut (I' := I) (L' := [(3, .pointer (some ⟨g3, 0, none⟩)), (4, .pointer (some ⟨g4, 0, none⟩)), (5, .pointer (some ⟨g5, 0, none⟩)), (6, .pointer (some ⟨g6, 0, none⟩)), (28, .bool (!validS c l || !validE e))]) (H' := [.blk g6 134 [.slice none 0 0], .blk g5 56 e.cells, .blk g4 134 [.slice A l.length c0], .blk g3 24 [vc]]) ?_ ?_
 ·refine go 4 ?_
  refine o_callV (flValid _ vc c hvc hsc _ l hv0 hsf) rfl rfl ?_
  refine go 2 ?_
  refine sxb 24 rfl (fun h24 p24 => ?_) (fun h24 p24 => ?_)
  ·refine go 6 ?_
   exact q_cut ⟨rfl, rfl, rfl, rfl, (congrArg (fun b => some (Value.bool b)) (by simp only [h24, bS])), trivial⟩ rfl rfl
  ·refine go 2 ?_
   refine o_yes rfl rfl h24 (o_callV (evValid _ e hse) rfl rfl ?_)
   refine go 4 ?_
   exact q_cut ⟨rfl, rfl, rfl, rfl, (congrArg (fun b => some (Value.bool b)) (by simp only [h24, bS])), trivial⟩ rfl rfl
 ·refine cb rfl (fun h28 p28 => ?_) (fun h28 p28 => ?_)
  ·refine go 3 ?_
   refine o_val rfl (v_build (pl := [(0, 1)]) he he rfl rfl) ?_
   refine go 1 ?_
   refine o_stw _ he rfl rfl rfl rfl rfl rfl ?_
   refine go 5 ?_
   refine fin2 rfl ⟨_, _, _, rfl, m0, .inr ⟨_, he, rfl, rfl⟩⟩ rfl ?_
   exact q_i (StIs.fail (by simp only [applyF, h28, if_true]))
  ·have hV : validS c l = true ∧ validE e = true := by revert h28; simp
   obtain ⟨hsrt, hlen⟩ := validS_ord hV.1
   have hl6 : l.length ≤ 1000000 := by omega
   refine go 6 ?_
   refine o_callX0 (flOf _ _ l hv0) rfl rfl (fun v31 s31 q31 => ?_)
   obtain ⟨m31, kvs, rfl, rfl, hIx⟩ := q31
   refine go 1 ?_
   refine o_alloc he rfl (fun g8 => ?_)
   refine go 1 ?_
   refine o_stw _ he rfl rfl rfl rfl rfl rfl ?_
   refine go 4 ?_
   refine bring4 ?_
   refine sx_pub (fun Ig4 jg4 cg4 => ?_)
   have hvc := hvc.le jg4
   have hv0 := hv0.le jg4
   refine o_v rfl (v_makeFunc rfl rfl) ?_
   refine go 14 ?_
   refine bring1 ?_
   refine o_callK (flGet _ _ l hv0 m31 kvs hIx e.part) rfl rfl (fun v37 q37 => ?_)
   obtain ⟨vs11, rfl, s11, rfl, hs11⟩ := q37
   refine go 4 ?_
   refine o_alloc he rfl (fun g11 => ?_)
   refine go 1 ?_
   refine o_stw _ he rfl rfl rfl rfl rfl (Enc.one (α := Part) (I := Ig4) (x := partP l e) ⟨s11, rfl, hs11⟩) ?_
   refine go 11 ?_
   refine cb rfl (fun h42 p42 => ?_) (fun h42 p42 => ?_)
   ·refine go 6 ?_
    refine cb rfl (fun h43 p43 => ?_) (fun h43 p43 => ?_)
    ·refine go 4 ?_
     refine o_callV (apply2 _ 3) rfl rfl ?_
     refine go 3 ?_
     refine bring3 ?_
     refine o_stw _ he rfl rfl rfl rfl rfl rfl ?_
     refine go 6 ?_
     refine fin2 rfl ⟨_, _, _, rfl, m0, .inr ⟨_, he, rfl, rfl⟩⟩ rfl ?_
     exact q_i (StIs.fail (by simp only [applyF, h28, p42, applyMake, h43, Bool.true_eq_false, decide_true, decide_false, Int.reduceEq, reduceIte, if_true, if_false, Bool.false_eq_true, not_true, not_false_eq_true, bS]))
    ·refine go 9 ?_
     refine o_callE (catFind _ vc c hvc e.kind) rfl rfl (fun v52 q52 => ?_)
     obtain ⟨vs13, rfl, s13, rfl, hs13⟩ := q52
     refine go 4 ?_
     refine o_alloc he rfl (fun g13 => ?_)
     refine go 1 ?_
     refine o_stw _ he rfl rfl rfl rfl rfl (Enc.one (α := Kind) (I := Ig4) (x := (findK c e.kind).getD zKind) ⟨s13, rfl, hs13⟩) ?_
     refine go 9 ?_
     refine cb rfl (fun h56 p56 => ?_) (fun h56 p56 => ?_)
     ·refine go 4 ?_
      refine o_callV (apply2 _ 4) rfl rfl ?_
      refine go 3 ?_
      refine bring4 ?_
      refine o_stw _ he rfl rfl rfl rfl rfl rfl ?_
      refine go 6 ?_
      refine fin2 rfl ⟨_, _, _, rfl, m0, .inr ⟨_, he, rfl, rfl⟩⟩ rfl ?_
      exact q_i (StIs.fail (by simp only [applyF, h28, p42, applyMake, h43, p56, Bool.true_eq_false, decide_true, decide_false, Int.reduceEq, reduceIte, if_true, if_false, Bool.false_eq_true, not_true, not_false_eq_true, bS]))
     ·refine go 6 ?_
      refine o_v rfl (v_ldI he rfl (cg4 0 _ rfl)) ?_
      refine go 4 ?_
      refine cb rfl (fun h64 p64 => ?_) (fun h64 p64 => ?_)
      ·refine go 4 ?_
       refine o_callV (apply2 _ 7) rfl rfl ?_
       refine go 3 ?_
       refine bring4 ?_
       refine o_stw _ he rfl rfl rfl rfl rfl rfl ?_
       refine go 6 ?_
       refine fin2 rfl ⟨_, _, _, rfl, m0, .inr ⟨_, he, rfl, rfl⟩⟩ rfl ?_
       exact q_i (StIs.fail (by simp only [applyF, h28, p42, applyMake, h43, p56, p64, Bool.true_eq_false, Bool.true_eq_false, decide_true, decide_false, Int.reduceEq, reduceIte, if_true, if_false, Bool.false_eq_true, not_true, not_false_eq_true, bS]))
      ·refine go 14 ?_
       refine o_val rfl (v_build (pl := [(0, 1), (1, 1), (2, 1), (3, 1), (4, 1), (5, 1), (6, 1), (7, 1), (8, 6)]) he he rfl rfl) ?_
       refine go 1 ?_
       refine o_call (apply1 _ _ l hv0 hl6 (newP e) none 0 ⟨_, rfl, RdS.nil'⟩ g4 cg4 hsrt) rfl rfl (fun v79 I79 j79 q79 => ?_)
       obtain ⟨w79, rfl, ⟨B79, d79, rfl, hw79⟩⟩ := q79
       refine go 3 ?_
       refine bring4 ?_
       refine o_stw _ he rfl rfl rfl rfl rfl rfl ?_
       refine go 5 ?_
       refine fin2 rfl ⟨_, _, _, rfl, m0, .inr ⟨_, he, rfl, rfl⟩⟩ rfl ?_
       exact q_i (StIs.put (by simp only [applyF, h28, p42, applyMake, h43, p56, p64, Bool.true_eq_false, Bool.true_eq_false, decide_true, decide_false, Int.reduceEq, reduceIte, if_true, if_false, Bool.false_eq_true, not_true, not_false_eq_true, bS]) ⟨B79, d79, rfl, hw79⟩)
   ·refine go 7 ?_
    refine o_alloc he rfl (fun g15 => ?_)
    refine go 1 ?_
    refine o_stw _ he rfl rfl rfl rfl rfl (Enc.one (α := Part) (I := Ig4) (x := partP l e) ⟨s11, rfl, hs11⟩) ?_
    refine go 4 ?_
    refine c_cutx (α := Value) (Ix := (fun s15 => Ig4)) (Lx := (fun s15 => [(3, .pointer (some ⟨g3, 0, none⟩)), (4, .pointer (some ⟨g4, 0, none⟩)), (5, .pointer (some ⟨g5, 0, none⟩)), (6, .pointer (some ⟨g6, 0, none⟩)), (9, .func (.func 130) #[] #[.pointer (some ⟨g4, 0, none⟩)]), (10, .func (.func 133) #[] #[]), (11, .pointer (some ⟨g11, 0, none⟩)), (12, .bool (findP l e.part).isSome), (15, .pointer (some ⟨g15, 0, none⟩)), (16, .bool (otherO l e).isSome)])) (Hx := (fun s15 => [.blk g15 170 ((otherP l e).cells s15), .blk g11 170 ((partP l e).cells s11), .blk g6 134 [.slice none 0 0], .blk g5 56 e.cells, .blk g3 24 [vc]])) (p := (fun s15 => RdS Ig4 s15 (otherP l e).props)) ?_ ?_
    ·refine go 7 ?_
     refine cb rfl (fun h86 p86 => ?_) (fun h86 p86 => ?_)
     ·refine go 5 ?_
      refine bring2 ?_
      refine o_callK (flGet _ _ l hv0 m31 kvs hIx e.into) rfl rfl (fun v91 q91 => ?_)
      obtain ⟨vs15, rfl, s15, rfl, hs15⟩ := q91
      refine go 4 ?_
      refine bring1 ?_
      refine o_stw _ he rfl rfl rfl rfl rfl (Enc.one (α := Part) (I := Ig4) (x := (findP l e.into).getD zPart) ⟨s15, rfl, hs15⟩) ?_
      refine go 3 ?_
      refine bring1 ?_
      refine sx_drop ?_
      refine bring2 ?_
      refine sx_drop ?_
      exact q_cutx s15 (by simp only [otherP, otherO, p86, if_true]; exact hs15) ⟨rfl, rfl, rfl, rfl, rfl, rfl, rfl, rfl, rfl, (by simp only [otherO, p86, if_true, if_false]; rfl), trivial⟩ (by simp only [otherP, otherO, p86, if_true, if_false]; rfl) rfl
     ·refine go 2 ?_
      refine bring2 ?_
      refine sx_drop ?_
      refine bring2 ?_
      refine sx_drop ?_
      exact q_cutx s11 (by simp only [otherP, otherO, p86, if_false]; exact hs11) ⟨rfl, rfl, rfl, rfl, rfl, rfl, rfl, rfl, rfl, (by simp only [otherO, p86, if_true, if_false]; rfl), trivial⟩ (by simp only [otherP, otherO, p86, if_true, if_false]; rfl) rfl
    ·intro s15 hs15
     refine go 6 ?_
     refine sxb 96 rfl (fun h96 p96 => ?_) (fun h96 p96 => ?_)
     ·refine go 5 ?_
      refine c_true rfl ?_
      refine go 4 ?_
      refine o_callV (apply2 _ 2) rfl rfl ?_
      refine go 3 ?_
      refine bring2 ?_
      refine o_stw _ he rfl rfl rfl rfl rfl rfl ?_
      refine go 5 ?_
      refine fin2 rfl ⟨_, _, _, rfl, m0, .inr ⟨_, he, rfl, rfl⟩⟩ rfl ?_
      exact q_i (StIs.fail (by simp only [applyF, h28, p42, applyRest, h96, Bool.true_eq_false, decide_true, decide_false, Int.reduceEq, reduceIte, if_true, if_false, Bool.false_eq_true, not_true, not_false_eq_true, bS]))
     ·refine go 5 ?_
      refine cb rfl (fun h99 p99 => ?_) (fun h99 p99 => ?_)
      ·refine go 4 ?_
       refine o_callV (apply2 _ 2) rfl rfl ?_
       refine go 3 ?_
       refine bring2 ?_
       refine o_stw _ he rfl rfl rfl rfl rfl rfl ?_
       refine go 5 ?_
       refine fin2 rfl ⟨_, _, _, rfl, m0, .inr ⟨_, he, rfl, rfl⟩⟩ rfl ?_
       exact q_i (StIs.fail (by simp only [applyF, h28, p42, applyRest, h96, h99, Bool.true_eq_false, decide_true, decide_false, Int.reduceEq, reduceIte, if_true, if_false, Bool.false_eq_true, not_true, not_false_eq_true, bS]))
      ·have hmem : partP l e ∈ l := partP_mem (by simpa using h96)
       refine go 8 ?_
       refine sxb 106 rfl (fun h106 p106 => ?_) (fun h106 p106 => ?_)
       ·refine go 5 ?_
        refine c_true rfl ?_
        refine go 4 ?_
        refine o_callV (apply2 _ 5) rfl rfl ?_
        refine go 3 ?_
        refine bring2 ?_
        refine o_stw _ he rfl rfl rfl rfl rfl rfl ?_
        refine go 5 ?_
        refine fin2 rfl ⟨_, _, _, rfl, m0, .inr ⟨_, he, rfl, rfl⟩⟩ rfl ?_
        exact q_i (StIs.fail (by simp only [applyF, h28, p42, applyRest, h96, h99, h106, Bool.true_eq_false, decide_true, decide_false, Int.reduceEq, reduceIte, if_true, if_false, Bool.false_eq_true, not_true, not_false_eq_true, bS]))
       ·refine go 5 ?_
        refine cb rfl (fun h109 p109 => ?_) (fun h109 p109 => ?_)
        ·refine go 4 ?_
         refine o_callV (apply2 _ 5) rfl rfl ?_
         refine go 3 ?_
         refine bring2 ?_
         refine o_stw _ he rfl rfl rfl rfl rfl rfl ?_
         refine go 5 ?_
         refine fin2 rfl ⟨_, _, _, rfl, m0, .inr ⟨_, he, rfl, rfl⟩⟩ rfl ?_
         exact q_i (StIs.fail (by simp only [applyF, h28, p42, applyRest, h96, h99, h106, h109, Bool.true_eq_false, decide_true, decide_false, Int.reduceEq, reduceIte, if_true, if_false, Bool.false_eq_true, not_true, not_false_eq_true, bS]))
        ·refine go 4 ?_
         refine o_v rfl (v_makeFunc rfl rfl) ?_
         refine go 9 ?_
         refine o_callE (catFind _ vc c hvc (partP l e).kind) rfl rfl (fun v119 q119 => ?_)
         obtain ⟨vs18, rfl, s18, rfl, hs18⟩ := q119
         refine go 4 ?_
         refine o_alloc he rfl (fun g18 => ?_)
         refine go 1 ?_
         refine o_stw _ he rfl rfl rfl rfl rfl (Enc.one (α := Kind) (I := Ig4) (x := kindP c l e) ⟨s18, rfl, hs18⟩) ?_
         refine go 4 ?_
         refine c_cutx3 (Ix := (fun J p2 s2 => J)) (Lx := (fun J p2 s2 => [(6, .pointer (some ⟨g6, 0, none⟩)), (9, .func (.func 130) #[] #[.pointer (some ⟨g4, 0, none⟩)]), (11, .pointer (some ⟨g11, 0, none⟩))])) (Hx := (fun J p2 s2 => [.blk g11 170 (p2.cells s2), .blk g6 134 [.slice none 0 0]])) (p := (fun J p2 s2 => ILe Ig4 J ∧ RdS J s2 p2.props ∧ applyF c l e = putR l p2)) ?_ ?_
         ·refine go 13 ?_
          refine cb rfl (fun h124 p124 => ?_) (fun h124 p124 => ?_)
          ·refine go 7 ?_
           refine sxb 129 rfl (fun h129 p129 => ?_) (fun h129 p129 => ?_)
           ·refine go 13 ?_
            refine c_true rfl ?_
            refine go 4 ?_
            refine o_callV (apply2 _ 4) rfl rfl ?_
            refine go 3 ?_
            refine bring3 ?_
            refine o_stw _ he rfl rfl rfl rfl rfl rfl ?_
            refine go 8 ?_
            refine fin2 rfl ⟨_, _, _, rfl, m0, .inr ⟨_, he, rfl, rfl⟩⟩ rfl ?_
            exact q_i (StIs.fail (by simp only [applyF, h28, p42, applyRest, applyOp, applyFit, applyRemove, applyRun, applyNote, applyScrap, seatTaken, holdsAny, kindP, noted, p28, p42, p96, p99, p106, p109, p124, p129, h96, h99, h106, h109, h124, h129, Bool.true_eq_false, decide_true, decide_false, Int.reduceEq, reduceIte, if_true, if_false, Bool.false_eq_true, not_true, not_false_eq_true, bS]))
           ·refine go 8 ?_
            refine o_yes rfl rfl h129 (o_callV (catTakes _ vc c hvc (otherP l e).kind e.slot (partP l e).kind) rfl rfl ?_)
            refine go 5 ?_
            refine cb rfl (fun h126 p126 => ?_) (fun h126 p126 => ?_)
            ·refine go 4 ?_
             refine o_callV (apply2 _ 4) rfl rfl ?_
             refine go 3 ?_
             refine bring3 ?_
             refine o_stw _ he rfl rfl rfl rfl rfl rfl ?_
             refine go 8 ?_
             refine fin2 rfl ⟨_, _, _, rfl, m0, .inr ⟨_, he, rfl, rfl⟩⟩ rfl ?_
             exact q_i (StIs.fail (by simp only [applyF, h28, p42, applyRest, applyOp, applyFit, applyRemove, applyRun, applyNote, applyScrap, seatTaken, holdsAny, kindP, noted, p28, p42, p96, p99, p106, p109, p124, p129, p126, h96, h99, h106, h109, h124, h129, h126, Bool.true_eq_false, decide_true, decide_false, Int.reduceEq, reduceIte, if_true, if_false, Bool.false_eq_true, not_true, not_false_eq_true, bS]))
            ·refine go 8 ?_
             refine cb rfl (fun h144 p144 => ?_) (fun h144 p144 => ?_)
             ·refine go 4 ?_
              refine o_callV (apply2 _ 5) rfl rfl ?_
              refine go 3 ?_
              refine bring3 ?_
              refine o_stw _ he rfl rfl rfl rfl rfl rfl ?_
              refine go 8 ?_
              refine fin2 rfl ⟨_, _, _, rfl, m0, .inr ⟨_, he, rfl, rfl⟩⟩ rfl ?_
              exact q_i (StIs.fail (by simp only [applyF, h28, p42, applyRest, applyOp, applyFit, applyRemove, applyRun, applyNote, applyScrap, seatTaken, holdsAny, kindP, noted, p28, p42, p96, p99, p106, p109, p124, p129, p126, p144, h96, h99, h106, h109, h124, h129, h126, h144, Bool.true_eq_false, decide_true, decide_false, Int.reduceEq, reduceIte, if_true, if_false, Bool.false_eq_true, not_true, not_false_eq_true, bS]))
             ·refine go 3 ?_
              refine bring4 ?_
              refine sx_pub (fun Ig5 jg5 cg5 => ?_)
              have hvc := hvc.le jg5
              have hv0 := hv0.le jg5
              have cg4 := cg4.le jg5
              have hs11 := hs11.le jg5
              have hs18 := hs18.le jg5
              refine o_v rfl (v_makeFunc rfl rfl) ?_
              refine go 1 ?_
              refine o_callV (apply3 _ _ l hv0 g4 cg4 _ [.pointer (some ⟨g5, 0, none⟩)] (fun x => decide (x.into = e.into) && decide (x.slot = e.slot)) (fun x hx vs hr => apply4 _ x vs hr g5 e cg5)) rfl rfl ?_
              refine go 3 ?_
              refine cb rfl (fun h152 p152 => ?_) (fun h152 p152 => ?_)
              ·refine go 4 ?_
               refine o_callV (apply2 _ 6) rfl rfl ?_
               refine go 3 ?_
               refine bring3 ?_
               refine o_stw _ he rfl rfl rfl rfl rfl rfl ?_
               refine go 8 ?_
               refine fin2 rfl ⟨_, _, _, rfl, m0, .inr ⟨_, he, rfl, rfl⟩⟩ rfl ?_
               exact q_i (StIs.fail (by simp only [applyF, h28, p42, applyRest, applyOp, applyFit, applyRemove, applyRun, applyNote, applyScrap, seatTaken, holdsAny, kindP, noted, p28, p42, p96, p99, p106, p109, p124, p129, p126, p144, p152, h96, h99, h106, h109, h124, h129, h126, h144, h152, Bool.true_eq_false, decide_true, decide_false, Int.reduceEq, reduceIte, if_true, if_false, Bool.false_eq_true, not_true, not_false_eq_true, bS]))
              ·refine go 3 ?_
               refine bring2 ?_
               refine d_start1 T.mixed ?_
               refine d_tv 0 rfl rfl (by kernel_rfl) rfl (.cons _ (.refl _)) rfl (v_fieldAddr he rfl) ?_
               refine d_tv 1 rfl rfl (by kernel_rfl) rfl (.cons _ (.refl _)) rfl (v_ldI he rfl (cg5 4 _ rfl)) ?_
               refine d_tv 2 rfl rfl (by kernel_rfl) rfl (.cons _ (.refl _)) rfl (v_fieldAddr he rfl) ?_
               refine d_tv 3 rfl rfl (by kernel_rfl) rfl (.cons _ (.refl _)) rfl (v_ldI he rfl (cg5 5 _ rfl)) ?_
               refine d_tv 4 rfl rfl (by kernel_rfl) rfl (.cons _ (.refl _)) rfl (v_fieldAddr he rfl) ?_
               refine d_one 5 (by kernel_rfl) rfl ?_
               refine o_st1 he rfl rfl rfl rfl ?_
               refine d_on (fun _ m => m.keeps (.cons _ (.refl _))) ?_
               refine d_tv 6 rfl rfl (by kernel_rfl) rfl (.cons _ (.refl _)) rfl (v_fieldAddr he rfl) ?_
               refine d_one 7 (by kernel_rfl) rfl ?_
               refine o_st1 he rfl rfl rfl rfl ?_
               refine d_on (fun _ m => m.keeps (.cons _ (.refl _))) ?_
               refine d_done (by kernel_rfl) ?_
               refine go 2 ?_
               refine bring1 ?_
               refine sx_drop ?_
               refine bring1 ?_
               refine sx_drop ?_
               refine bring2 ?_
               refine sx_drop ?_
               exact q_cutx3 (_) ({ partP l e with into := e.into, slot := e.slot }) (_) ⟨jg5, hs11, by simp only [applyF, h28, p42, applyRest, h96, h99, h106, h109, applyOp, applyFit, applyRemove, applyRun, applyNote, applyScrap, seatTaken, holdsAny, kindP, noted, overhauled, p28, p42, p96, p99, p106, p109, p124, p129, p126, p144, p152, h96, h99, h106, h109, h124, h129, h126, h144, h152, Bool.true_eq_false, decide_true, decide_false, Int.reduceEq, reduceIte, if_true, if_false, Bool.false_eq_true, not_true, not_false_eq_true, bS]⟩ sb rfl rfl
          ·refine go 6 ?_
           refine cb rfl (fun h166 p166 => ?_) (fun h166 p166 => ?_)
           ·refine go 8 ?_
            refine cb rfl (fun h170 p170 => ?_) (fun h170 p170 => ?_)
            ·refine go 4 ?_
             refine o_callV (apply2 _ 5) rfl rfl ?_
             refine go 3 ?_
             refine bring3 ?_
             refine o_stw _ he rfl rfl rfl rfl rfl rfl ?_
             refine go 7 ?_
             refine fin2 rfl ⟨_, _, _, rfl, m0, .inr ⟨_, he, rfl, rfl⟩⟩ rfl ?_
             exact q_i (StIs.fail (by simp only [applyF, h28, p42, applyRest, applyOp, applyFit, applyRemove, applyRun, applyNote, applyScrap, seatTaken, holdsAny, kindP, noted, p28, p42, p96, p99, p106, p109, p124, p166, p170, h96, h99, h106, h109, h124, h166, h170, Bool.true_eq_false, decide_true, decide_false, Int.reduceEq, reduceIte, if_true, if_false, Bool.false_eq_true, not_true, not_false_eq_true, bS]))
            ·refine go 5 ?_
             refine bring2 ?_
             refine o_st1 he rfl rfl rfl rfl ?_
             refine go 2 ?_
             refine o_st1 he rfl rfl rfl rfl ?_
             refine go 3 ?_
             refine bring1 ?_
             refine sx_drop ?_
             refine bring1 ?_
             refine sx_drop ?_
             refine bring2 ?_
             refine sx_drop ?_
             refine bring2 ?_
             refine sx_drop ?_
             exact q_cutx3 (_) ({ partP l e with into := nil8, slot := nil8 }) (_) ⟨ILe.refl _, hs11, by simp only [applyF, h28, p42, applyRest, h96, h99, h106, h109, applyOp, applyFit, applyRemove, applyRun, applyNote, applyScrap, seatTaken, holdsAny, kindP, noted, overhauled, p28, p42, p96, p99, p106, p109, p124, p166, p170, h96, h99, h106, h109, h124, h166, h170, Bool.true_eq_false, decide_true, decide_false, Int.reduceEq, reduceIte, if_true, if_false, Bool.false_eq_true, not_true, not_false_eq_true, bS]⟩ sb rfl rfl
           ·refine go 6 ?_
            refine cb rfl (fun h177 p177 => ?_) (fun h177 p177 => ?_)
            ·refine go 7 ?_
             refine cb rfl (fun h181 p181 => ?_) (fun h181 p181 => ?_)
             ·refine go 4 ?_
              refine o_callV (apply2 _ 4) rfl rfl ?_
              refine go 3 ?_
              refine bring3 ?_
              refine o_stw _ he rfl rfl rfl rfl rfl rfl ?_
              refine go 6 ?_
              refine fin2 rfl ⟨_, _, _, rfl, m0, .inr ⟨_, he, rfl, rfl⟩⟩ rfl ?_
              exact q_i (StIs.fail (by simp only [applyF, h28, p42, applyRest, applyOp, applyFit, applyRemove, applyRun, applyNote, applyScrap, seatTaken, holdsAny, kindP, noted, p28, p42, p96, p99, p106, p109, p124, p166, p177, p181, h96, h99, h106, h109, h124, h166, h177, h181, Bool.true_eq_false, decide_true, decide_false, Int.reduceEq, reduceIte, if_true, if_false, Bool.false_eq_true, not_true, not_false_eq_true, bS]))
             ·refine go 3 ?_
              refine sx_drop ?_
              refine sx_drop ?_
              refine bring2 ?_
              refine sx_drop ?_
              refine bring2 ?_
              refine sx_drop ?_
              exact q_cutx3 (_) (partP l e) (_) ⟨ILe.refl _, hs11, by simp only [applyF, h28, p42, applyRest, h96, h99, h106, h109, applyOp, applyFit, applyRemove, applyRun, applyNote, applyScrap, seatTaken, holdsAny, kindP, noted, overhauled, p28, p42, p96, p99, p106, p109, p124, p166, p177, p181, h96, h99, h106, h109, h124, h166, h177, h181, Bool.true_eq_false, decide_true, decide_false, Int.reduceEq, reduceIte, if_true, if_false, Bool.false_eq_true, not_true, not_false_eq_true, bS]⟩ sb rfl rfl
            ·refine go 6 ?_
             refine cb rfl (fun h186 p186 => ?_) (fun h186 p186 => ?_)
             ·refine go 5 ?_
              refine o_v rfl (v_imax rfl rfl) ?_
              refine go 1 ?_
              refine o_val rfl (v_build (pl := [(0, 2), (2, 2), (4, 2)]) he he rfl rfl) ?_
              refine go 2 ?_
              refine bring2 ?_
              refine o_st1 he rfl rfl rfl rfl ?_
              refine go 2 ?_
              refine o_st _ _ he rfl rfl rfl rfl rfl rfl rfl ?_
              refine go 3 ?_
              refine bring1 ?_
              refine sx_drop ?_
              refine bring1 ?_
              refine sx_drop ?_
              refine bring2 ?_
              refine sx_drop ?_
              refine bring2 ?_
              refine sx_drop ?_
              exact q_cutx3 (_) (overhauled e (partP l e)) (_) ⟨ILe.refl _, hs11, by simp only [applyF, h28, p42, applyRest, h96, h99, h106, h109, applyOp, applyFit, applyRemove, applyRun, applyNote, applyScrap, seatTaken, holdsAny, kindP, noted, overhauled, p28, p42, p96, p99, p106, p109, p124, p166, p177, p186, h96, h99, h106, h109, h124, h166, h177, h186, Bool.true_eq_false, decide_true, decide_false, Int.reduceEq, reduceIte, if_true, if_false, Bool.false_eq_true, not_true, not_false_eq_true, bS]⟩ sb rfl rfl
             ·refine go 6 ?_
              refine cb rfl (fun h196 p196 => ?_) (fun h196 p196 => ?_)
              ·refine go 9 ?_
               refine o_val rfl (v_build (pl := [(0, 1), (1, 1)]) he he rfl rfl) ?_
               refine go 1 ?_
               refine o_call (put_Prp _ s11 (partP l e).props hs11 (by have := (validS_part hV.1 hmem).2; omega) ⟨e.key, e.value⟩ rfl _ Prp.key (fun J hJ y vs hr => apply5 J y vs hr) (validS_part hV.1 hmem).1) rfl rfl (fun v205 I205 j205 q205 => ?_)
               obtain ⟨B205, d205, rfl, h205⟩ := q205
               refine go 2 ?_
               refine bring2 ?_
               refine o_st1 he rfl rfl rfl rfl ?_
               refine go 10 ?_
               refine cb rfl (fun h210 p210 => ?_) (fun h210 p210 => ?_)
               ·refine go 4 ?_
                refine o_callV (apply2 _ 7) rfl rfl ?_
                refine go 3 ?_
                refine bring3 ?_
                refine o_stw _ he rfl rfl rfl rfl rfl rfl ?_
                refine go 6 ?_
                refine fin2 rfl ⟨_, _, _, rfl, m0, .inr ⟨_, he, rfl, rfl⟩⟩ rfl ?_
                exact q_i (StIs.fail (by simp only [applyF, h28, p42, applyRest, applyOp, applyFit, applyRemove, applyRun, applyNote, applyScrap, seatTaken, holdsAny, kindP, noted, p28, p42, p96, p99, p106, p109, p124, p166, p177, p186, p196, p210, h96, h99, h106, h109, h124, h166, h177, h186, h196, h210, Bool.true_eq_false, decide_true, decide_false, Int.reduceEq, reduceIte, if_true, if_false, Bool.false_eq_true, not_true, not_false_eq_true, bS]))
               ·refine go 3 ?_
                refine bring1 ?_
                refine sx_drop ?_
                refine bring1 ?_
                refine sx_drop ?_
                refine bring2 ?_
                refine sx_drop ?_
                refine bring2 ?_
                refine sx_drop ?_
                exact q_cutx3 (_) (noted e (partP l e)) (_) ⟨j205, ⟨B205, d205, rfl, h205⟩, by simp only [applyF, h28, p42, applyRest, h96, h99, h106, h109, applyOp, applyFit, applyRemove, applyRun, applyNote, applyScrap, seatTaken, holdsAny, kindP, noted, overhauled, p28, p42, p96, p99, p106, p109, p124, p166, p177, p186, p196, p210, h96, h99, h106, h109, h124, h166, h177, h186, h196, h210, Bool.true_eq_false, decide_true, decide_false, Int.reduceEq, reduceIte, if_true, if_false, Bool.false_eq_true, not_true, not_false_eq_true, bS]⟩ sb rfl rfl
              ·refine go 6 ?_
               refine cb rfl (fun h215 p215 => ?_) (fun h215 p215 => ?_)
               ·refine go 7 ?_
                refine sxb 220 rfl (fun h220 p220 => ?_) (fun h220 p220 => ?_)
                ·refine go 6 ?_
                 refine c_true rfl ?_
                 refine go 4 ?_
                 refine o_callV (apply2 _ 5) rfl rfl ?_
                 refine go 3 ?_
                 refine bring3 ?_
                 refine o_stw _ he rfl rfl rfl rfl rfl rfl ?_
                 refine go 7 ?_
                 refine fin2 rfl ⟨_, _, _, rfl, m0, .inr ⟨_, he, rfl, rfl⟩⟩ rfl ?_
                 exact q_i (StIs.fail (by simp only [applyF, h28, p42, applyRest, applyOp, applyFit, applyRemove, applyRun, applyNote, applyScrap, seatTaken, holdsAny, kindP, noted, p28, p42, p96, p99, p106, p109, p124, p166, p177, p186, p196, p215, p220, h96, h99, h106, h109, h124, h166, h177, h186, h196, h215, h220, Bool.true_eq_false, decide_true, decide_false, Int.reduceEq, reduceIte, if_true, if_false, Bool.false_eq_true, not_true, not_false_eq_true, bS]))
                ·refine go 1 ?_
                 refine o_cons (o_yes rfl rfl h220 (o_val rfl (v_makeFunc rfl rfl) ?_))
                 refine go 1 ?_
                 refine o_yes rfl rfl h220 (o_lendB m2 (fun I2 hI2 c2 => apply3 I2 _ l (hv0.le hI2) g4 (cg4.le hI2) _ [.pointer (some ⟨g11, 0, none⟩)] (fun x => decide (x.into = (partP l e).name)) (fun x hx vs hr => apply6 I2 x vs hr g11 _ _ c2)) rfl rfl ?_)
                 refine go 3 ?_
                 refine cb rfl (fun h224 p224 => ?_) (fun h224 p224 => ?_)
                 ·refine go 4 ?_
                  refine o_callV (apply2 _ 5) rfl rfl ?_
                  refine go 3 ?_
                  refine bring3 ?_
                  refine o_stw _ he rfl rfl rfl rfl rfl rfl ?_
                  refine go 7 ?_
                  refine fin2 rfl ⟨_, _, _, rfl, m0, .inr ⟨_, he, rfl, rfl⟩⟩ rfl ?_
                  exact q_i (StIs.fail (by simp only [applyF, h28, p42, applyRest, applyOp, applyFit, applyRemove, applyRun, applyNote, applyScrap, seatTaken, holdsAny, kindP, noted, p28, p42, p96, p99, p106, p109, p124, p166, p177, p186, p196, p215, p220, p224, h96, h99, h106, h109, h124, h166, h177, h186, h196, h215, h220, h224, Bool.true_eq_false, decide_true, decide_false, Int.reduceEq, reduceIte, if_true, if_false, Bool.false_eq_true, not_true, not_false_eq_true, bS]))
                 ·refine go 5 ?_
                  refine bring2 ?_
                  refine o_st1 he rfl rfl rfl rfl ?_
                  refine go 3 ?_
                  refine bring1 ?_
                  refine sx_drop ?_
                  refine bring1 ?_
                  refine sx_drop ?_
                  refine bring2 ?_
                  refine sx_drop ?_
                  refine bring2 ?_
                  refine sx_drop ?_
                  exact q_cutx3 (_) ({ partP l e with scrapped := true }) (_) ⟨ILe.refl _, hs11, by simp only [applyF, h28, p42, applyRest, h96, h99, h106, h109, applyOp, applyFit, applyRemove, applyRun, applyNote, applyScrap, seatTaken, holdsAny, kindP, noted, overhauled, p28, p42, p96, p99, p106, p109, p124, p166, p177, p186, p196, p215, p220, p224, h96, h99, h106, h109, h124, h166, h177, h186, h196, h215, h220, h224, Bool.true_eq_false, decide_true, decide_false, Int.reduceEq, reduceIte, if_true, if_false, Bool.false_eq_true, not_true, not_false_eq_true, bS]⟩ sb rfl rfl
               ·refine go 3 ?_
                refine sx_drop ?_
                refine sx_drop ?_
                refine bring2 ?_
                refine sx_drop ?_
                refine bring2 ?_
                refine sx_drop ?_
                exact q_cutx3 (_) (partP l e) (_) ⟨ILe.refl _, hs11, by simp only [applyF, h28, p42, applyRest, h96, h99, h106, h109, applyOp, applyFit, applyRemove, applyRun, applyNote, applyScrap, seatTaken, holdsAny, kindP, noted, overhauled, p28, p42, p96, p99, p106, p109, p124, p166, p177, p186, p196, p215, h96, h99, h106, h109, h124, h166, h177, h186, h196, h215, Bool.true_eq_false, decide_true, decide_false, Int.reduceEq, reduceIte, if_true, if_false, Bool.false_eq_true, not_true, not_false_eq_true, bS]⟩ sb rfl rfl
         ·rintro J p2 s2 ⟨hJ, ⟨B2, d2, rfl, hB2⟩, hA⟩
          refine go 5 ?_
          refine o_call (apply1 _ _ l (hv0.le hJ) hl6 p2 B2 d2 ⟨_, rfl, B2, d2, rfl, hB2⟩ g4 (cg4.le hJ) hsrt) rfl rfl (fun v232 I232 j232 q232 => ?_)
          obtain ⟨w232, rfl, ⟨B232, d232, rfl, hw232⟩⟩ := q232
          refine go 3 ?_
          refine bring1 ?_
          refine o_stw _ he rfl rfl rfl rfl rfl rfl ?_
          refine go 4 ?_
          refine fin2 rfl ⟨_, _, _, rfl, m0, .inr ⟨_, he, rfl, rfl⟩⟩ rfl ?_
          exact q_i (StIs.put hA ⟨B232, d232, rfl, hw232⟩)

end Go.Proofs.YtoadjlmbdliceaaGreat

/- Walks, printed by a program out of the code of the functions: each theorem is a contract of one function. -/
namespace Go.Proofs.YtoadjlmbdliceaaGreat
open Go Go.Sx
set_option linter.all false
set_option maxRecDepth 20000
set_option maxHeartbeats 4000000
theorem ref09Ivl (I : IMap) (x : Ivl) :
    FnV Tryz.prog 156 #[.agg x.cells.toArray] I (.bool (ivlR x)) := by
 refine enter Tryz.func156 Tryz.call156 rfl Tryz.ntmps156 rfl (fun w0 => ?_)
 refine go 3 ?_
 refine o_box _ rfl rfl rfl (fun g1 => ?_)
 refine go 9 ?_
 refine sxb 6 rfl (fun h6 p6 => ?_) (fun h6 p6 => ?_)
 ·refine go 7 ?_
  refine sxb 13 rfl (fun h13 p13 => ?_) (fun h13 p13 => ?_)
  ·refine go 8 ?_
   refine fin1 rfl rfl ?_
   exact q_v (congrArg Value.bool (by simp only [ivlR, h6, h13, bS]))
  ·refine go 8 ?_
   refine fin1 rfl rfl ?_
   exact q_v (congrArg Value.bool (by simp only [ivlR, h6, h13, bS]))
 ·refine go 15 ?_
  refine fin1 rfl rfl ?_
  exact q_v (congrArg Value.bool (by simp only [ivlR, h6, bS]))

theorem ref09Use (I : IMap) (x : Use) :
    FnV Tryz.prog 122 #[.agg x.cells.toArray] I (.bool (useR x)) := by
 refine enter Tryz.func122 Tryz.call122 rfl Tryz.ntmps122 rfl (fun w0 => ?_)
 refine go 3 ?_
 refine o_box _ rfl rfl rfl (fun g1 => ?_)
 refine go 6 ?_
 refine o_v rfl (v_ldp (x.km.cells) m0 he rfl rfl rfl) ?_
 refine go 1 ?_
 refine o_callV (ref09Ivl _ x.km) rfl rfl ?_
 refine go 1 ?_
 refine sxb 6 rfl (fun h6 p6 => ?_) (fun h6 p6 => ?_)
 ·refine go 1 ?_
  refine o_cons (o_yes rfl rfl h6 (o_val rfl (v_ldp (x.cycles.cells) m0 he rfl rfl rfl) ?_))
  refine go 1 ?_
  refine o_yes rfl rfl h6 (o_callV (ref09Ivl _ x.cycles) rfl rfl ?_)
  refine go 2 ?_
  refine sxb 11 rfl (fun h11 p11 => ?_) (fun h11 p11 => ?_)
  ·refine go 1 ?_
   refine o_cons (o_yes rfl rfl h11 (o_val rfl (v_ldp (x.load.cells) m0 he rfl rfl rfl) ?_))
   refine go 1 ?_
   refine o_yes rfl rfl h11 (o_callV (ref09Ivl _ x.load) rfl rfl ?_)
   refine go 5 ?_
   refine fin1 rfl rfl ?_
   exact q_v (congrArg Value.bool (by simp only [useR, h6, h11, bS]))
  ·refine go 8 ?_
   refine fin1 rfl rfl ?_
   exact q_v (congrArg Value.bool (by simp only [useR, h6, h11, bS]))
 ·refine go 13 ?_
  refine fin1 rfl rfl ?_
  exact q_v (congrArg Value.bool (by simp only [useR, h6, bS]))

theorem ref09Valid (I : IMap) (e : Evt) (hs : SmE e) :
    FnV Tryz.prog 105 #[.agg e.cells.toArray] I (.bool (validE e)) := by
 refine enter Tryz.func105 Tryz.call105 rfl Tryz.ntmps105 rfl (fun w0 => ?_)
 refine go 3 ?_
 refine o_box _ rfl rfl rfl (fun g1 => ?_)
 refine go 5 ?_
 refine c_cut (I' := I) (L' := [(1, .pointer (some ⟨g1, 0, none⟩)), (28, .bool (evBadR e))]) (H' := [.blk g1 56 e.cells]) ?_ ?_
 ·refine go 5 ?_
  refine sxb 8 rfl (fun h8 p8 => ?_) (fun h8 p8 => ?_)
  ·refine go 22 ?_
   exact q_cut ⟨rfl, (congrArg (fun b => some (Value.bool b)) (by simp only [evBadR, h8, bS])), trivial⟩ rfl rfl
  ·refine go 5 ?_
   refine sxb 13 rfl (fun h13 p13 => ?_) (fun h13 p13 => ?_)
   ·refine go 17 ?_
    exact q_cut ⟨rfl, (congrArg (fun b => some (Value.bool b)) (by simp only [evBadR, h8, h13, bS])), trivial⟩ rfl rfl
   ·refine go 5 ?_
    refine sxb 18 rfl (fun h18 p18 => ?_) (fun h18 p18 => ?_)
    ·refine go 12 ?_
     exact q_cut ⟨rfl, (congrArg (fun b => some (Value.bool b)) (by simp only [evBadR, h8, h13, h18, bS])), trivial⟩ rfl rfl
    ·refine go 5 ?_
     refine sxb 23 rfl (fun h23 p23 => ?_) (fun h23 p23 => ?_)
     ·refine go 7 ?_
      exact q_cut ⟨rfl, (congrArg (fun b => some (Value.bool b)) (by simp only [evBadR, h8, h13, h18, h23, bS])), trivial⟩ rfl rfl
     ·refine go 3 ?_
      refine o_yes rfl rfl h23 (o_callV (name05 _ _ hs.1) rfl rfl ?_)
      refine go 4 ?_
      exact q_cut ⟨rfl, (congrArg (fun b => some (Value.bool b)) (by simp only [evBadR, h8, h13, h18, h23, bS])), trivial⟩ rfl rfl
 ·refine cb rfl (fun h28 p28 => ?_) (fun h28 p28 => ?_)
  ·refine go 7 ?_
   refine fin1 rfl rfl ?_
   exact q_v (congrArg Value.bool (by rw [← validER_eq]; simp only [validER, h28]; rfl))
  ·refine go 11 ?_
   refine o_val rfl (v_build (pl := [(0, 1), (1, 1), (2, 1), (3, 1), (4, 1), (5, 1), (6, 1), (7, 1), (8, 6)]) he he rfl rfl) ?_
   refine go 1 ?_
   refine o_alloc he rfl (fun g3 => ?_)
   refine go 1 ?_
   refine o_stw _ he rfl rfl rfl rfl rfl rfl ?_
   refine go 8 ?_
   refine c_cut (I' := I) (L' := [(1, .pointer (some ⟨g1, 0, none⟩)), (3, .pointer (some ⟨g3, 0, none⟩)), (4, .bool (goodR e))]) (H' := [.blk g3 56 (keepR e).cells, .blk g1 56 e.cells]) ?_ ?_
   ·refine go 13 ?_
    refine cb rfl (fun h38 p38 => ?_) (fun h38 p38 => ?_)
    ·refine go 6 ?_
     refine o_st1 he rfl rfl rfl rfl ?_
     refine go 6 ?_
     refine o_callV (name05 _ _ hs.2.1) rfl rfl ?_
     refine go 4 ?_
     exact q_cut ⟨rfl, rfl, (congrArg (fun b => some (Value.bool b)) (by simp only [goodR, p28, p38, h28, h38, Int.reduceEq, reduceIte, if_true, if_false, decide_true, decide_false, bS])), trivial⟩ (by rw [keepR, if_pos p38]; rfl) rfl
    ·refine go 6 ?_
     refine cb rfl (fun h46 p46 => ?_) (fun h46 p46 => ?_)
     ·refine go 6 ?_
      refine o_st1 he rfl rfl rfl rfl ?_
      refine go 8 ?_
      refine o_st1 he rfl rfl rfl rfl ?_
      refine go 6 ?_
      refine o_callV (name05 _ _ hs.2.2.1) rfl rfl ?_
      refine go 1 ?_
      refine sxb 57 rfl (fun h57 p57 => ?_) (fun h57 p57 => ?_)
      ·refine go 3 ?_
       refine o_yes rfl rfl h57 (o_callV (name05 _ _ hs.2.2.2.1) rfl rfl ?_)
       refine go 2 ?_
       refine sxb 62 rfl (fun h62 p62 => ?_) (fun h62 p62 => ?_)
       ·refine go 10 ?_
        exact q_cut ⟨rfl, rfl, (congrArg (fun b => some (Value.bool b)) (by simp only [goodR, p28, p38, p46, p57, p62, h28, h38, h46, h57, h62, Int.reduceEq, reduceIte, if_true, if_false, decide_true, decide_false, bS])), trivial⟩ (by rw [keepR, if_neg p38, if_pos p46]; rfl) rfl
       ·refine go 10 ?_
        exact q_cut ⟨rfl, rfl, (congrArg (fun b => some (Value.bool b)) (by simp only [goodR, p28, p38, p46, p57, p62, h28, h38, h46, h57, h62, Int.reduceEq, reduceIte, if_true, if_false, decide_true, decide_false, bS])), trivial⟩ (by rw [keepR, if_neg p38, if_pos p46]; rfl) rfl
      ·refine go 15 ?_
       exact q_cut ⟨rfl, rfl, (congrArg (fun b => some (Value.bool b)) (by simp only [goodR, p28, p38, p46, p57, h28, h38, h46, h57, Int.reduceEq, reduceIte, if_true, if_false, decide_true, decide_false, bS])), trivial⟩ (by rw [keepR, if_neg p38, if_pos p46]; rfl) rfl
     ·refine go 6 ?_
      refine cb rfl (fun h69 p69 => ?_) (fun h69 p69 => ?_)
      ·refine go 3 ?_
       refine o_v rfl (v_ldp (e.use.cells) m1 he rfl rfl rfl) ?_
       refine go 2 ?_
       refine o_st _ _ he rfl rfl rfl rfl rfl rfl rfl ?_
       refine go 4 ?_
       refine o_v rfl (v_ldp (e.use.cells) m1 he rfl rfl rfl) ?_
       refine go 1 ?_
       refine o_callV (ref09Use _ e.use) rfl rfl ?_
       refine go 4 ?_
       exact q_cut ⟨rfl, rfl, (congrArg (fun b => some (Value.bool b)) (by simp only [goodR, p28, p38, p46, p69, h28, h38, h46, h69, Int.reduceEq, reduceIte, if_true, if_false, decide_true, decide_false, bS])), trivial⟩ (by rw [keepR, if_neg p38, if_neg p46, if_pos p69]; rfl) rfl
      ·refine go 6 ?_
       refine cb rfl (fun h77 p77 => ?_) (fun h77 p77 => ?_)
       ·refine go 6 ?_
        refine o_st1 he rfl rfl rfl rfl ?_
        refine go 8 ?_
        refine o_st1 he rfl rfl rfl rfl ?_
        refine go 6 ?_
        refine o_callV (name05 _ _ hs.2.2.2.2.1) rfl rfl ?_
        refine go 1 ?_
        refine sxb 88 rfl (fun h88 p88 => ?_) (fun h88 p88 => ?_)
        ·refine go 6 ?_
         refine sxb 94 rfl (fun h94 p94 => ?_) (fun h94 p94 => ?_)
         ·refine go 9 ?_
          exact q_cut ⟨rfl, rfl, (congrArg (fun b => some (Value.bool b)) (by simp only [goodR, p28, p38, p46, p69, p77, p88, p94, h28, h38, h46, h69, h77, h88, h94, Int.reduceEq, reduceIte, if_true, if_false, decide_true, decide_false, bS])), trivial⟩ (by rw [keepR, if_neg p38, if_neg p46, if_neg p69, if_pos p77]; rfl) rfl
         ·refine go 9 ?_
          exact q_cut ⟨rfl, rfl, (congrArg (fun b => some (Value.bool b)) (by simp only [goodR, p28, p38, p46, p69, p77, p88, p94, h28, h38, h46, h69, h77, h88, h94, Int.reduceEq, reduceIte, if_true, if_false, decide_true, decide_false, bS])), trivial⟩ (by rw [keepR, if_neg p38, if_neg p46, if_neg p69, if_pos p77]; rfl) rfl
        ·refine go 15 ?_
         exact q_cut ⟨rfl, rfl, (congrArg (fun b => some (Value.bool b)) (by simp only [goodR, p28, p38, p46, p69, p77, p88, h28, h38, h46, h69, h77, h88, Int.reduceEq, reduceIte, if_true, if_false, decide_true, decide_false, bS])), trivial⟩ (by rw [keepR, if_neg p38, if_neg p46, if_neg p69, if_pos p77]; rfl) rfl
       ·refine go 3 ?_
        exact q_cut ⟨rfl, rfl, (congrArg (fun b => some (Value.bool b)) (by simp only [goodR, p28, p38, p46, p69, p77, h28, h38, h46, h69, h77, Int.reduceEq, reduceIte, if_true, if_false, decide_true, decide_false, bS])), trivial⟩ (by rw [keepR, if_neg p38, if_neg p46, if_neg p69, if_neg p77]; rfl) rfl
   ·refine go 4 ?_
    refine sxb 101 rfl (fun h101 p101 => ?_) (fun h101 p101 => ?_)
    ·refine go 2 ?_
     refine o_cons (o_yes rfl rfl h101 (o_val rfl (v_steql T.eqg_56 (eqS_Evt (keepR e) e) rfl rfl) ?_))
     refine go 5 ?_
     refine fin1 rfl rfl ?_
     exact q_v (congrArg Value.bool (by rw [← validER_eq]; simp only [validER, h28, h101, bS]))
    ·refine go 8 ?_
     refine fin1 rfl rfl ?_
     exact q_v (congrArg Value.bool (by rw [← validER_eq]; simp only [validER, h28, h101, bS]))

theorem ref08get (I : IMap) (v : Value) (l : List Kind) (hv : RdS I v l) (k s : ByteArray) :
    FnE Tryz.prog 208 #[.agg #[v], .string k, .string s] I (SlotIs I (slotF l k s)) := by
 refine enter Tryz.func208 Tryz.call208 rfl Tryz.ntmps208 rfl (fun w0 => ?_)
 refine go 3 ?_
 refine o_box _ rfl rfl rfl (fun g3 => ?_)
 refine go 1 ?_
 refine o_alloc he rfl (fun g6 => ?_)
 refine go 8 ?_
 refine o_callE (refFind I _ l hv k) rfl rfl (fun v14 q14 => ?_)
 obtain ⟨vs, rfl, ss, rfl, hsl⟩ := q14
 obtain ⟨A, c0, rfl, hA, hc, hm⟩ := hsl
 refine go 4 ?_
 refine o_alloc he rfl (fun g8 => ?_)
 refine go 1 ?_
 refine o_stw _ he rfl rfl rfl rfl rfl (by rfl) ?_
 refine go 10 ?_
 refine bring2 ?_
 refine sx_drop ?_
 refine c_loop (α := Nat) 0 (fun i => I)
  (fun i => [(2, .string s), (6, .pointer (some ⟨g6, 0, none⟩)), (8, .pointer (some ⟨g8, 0, none⟩)), (10, .int .i64 ((i : Nat) : Int))])
  (fun i => [.blk g8 82 (((findK l k).getD zKind).cells (.slice A ((findK l k).getD zKind).slots.length c0)), .blk g6 84 [.string ⟨#[]⟩, .slice none 0 0, .int .i64 0]])
  (fun i => i ≤ ((findK l k).getD zKind).slots.length ∧ ∀ j x, j < i → ((findK l k).getD zKind).slots[j]? = some x → (fun x => decide (Slot.name x = s)) x = false)
  (fun i => ((findK l k).getD zKind).slots.length - i) ⟨Nat.zero_le _, fun j x hj => absurd hj (Nat.not_lt_zero j)⟩ rfl sb rfl ?_
 intro i ⟨hi, hn⟩
 refine go 10 ?_
 refine cb rfl (fun h21 p21 => ?_) (fun h21 p21 => ?_)
 ·have hlt : i < ((findK l k).getD zKind).slots.length := by omega
  refine go 9 ?_
  obtain ⟨b27, o27, w27, e27, c27, r27⟩ := RdA.at_ hA (i := i) hlt
  obtain ⟨q27, rfl, B27, d27, rfl, hB27, hd27, hm27⟩ := r27
  refine o_v rfl (v_idx he rfl rfl e27 (i) (by omega) hlt) ?_
  refine go 1 ?_
  refine o_v rfl (v_ldI he rfl (c27 0 _ rfl)) ?_
  refine go 4 ?_
  refine cb rfl (fun h31 p31 => ?_) (fun h31 p31 => ?_)
  ·refine go 5 ?_
   obtain ⟨b35, o35, w35, e35, c35, r35⟩ := RdA.at_ hA (i := i) hlt
   obtain ⟨q35, rfl, B35, d35, rfl, hB35, hd35, hm35⟩ := r35
   refine o_v rfl (v_idx he rfl rfl e35 (i) (by omega) hlt) ?_
   refine o_v rfl (v_ldIa he rfl c35 rfl) ?_
   refine go 1 ?_
   refine bring1 ?_
   refine o_stw _ he rfl rfl rfl rfl rfl rfl ?_
   refine go 9 ?_
   refine fin2 rfl ⟨_, _, _, rfl, m0, .inr ⟨_, he, rfl, rfl⟩⟩ rfl ?_
   exact q_e (SlotIs.of (find_at (p := fun x => decide (Slot.name x = s)) hlt h31 hn) ⟨_, rfl, B35, d35, rfl, hB35, hd35, hm35⟩)
  ·refine go 9 ?_
   exact q_next (i + 1) ⟨by omega, idx_next (p := fun x => decide (Slot.name x = s)) hn hlt h31⟩ (by omega) rfl sb rfl
 ·refine go 8 ?_
  refine o_val rfl (v_build (pl := [(0, 1), (1, 1), (2, 1)]) he he rfl rfl) ?_
  refine go 1 ?_
  refine bring1 ?_
  refine o_stw _ he rfl rfl rfl rfl rfl rfl ?_
  refine go 4 ?_
  refine fin2 rfl ⟨_, _, _, rfl, m0, .inr ⟨_, he, rfl, rfl⟩⟩ rfl ?_
  exact q_e (SlotIs.none (find_no (p := fun x => decide (Slot.name x = s)) (fun j x hj => hn j x (by omega))))

theorem ref08Takes (I : IMap) (v : Value) (l : List Kind) (hv : RdS I v l) (k s p : ByteArray) :
    FnV Tryz.prog 187 #[.agg #[v], .string k, .string s, .string p] I (.bool (takesF l k s p)) := by
 refine enter Tryz.func187 Tryz.call187 rfl Tryz.ntmps187 rfl (fun w0 => ?_)
 refine go 3 ?_
 refine o_box _ rfl rfl rfl (fun g4 => ?_)
 refine go 9 ?_
 refine o_callE (ref08get I _ l hv k s) rfl rfl (fun v15 q15 => ?_)
 obtain ⟨vs, rfl, ss, rfl, hsl⟩ := q15
 refine go 4 ?_
 refine o_alloc he rfl (fun g9 => ?_)
 refine go 1 ?_
 refine o_stw _ he rfl rfl rfl rfl rfl (by simp [Slot.cells, hsl.one]; exact ⟨rfl, rfl⟩) ?_
 refine go 7 ?_
 refine sxb 19 rfl (fun h19 p19 => ?_) (fun h19 p19 => ?_)
 ·refine go 4 ?_
  refine o_yes rfl rfl h19 (o_callV (in08 I _ _ p hsl) rfl rfl ?_)
  refine go 5 ?_
  refine fin1 rfl rfl ?_
  exact q_v (congrArg Value.bool (by revert h19; unfold takesF; cases slotF l k s <;> simp))
 ·refine go 9 ?_
  refine fin1 rfl rfl ?_
  exact q_v (congrArg Value.bool (by revert h19; unfold takesF; cases slotF l k s <;> simp))

theorem ref10amount (I : IMap) (x : Ivl) :
    FnV Tryz.prog 207 #[.agg x.cells.toArray] I (.bool (lifeOk x)) := by
 refine enter Tryz.func207 Tryz.call207 rfl Tryz.ntmps207 rfl (fun w0 => ?_)
 refine go 3 ?_
 refine o_box _ rfl rfl rfl (fun g1 => ?_)
 refine go 9 ?_
 refine sxb 6 rfl (fun h6 p6 => ?_) (fun h6 p6 => ?_)
 ·refine go 7 ?_
  refine sxb 13 rfl (fun h13 p13 => ?_) (fun h13 p13 => ?_)
  ·refine go 8 ?_
   refine fin1 rfl rfl ?_
   exact q_v (congrArg Value.bool (by simp only [lifeOk, h6, h13, bS]))
  ·refine go 8 ?_
   refine fin1 rfl rfl ?_
   exact q_v (congrArg Value.bool (by simp only [lifeOk, h6, h13, bS]))
 ·refine go 15 ?_
  refine fin1 rfl rfl ?_
  exact q_v (congrArg Value.bool (by simp only [lifeOk, h6, bS]))

theorem ref10own (I : IMap) (v : Value) (l : List Kind) (hv : RdS I v l) (p : Part) (D : Option Addr) (d : Nat) (hD : RdS I (.slice D p.props.length d) p.props) (hs : SmP p) :
    FnV Tryz.prog 185 #[.agg #[v], .agg (p.cells (.slice D p.props.length d)).toArray] I (.bool (rightP l p)) := by
 have hDA : RdA I D p.props := (by obtain ⟨_, _, e, h, _⟩ := hD; cases e; exact h)
 have hDl : p.props.length ≤ d ∧ d ≤ 9223372036854775807 := (by obtain ⟨_, _, e, h, h1, h2⟩ := hD; cases e; exact ⟨h1, h2⟩)
 refine enter Tryz.func185 Tryz.call185 rfl Tryz.ntmps185 rfl (fun w0 => ?_)
 refine go 3 ?_
 refine o_box _ rfl rfl rfl (fun g2 => ?_)
 refine go 1 ?_
 refine o_box _ rfl rfl rfl (fun g3 => ?_)
 refine go 9 ?_
 refine o_callE (refFind I _ l hv p.kind) rfl rfl (fun v13 q13 => ?_)
 obtain ⟨vs, rfl, ss, rfl, hsl⟩ := q13
 refine go 4 ?_
 refine o_alloc he rfl (fun g5 => ?_)
 refine go 1 ?_
 refine o_stw _ he rfl rfl rfl rfl rfl (by simp [Kind.cells, hsl.one]; exact ⟨rfl, rfl⟩) ?_
 refine go 5 ?_
 refine c_cut (I' := I) (L' := [(2, .pointer (some ⟨g2, 0, none⟩)), (3, .pointer (some ⟨g3, 0, none⟩)), (46, .bool (ownBadR l p))]) (H' := [.blk g3 170 (p.cells (.slice D p.props.length d)), .blk g2 24 [v]]) ?_ ?_
 ·refine go 4 ?_
  refine sxb 18 rfl (fun h18 p18 => ?_) (fun h18 p18 => ?_)
  ·refine go 30 ?_
   refine sx_drop ?_
   exact q_cut ⟨rfl, rfl, (congrArg (fun b => some (Value.bool b)) (by simp only [ownBadR, h18, bS])), trivial⟩ rfl rfl
  ·refine go 3 ?_
   refine o_yes rfl rfl h18 (o_callV (name05 _ _ hs.1) rfl rfl ?_)
   refine go 3 ?_
   refine sxb 24 rfl (fun h24 p24 => ?_) (fun h24 p24 => ?_)
   ·refine go 24 ?_
    refine sx_drop ?_
    exact q_cut ⟨rfl, rfl, (congrArg (fun b => some (Value.bool b)) (by simp only [ownBadR, h18, h24, bS])), trivial⟩ rfl rfl
   ·refine go 5 ?_
    refine sxb 29 rfl (fun h29 p29 => ?_) (fun h29 p29 => ?_)
    ·refine go 19 ?_
     refine sx_drop ?_
     exact q_cut ⟨rfl, rfl, (congrArg (fun b => some (Value.bool b)) (by simp only [ownBadR, h18, h24, h29, bS])), trivial⟩ rfl rfl
    ·refine go 7 ?_
     refine sxb 36 rfl (fun h36 p36 => ?_) (fun h36 p36 => ?_)
     ·refine go 12 ?_
      refine sx_drop ?_
      exact q_cut ⟨rfl, rfl, (congrArg (fun b => some (Value.bool b)) (by simp only [ownBadR, h18, h24, h29, h36, bS])), trivial⟩ rfl rfl
     ·refine go 5 ?_
      refine sxb 41 rfl (fun h41 p41 => ?_) (fun h41 p41 => ?_)
      ·refine go 7 ?_
       refine sx_drop ?_
       exact q_cut ⟨rfl, rfl, (congrArg (fun b => some (Value.bool b)) (by simp only [ownBadR, h18, h24, h29, h36, h41, bS])), trivial⟩ rfl rfl
      ·refine go 7 ?_
       refine sx_drop ?_
       exact q_cut ⟨rfl, rfl, (congrArg (fun b => some (Value.bool b)) (by simp only [ownBadR, h18, h24, h29, h36, h41, bS])), trivial⟩ rfl rfl
 ·refine cb rfl (fun h46 p46 => ?_) (fun h46 p46 => ?_)
  ·refine go 7 ?_
   refine fin1 rfl rfl ?_
   exact q_v (congrArg Value.bool (by rw [← ownR_eq]; simp only [ownR, h46]; rfl))
  ·refine go 9 ?_
   refine c_loop (α := Nat) 0 (fun i => I)
    (fun i => [(2, .pointer (some ⟨g2, 0, none⟩)), (3, .pointer (some ⟨g3, 0, none⟩)), (7, .int .i64 ((i : Nat) : Int))])
    (fun i => [.blk g3 170 (p.cells (.slice D p.props.length d)), .blk g2 24 [v]])
    (fun i => i ≤ p.props.length ∧ allP propR p.props i = true)
    (fun i => p.props.length - i) ⟨Nat.zero_le _, rfl⟩ rfl sb rfl ?_
   intro i ⟨hi, hn⟩
   refine go 10 ?_
   refine cb rfl (fun h51 p51 => ?_) (fun h51 p51 => ?_)
   ·have hlt : i < p.props.length := by omega
    refine go 9 ?_
    obtain ⟨b57, o57, w57, e57, c57, r57⟩ := RdA.at_ hDA (i := i) hlt
    obtain rfl := r57
    refine o_v rfl (v_idx he rfl rfl e57 (i) (by omega) hlt) ?_
    refine o_v rfl (v_ldIa he rfl c57 rfl) ?_
    refine go 1 ?_
    refine o_alloc he rfl (fun g8 => ?_)
    refine go 1 ?_
    refine o_stw _ he rfl rfl rfl rfl rfl rfl ?_
    refine go 3 ?_
    refine c_cut (I' := I) (L' := [(2, .pointer (some ⟨g2, 0, none⟩)), (3, .pointer (some ⟨g3, 0, none⟩)), (7, .int .i64 ((i : Nat) : Int)), (90, .bool (((!nameRef p.props[i].key || decide (((p.props[i].value.size : Nat) : Int) < 1)) || decide ((200 : Int) < (p.props[i].value.size : Nat))) || notAfter Prp.key (p.props.take i) p.props[i]))]) (H' := [.blk g3 170 (p.cells (.slice D p.props.length d)), .blk g2 24 [v]]) ?_ ?_
    ·refine d_startH T.mixed ?_
     refine d_tv 0 rfl rfl (by kernel_rfl) rfl (.refl _) rfl (v_fieldAddr he rfl) ?_
     refine d_tv 1 rfl rfl (by kernel_rfl) rfl (.refl _) rfl (v_ld m0 he rfl rfl) ?_
     refine d_one 2 (by kernel_rfl) rfl ?_
     refine o_callV (name05 _ _ (hs.2 _ (List.getElem_mem hlt))) rfl rfl ?_
     refine d_on (fun _ m => m.keeps (.refl _)) ?_
     refine d_tv 3 rfl rfl (by kernel_rfl) rfl (.refl _) rfl (v_not rfl) ?_
     refine d_tv 4 rfl rfl (by kernel_rfl) rfl (.refl _) rfl (v_move rfl) ?_
     refine sxb 63 rfl (fun h63 p63 => ?_) (fun h63 p63 => ?_)
     ·refine d_t 5 rfl rfl (by kernel_rfl) rfl (fun _ m => m.keeps (.refl _)) (y_no rfl rfl h63) ?_
      refine d_t 6 rfl rfl (by kernel_rfl) rfl (fun _ m => m.keeps (.refl _)) (y_no rfl rfl h63) ?_
      refine d_t 7 rfl rfl (by kernel_rfl) rfl (fun _ m => m.keeps (.refl _)) (y_no rfl rfl h63) ?_
      refine d_t 8 rfl rfl (by kernel_rfl) rfl (fun _ m => m.keeps (.refl _)) (y_no rfl rfl h63) ?_
      refine d_tv 9 rfl rfl (by kernel_rfl) rfl (.refl _) rfl (v_or_t h63 rfl) ?_
      refine d_tv 10 rfl rfl (by kernel_rfl) rfl (.refl _) rfl (v_move rfl) ?_
      refine d_t 11 rfl rfl (by kernel_rfl) rfl (fun _ m => m.keeps (.refl _)) (y_no rfl rfl rfl) ?_
      refine d_t 12 rfl rfl (by kernel_rfl) rfl (fun _ m => m.keeps (.refl _)) (y_no rfl rfl rfl) ?_
      refine d_t 13 rfl rfl (by kernel_rfl) rfl (fun _ m => m.keeps (.refl _)) (y_no rfl rfl rfl) ?_
      refine d_t 14 rfl rfl (by kernel_rfl) rfl (fun _ m => m.keeps (.refl _)) (y_no rfl rfl rfl) ?_
      refine d_tv 15 rfl rfl (by kernel_rfl) rfl (.refl _) rfl (v_or_t rfl rfl) ?_
      refine d_tv 16 rfl rfl (by kernel_rfl) rfl (.refl _) rfl (v_move rfl) ?_
      refine d_t 17 rfl rfl (by kernel_rfl) rfl (fun _ m => m.keeps (.refl _)) (y_no rfl rfl rfl) ?_
      refine d_t 18 rfl rfl (by kernel_rfl) rfl (fun _ m => m.keeps (.refl _)) (y_no rfl rfl rfl) ?_
      refine d_t 19 rfl rfl (by kernel_rfl) rfl (fun _ m => m.keeps (.refl _)) (y_no rfl rfl rfl) ?_
      refine d_t 20 rfl rfl (by kernel_rfl) rfl (fun _ m => m.keeps (.refl _)) (y_nou rfl rfl) ?_
      refine d_t 21 rfl rfl (by kernel_rfl) rfl (fun _ m => m.keeps (.refl _)) (y_nou rfl rfl) ?_
      refine d_t 22 rfl rfl (by kernel_rfl) rfl (fun _ m => m.keeps (.refl _)) (y_nou rfl rfl) ?_
      refine d_t 23 rfl rfl (by kernel_rfl) rfl (fun _ m => m.keeps (.refl _)) (y_nou rfl rfl) ?_
      refine d_t 24 rfl rfl (by kernel_rfl) rfl (fun _ m => m.keeps (.refl _)) (y_nou rfl rfl) ?_
      refine d_t 25 rfl rfl (by kernel_rfl) rfl (fun _ m => m.keeps (.refl _)) (y_nou rfl rfl) ?_
      refine d_t 26 rfl rfl (by kernel_rfl) rfl (fun _ m => m.keeps (.refl _)) (y_nou rfl rfl) ?_
      refine d_t 27 rfl rfl (by kernel_rfl) rfl (fun _ m => m.keeps (.refl _)) (y_nou rfl rfl) ?_
      refine d_t 28 rfl rfl (by kernel_rfl) rfl (fun _ m => m.keeps (.refl _)) (y_nou rfl rfl) ?_
      refine d_t 29 rfl rfl (by kernel_rfl) rfl (fun _ m => m.keeps (.refl _)) (y_nou rfl rfl) ?_
      refine d_t 30 rfl rfl (by kernel_rfl) rfl (fun _ m => m.keeps (.refl _)) (y_no rfl rfl rfl) ?_
      refine d_tv 31 rfl rfl (by kernel_rfl) rfl (.refl _) rfl (v_or_t rfl rfl) ?_
      refine d_done (by kernel_rfl) ?_
      refine go 1 ?_
      refine sx_drop ?_
      exact q_cut ⟨rfl, rfl, rfl, (congrArg (fun b => some (Value.bool b)) (by first | (simp only [h51, h63, bS]; done) | (simp only [notAfter_at (nm := Prp.key) h0i hlt, h51, h63, bS]; done) | (simp only [notAfter_zero (nm := Prp.key) (l := p.props) h0i, h51, h63, bS]; done))), trivial⟩ rfl rfl
     ·refine d_t 5 rfl rfl (by kernel_rfl) rfl (fun _ m => m.keeps (.refl _)) (y_yes rfl rfl h63 (v_fieldAddr he rfl)) ?_
      refine d_t 6 rfl rfl (by kernel_rfl) rfl (fun _ m => m.keeps (.refl _)) (y_yes rfl rfl h63 (v_ld m0 he rfl rfl)) ?_
      refine d_t 7 rfl rfl (by kernel_rfl) rfl (fun _ m => m.keeps (.refl _)) (y_yes rfl rfl h63 (v_len_str he rfl)) ?_
      refine d_t 8 rfl rfl (by kernel_rfl) rfl (fun _ m => m.keeps (.refl _)) (y_yes rfl rfl h63 (v_lss rfl rfl)) ?_
      refine d_tv 9 rfl rfl (by kernel_rfl) rfl (.refl _) rfl (v_or_f h63 rfl rfl) ?_
      refine d_tv 10 rfl rfl (by kernel_rfl) rfl (.refl _) rfl (v_move rfl) ?_
      refine sxb 69 rfl (fun h69 p69 => ?_) (fun h69 p69 => ?_)
      ·refine d_t 11 rfl rfl (by kernel_rfl) rfl (fun _ m => m.keeps (.refl _)) (y_no rfl rfl h69) ?_
       refine d_t 12 rfl rfl (by kernel_rfl) rfl (fun _ m => m.keeps (.refl _)) (y_no rfl rfl h69) ?_
       refine d_t 13 rfl rfl (by kernel_rfl) rfl (fun _ m => m.keeps (.refl _)) (y_no rfl rfl h69) ?_
       refine d_t 14 rfl rfl (by kernel_rfl) rfl (fun _ m => m.keeps (.refl _)) (y_no rfl rfl h69) ?_
       refine d_tv 15 rfl rfl (by kernel_rfl) rfl (.refl _) rfl (v_or_t h69 rfl) ?_
       refine d_tv 16 rfl rfl (by kernel_rfl) rfl (.refl _) rfl (v_move rfl) ?_
       refine d_t 17 rfl rfl (by kernel_rfl) rfl (fun _ m => m.keeps (.refl _)) (y_no rfl rfl rfl) ?_
       refine d_t 18 rfl rfl (by kernel_rfl) rfl (fun _ m => m.keeps (.refl _)) (y_no rfl rfl rfl) ?_
       refine d_t 19 rfl rfl (by kernel_rfl) rfl (fun _ m => m.keeps (.refl _)) (y_no rfl rfl rfl) ?_
       refine d_t 20 rfl rfl (by kernel_rfl) rfl (fun _ m => m.keeps (.refl _)) (y_nou rfl rfl) ?_
       refine d_t 21 rfl rfl (by kernel_rfl) rfl (fun _ m => m.keeps (.refl _)) (y_nou rfl rfl) ?_
       refine d_t 22 rfl rfl (by kernel_rfl) rfl (fun _ m => m.keeps (.refl _)) (y_nou rfl rfl) ?_
       refine d_t 23 rfl rfl (by kernel_rfl) rfl (fun _ m => m.keeps (.refl _)) (y_nou rfl rfl) ?_
       refine d_t 24 rfl rfl (by kernel_rfl) rfl (fun _ m => m.keeps (.refl _)) (y_nou rfl rfl) ?_
       refine d_t 25 rfl rfl (by kernel_rfl) rfl (fun _ m => m.keeps (.refl _)) (y_nou rfl rfl) ?_
       refine d_t 26 rfl rfl (by kernel_rfl) rfl (fun _ m => m.keeps (.refl _)) (y_nou rfl rfl) ?_
       refine d_t 27 rfl rfl (by kernel_rfl) rfl (fun _ m => m.keeps (.refl _)) (y_nou rfl rfl) ?_
       refine d_t 28 rfl rfl (by kernel_rfl) rfl (fun _ m => m.keeps (.refl _)) (y_nou rfl rfl) ?_
       refine d_t 29 rfl rfl (by kernel_rfl) rfl (fun _ m => m.keeps (.refl _)) (y_nou rfl rfl) ?_
       refine d_t 30 rfl rfl (by kernel_rfl) rfl (fun _ m => m.keeps (.refl _)) (y_no rfl rfl rfl) ?_
       refine d_tv 31 rfl rfl (by kernel_rfl) rfl (.refl _) rfl (v_or_t rfl rfl) ?_
       refine d_done (by kernel_rfl) ?_
       refine go 1 ?_
       refine sx_drop ?_
       exact q_cut ⟨rfl, rfl, rfl, (congrArg (fun b => some (Value.bool b)) (by first | (simp only [h51, h63, h69, bS]; done) | (simp only [notAfter_at (nm := Prp.key) h0i hlt, h51, h63, h69, bS]; done) | (simp only [notAfter_zero (nm := Prp.key) (l := p.props) h0i, h51, h63, h69, bS]; done))), trivial⟩ rfl rfl
      ·refine d_t 11 rfl rfl (by kernel_rfl) rfl (fun _ m => m.keeps (.refl _)) (y_yes rfl rfl h69 (v_fieldAddr he rfl)) ?_
       refine d_t 12 rfl rfl (by kernel_rfl) rfl (fun _ m => m.keeps (.refl _)) (y_yes rfl rfl h69 (v_ld m0 he rfl rfl)) ?_
       refine d_t 13 rfl rfl (by kernel_rfl) rfl (fun _ m => m.keeps (.refl _)) (y_yes rfl rfl h69 (v_len_str he rfl)) ?_
       refine d_t 14 rfl rfl (by kernel_rfl) rfl (fun _ m => m.keeps (.refl _)) (y_yes rfl rfl h69 (v_gtr rfl rfl)) ?_
       refine d_tv 15 rfl rfl (by kernel_rfl) rfl (.refl _) rfl (v_or_f h69 rfl rfl) ?_
       refine d_tv 16 rfl rfl (by kernel_rfl) rfl (.refl _) rfl (v_move rfl) ?_
       refine sxb 75 rfl (fun h75 p75 => ?_) (fun h75 p75 => ?_)
       ·refine d_t 17 rfl rfl (by kernel_rfl) rfl (fun _ m => m.keeps (.refl _)) (y_no rfl rfl h75) ?_
        refine d_t 18 rfl rfl (by kernel_rfl) rfl (fun _ m => m.keeps (.refl _)) (y_no rfl rfl h75) ?_
        refine d_t 19 rfl rfl (by kernel_rfl) rfl (fun _ m => m.keeps (.refl _)) (y_no rfl rfl h75) ?_
        refine d_t 20 rfl rfl (by kernel_rfl) rfl (fun _ m => m.keeps (.refl _)) (y_nou rfl rfl) ?_
        refine d_t 21 rfl rfl (by kernel_rfl) rfl (fun _ m => m.keeps (.refl _)) (y_nou rfl rfl) ?_
        refine d_t 22 rfl rfl (by kernel_rfl) rfl (fun _ m => m.keeps (.refl _)) (y_nou rfl rfl) ?_
        refine d_t 23 rfl rfl (by kernel_rfl) rfl (fun _ m => m.keeps (.refl _)) (y_nou rfl rfl) ?_
        refine d_t 24 rfl rfl (by kernel_rfl) rfl (fun _ m => m.keeps (.refl _)) (y_nou rfl rfl) ?_
        refine d_t 25 rfl rfl (by kernel_rfl) rfl (fun _ m => m.keeps (.refl _)) (y_nou rfl rfl) ?_
        refine d_t 26 rfl rfl (by kernel_rfl) rfl (fun _ m => m.keeps (.refl _)) (y_nou rfl rfl) ?_
        refine d_t 27 rfl rfl (by kernel_rfl) rfl (fun _ m => m.keeps (.refl _)) (y_nou rfl rfl) ?_
        refine d_t 28 rfl rfl (by kernel_rfl) rfl (fun _ m => m.keeps (.refl _)) (y_nou rfl rfl) ?_
        refine d_t 29 rfl rfl (by kernel_rfl) rfl (fun _ m => m.keeps (.refl _)) (y_nou rfl rfl) ?_
        refine d_t 30 rfl rfl (by kernel_rfl) rfl (fun _ m => m.keeps (.refl _)) (y_no rfl rfl h75) ?_
        refine d_tv 31 rfl rfl (by kernel_rfl) rfl (.refl _) rfl (v_or_t h75 rfl) ?_
        refine d_done (by kernel_rfl) ?_
        refine go 1 ?_
        refine sx_drop ?_
        exact q_cut ⟨rfl, rfl, rfl, (congrArg (fun b => some (Value.bool b)) (by first | (simp only [h51, h63, h69, h75, bS]; done) | (simp only [notAfter_at (nm := Prp.key) h0i hlt, h51, h63, h69, h75, bS]; done) | (simp only [notAfter_zero (nm := Prp.key) (l := p.props) h0i, h51, h63, h69, h75, bS]; done))), trivial⟩ rfl rfl
       ·refine d_t 17 rfl rfl (by kernel_rfl) rfl (fun _ m => m.keeps (.refl _)) (y_yes rfl rfl h75 (v_move rfl)) ?_
        refine d_t 18 rfl rfl (by kernel_rfl) rfl (fun _ m => m.keeps (.refl _)) (y_yes rfl rfl h75 (v_gtr rfl rfl)) ?_
        refine d_t 19 rfl rfl (by kernel_rfl) rfl (fun _ m => m.keeps (.refl _)) (y_yes rfl rfl h75 (v_move rfl)) ?_
        refine sxb 78 rfl (fun h78 p78 => ?_) (fun h78 p78 => ?_)
        ·have h0i : 0 < i := by omega
         refine d_t 20 rfl rfl (by kernel_rfl) rfl (fun _ m => m.keeps (.refl _)) (y_yes rfl rfl h78 (v_fieldAddr he rfl)) ?_
         refine d_t 21 rfl rfl (by kernel_rfl) rfl (fun _ m => m.keeps (.refl _)) (y_yes rfl rfl h78 (v_ld m1 he rfl rfl)) ?_
         refine d_t 22 rfl rfl (by kernel_rfl) rfl (fun _ m => m.keeps (.refl _)) (y_yes rfl rfl h78 (v_move rfl)) ?_
         refine d_t 23 rfl rfl (by kernel_rfl) rfl (fun _ m => m.keeps (.refl _)) (y_yes rfl rfl h78 (OV.cast (u := .int .i64 ((i - 1 : Nat) : Int)) (v_sub rfl rfl ⟨by omega, by omega⟩) (congrArg (Value.int .i64) (by omega)))) ?_
         obtain ⟨b83, o83, w83, e83, c83, r83⟩ := RdA.at_ hDA (i := i - 1) (by omega)
         obtain rfl := r83
         refine d_t 24 rfl rfl (by kernel_rfl) rfl (fun _ m => m.keeps (.refl _)) (y_yes rfl rfl h78 (v_idx he rfl rfl e83 (i - 1) (by omega) (by omega))) ?_
         refine d_t 25 rfl rfl (by kernel_rfl) rfl (fun _ m => m.keeps (.refl _)) (y_yes rfl rfl h78 (v_fieldAddr he rfl)) ?_
         refine d_t 26 rfl rfl (by kernel_rfl) rfl (fun _ m => m.keeps (.refl _)) (y_yes rfl rfl h78 (v_ldI he rfl (c83 0 _ rfl))) ?_
         refine d_t 27 rfl rfl (by kernel_rfl) rfl (fun _ m => m.keeps (.refl _)) (y_yes rfl rfl h78 (v_fieldAddr he rfl)) ?_
         refine d_t 28 rfl rfl (by kernel_rfl) rfl (fun _ m => m.keeps (.refl _)) (y_yes rfl rfl h78 (v_ld m0 he rfl rfl)) ?_
         refine d_t 29 rfl rfl (by kernel_rfl) rfl (fun _ m => m.keeps (.refl _)) (y_yes rfl rfl h78 (v_sgeq rfl rfl)) ?_
         refine d_t 30 rfl rfl (by kernel_rfl) rfl (fun _ m => m.keeps (.refl _)) (y_yes rfl rfl h75 (v_and_t h78 rfl rfl)) ?_
         refine d_tv 31 rfl rfl (by kernel_rfl) rfl (.refl _) rfl (v_or_f h75 rfl rfl) ?_
         refine d_done (by kernel_rfl) ?_
         refine go 1 ?_
         refine sx_drop ?_
         exact q_cut ⟨rfl, rfl, rfl, (congrArg (fun b => some (Value.bool b)) (by first | (simp only [h51, h63, h69, h75, h78, bS]; done) | (simp only [notAfter_at (nm := Prp.key) h0i hlt, h51, h63, h69, h75, h78, bS]; done) | (simp only [notAfter_zero (nm := Prp.key) (l := p.props) h0i, h51, h63, h69, h75, h78, bS]; done))), trivial⟩ rfl rfl
        ·have h0i : ¬ 0 < i := by omega
         refine d_t 20 rfl rfl (by kernel_rfl) rfl (fun _ m => m.keeps (.refl _)) (y_no rfl rfl h78) ?_
         refine d_t 21 rfl rfl (by kernel_rfl) rfl (fun _ m => m.keeps (.refl _)) (y_no rfl rfl h78) ?_
         refine d_t 22 rfl rfl (by kernel_rfl) rfl (fun _ m => m.keeps (.refl _)) (y_no rfl rfl h78) ?_
         refine d_t 23 rfl rfl (by kernel_rfl) rfl (fun _ m => m.keeps (.refl _)) (y_no rfl rfl h78) ?_
         refine d_t 24 rfl rfl (by kernel_rfl) rfl (fun _ m => m.keeps (.refl _)) (y_no rfl rfl h78) ?_
         refine d_t 25 rfl rfl (by kernel_rfl) rfl (fun _ m => m.keeps (.refl _)) (y_no rfl rfl h78) ?_
         refine d_t 26 rfl rfl (by kernel_rfl) rfl (fun _ m => m.keeps (.refl _)) (y_no rfl rfl h78) ?_
         refine d_t 27 rfl rfl (by kernel_rfl) rfl (fun _ m => m.keeps (.refl _)) (y_no rfl rfl h78) ?_
         refine d_t 28 rfl rfl (by kernel_rfl) rfl (fun _ m => m.keeps (.refl _)) (y_no rfl rfl h78) ?_
         refine d_t 29 rfl rfl (by kernel_rfl) rfl (fun _ m => m.keeps (.refl _)) (y_no rfl rfl h78) ?_
         refine d_t 30 rfl rfl (by kernel_rfl) rfl (fun _ m => m.keeps (.refl _)) (y_yes rfl rfl h75 (v_and_f h78 rfl)) ?_
         refine d_tv 31 rfl rfl (by kernel_rfl) rfl (.refl _) rfl (v_or_f h75 rfl rfl) ?_
         refine d_done (by kernel_rfl) ?_
         refine go 1 ?_
         refine sx_drop ?_
         exact q_cut ⟨rfl, rfl, rfl, (congrArg (fun b => some (Value.bool b)) (by first | (simp only [h51, h63, h69, h75, h78, bS]; done) | (simp only [notAfter_at (nm := Prp.key) h0i hlt, h51, h63, h69, h75, h78, bS]; done) | (simp only [notAfter_zero (nm := Prp.key) (l := p.props) h0i, h51, h63, h69, h75, h78, bS]; done))), trivial⟩ rfl rfl
    ·refine cb rfl (fun h90 p90 => ?_) (fun h90 p90 => ?_)
     ·refine go 11 ?_
      refine fin1 rfl rfl ?_
      exact q_v (congrArg Value.bool (by rw [← ownR_eq]; simp only [ownR, h46, allP_not hlt (show propR (p.props.take i) p.props[i] = false by simp only [propR, h90]; rfl), bS]))
     ·refine go 9 ?_
      exact q_next (i + 1) ⟨by omega, allP_succ hn hlt (by simp only [propR, h90]; rfl)⟩ (by omega) rfl sb rfl
   ·have hAll : allP propR p.props p.props.length = true := (show i = p.props.length by omega) ▸ hn
    refine go 9 ?_
    refine o_v rfl (v_ldp (p.life.km.cells) m0 he rfl rfl rfl) ?_
    refine go 1 ?_
    refine o_callV (ref10amount _ p.life.km) rfl rfl ?_
    refine go 1 ?_
    refine sxb 95 rfl (fun h95 p95 => ?_) (fun h95 p95 => ?_)
    ·refine go 2 ?_
     refine o_cons (o_yes rfl rfl h95 (o_val rfl (v_ldp (p.life.cycles.cells) m0 he rfl rfl rfl) ?_))
     refine go 1 ?_
     refine o_yes rfl rfl h95 (o_callV (ref10amount _ p.life.cycles) rfl rfl ?_)
     refine go 2 ?_
     refine sxb 101 rfl (fun h101 p101 => ?_) (fun h101 p101 => ?_)
     ·refine go 2 ?_
      refine o_cons (o_yes rfl rfl h101 (o_val rfl (v_ldp (p.life.damage.cells) m0 he rfl rfl rfl) ?_))
      refine go 1 ?_
      refine o_yes rfl rfl h101 (o_callV (ref10amount _ p.life.damage) rfl rfl ?_)
      refine go 5 ?_
      refine fin1 rfl rfl ?_
      exact q_v (congrArg Value.bool (by rw [← ownR_eq]; simp only [ownR, h46, hAll, h51, h95, h101, bS]))
     ·refine go 9 ?_
      refine fin1 rfl rfl ?_
      exact q_v (congrArg Value.bool (by rw [← ownR_eq]; simp only [ownR, h46, hAll, h51, h95, h101, bS]))
    ·refine go 15 ?_
     refine fin1 rfl rfl ?_
     exact q_v (congrArg Value.bool (by rw [← ownR_eq]; simp only [ownR, h46, hAll, h51, h95, bS]))

theorem ref10At (I : IMap) (v : Value) (l : List Part) (hv : RdS I v l) (s : ByteArray) :
    FnV Tryz.prog 186 #[.agg #[v], .string s] I (.int .i64 (idxF (fun p : Part => decide (p.name = s)) l)) := by
 obtain ⟨A, c0, rfl, hA, hc, hm⟩ := hv
 refine enter Tryz.func186 Tryz.call186 rfl Tryz.ntmps186 rfl (fun w0 => ?_)
 refine go 3 ?_
 refine o_box _ rfl rfl rfl (fun g2 => ?_)
 refine go 10 ?_
 refine c_loop (α := Nat) 0 (fun i => I)
  (fun i => [(1, .string s), (2, .pointer (some ⟨g2, 0, none⟩)), (5, .int .i64 ((i : Nat) : Int))])
  (fun i => [.blk g2 134 [.slice A l.length c0]])
  (fun i => i ≤ l.length ∧ ∀ j x, j < i → l[j]? = some x → (fun p : Part => decide (p.name = s)) x = false)
  (fun i => l.length - i) ⟨Nat.zero_le _, fun j x hj => absurd hj (Nat.not_lt_zero j)⟩ rfl sb rfl ?_
 intro i ⟨hi, hn⟩
 refine go 10 ?_
 refine cb rfl (fun h10 p10 => ?_) (fun h10 p10 => ?_)
 ·have hlt : i < l.length := by omega
  refine go 9 ?_
  obtain ⟨b16, o16, w16, e16, c16, r16⟩ := RdA.at_ hA (i := i) hlt
  obtain ⟨q16, rfl, B16, d16, rfl, hB16, hd16, hm16⟩ := r16
  refine o_v rfl (v_idx he rfl rfl e16 (i) (by omega) hlt) ?_
  refine go 1 ?_
  refine o_v rfl (v_ldI he rfl (c16 0 _ rfl)) ?_
  refine go 4 ?_
  refine cb rfl (fun h20 p20 => ?_) (fun h20 p20 => ?_)
  ·refine go 12 ?_
   refine fin1 rfl rfl ?_
   exact q_v (congrArg (Value.int .i64) (idxF_found (p := (fun p : Part => decide (p.name = s))) hlt h20 hn).symm)
  ·refine go 9 ?_
   exact q_next (i + 1) ⟨by omega, idx_next (p := (fun p : Part => decide (p.name = s))) hn hlt h20⟩ (by omega) rfl sb rfl
 ·refine go 11 ?_
  refine fin1 rfl rfl ?_
  exact q_v (congrArg (Value.int .i64) (idxF_none (p := (fun p : Part => decide (p.name = s))) (fun j x hj => hn j x (by omega))).symm)

theorem ref10Valid (I : IMap) (vc : Value) (c : List Kind) (hvc : RdS I vc c) (hsc : SmC c) (v : Value) (l : List Part) (hv : RdS I v l) (hsf : SmF l) :
    FnV Tryz.prog 157 #[.agg #[vc], .agg #[v]] I (.bool (validS c l)) := by
 have hv0 := hv
 obtain ⟨A, c0, rfl, hA, hc, hm⟩ := hv
 refine enter Tryz.func157 Tryz.call157 rfl Tryz.ntmps157 rfl (fun w0 => ?_)
 refine go 3 ?_
 refine o_box _ rfl rfl rfl (fun g2 => ?_)
 refine go 1 ?_
 refine o_box _ rfl rfl rfl (fun g3 => ?_)
 refine go 5 ?_
 refine c_cut (I' := I) (L' := [(2, .pointer (some ⟨g2, 0, none⟩)), (3, .pointer (some ⟨g3, 0, none⟩)), (17, .bool (!validR c || decide ((20000 : Int) < (l.length : Nat))))]) (H' := [.blk g3 134 [.slice A l.length c0], .blk g2 24 [vc]]) ?_ ?_
 ·refine go 3 ?_
  refine o_callV (refValid _ vc c hvc hsc) rfl rfl ?_
  refine go 2 ?_
  refine sxb 12 rfl (fun h12 p12 => ?_) (fun h12 p12 => ?_)
  ·refine go 7 ?_
   exact q_cut ⟨rfl, rfl, (congrArg (fun b => some (Value.bool b)) (by simp only [h12, bS])), trivial⟩ rfl rfl
  ·refine go 7 ?_
   exact q_cut ⟨rfl, rfl, (congrArg (fun b => some (Value.bool b)) (by simp only [h12, bS])), trivial⟩ rfl rfl
 ·refine cb rfl (fun h17 p17 => ?_) (fun h17 p17 => ?_)
  ·refine go 7 ?_
   refine fin1 rfl rfl ?_
   exact q_v (congrArg Value.bool (by rw [← validSR_eq]; simp only [validSR, h17]; rfl))
  ·refine go 9 ?_
   refine c_loop (α := Nat) 0 (fun i => I)
    (fun i => [(2, .pointer (some ⟨g2, 0, none⟩)), (3, .pointer (some ⟨g3, 0, none⟩)), (5, .int .i64 ((i : Nat) : Int))])
    (fun i => [.blk g3 134 [.slice A l.length c0], .blk g2 24 [vc]])
    (fun i => i ≤ l.length ∧ allP (partR c l) l i = true)
    (fun i => l.length - i) ⟨Nat.zero_le _, rfl⟩ rfl sb rfl ?_
   intro i ⟨hi, hn⟩
   refine go 10 ?_
   refine cb rfl (fun h22 p22 => ?_) (fun h22 p22 => ?_)
   ·have hlt : i < l.length := by omega
    refine go 9 ?_
    obtain ⟨b28, o28, w28, e28, c28, r28⟩ := RdA.at_ hA (i := i) hlt
    obtain ⟨q28, rfl, B28, d28, rfl, hB28, hd28, hm28⟩ := r28
    refine o_v rfl (v_idx he rfl rfl e28 (i) (by omega) hlt) ?_
    refine o_v rfl (v_ldIa he rfl c28 rfl) ?_
    refine go 1 ?_
    refine o_alloc he rfl (fun g6 => ?_)
    refine go 1 ?_
    refine o_stw _ he rfl rfl rfl rfl rfl rfl ?_
    refine go 4 ?_
    refine c_cut (I' := I) (L' := [(2, .pointer (some ⟨g2, 0, none⟩)), (3, .pointer (some ⟨g3, 0, none⟩)), (5, .int .i64 ((i : Nat) : Int)), (6, .pointer (some ⟨g6, 0, none⟩)), (58, .bool (bad1R c (l.take i) l[i]))]) (H' := [.blk g6 170 (l[i].cells (.slice B28 l[i].props.length d28)), .blk g3 134 [.slice A l.length c0], .blk g2 24 [vc]]) ?_ ?_
    ·refine d_startH T.mixed ?_
     refine d_tv 0 rfl rfl (by kernel_rfl) rfl (.refl _) rfl (v_ldw m2 he rfl rfl) ?_
     refine d_tv 1 rfl rfl (by kernel_rfl) rfl (.refl _) rfl (v_ldw m0 he rfl rfl) ?_
     refine d_one 2 (by kernel_rfl) rfl ?_
     refine o_callV (ref10own _ vc c hvc l[i] B28 d28 ⟨_, _, rfl, hB28, hd28, hm28⟩ (hsf _ (List.getElem_mem hlt))) rfl rfl ?_
     refine d_on (fun _ m => m.keeps (.refl _)) ?_
     refine d_tv 3 rfl rfl (by kernel_rfl) rfl (.refl _) rfl (v_not rfl) ?_
     refine d_tv 4 rfl rfl (by kernel_rfl) rfl (.refl _) rfl (v_move rfl) ?_
     refine sxb 34 rfl (fun h34 p34 => ?_) (fun h34 p34 => ?_)
     ·refine d_t 5 rfl rfl (by kernel_rfl) rfl (fun _ m => m.keeps (.refl _)) (y_no rfl rfl h34) ?_
      refine d_t 6 rfl rfl (by kernel_rfl) rfl (fun _ m => m.keeps (.refl _)) (y_no rfl rfl h34) ?_
      refine d_t 7 rfl rfl (by kernel_rfl) rfl (fun _ m => m.keeps (.refl _)) (y_no rfl rfl h34) ?_
      refine d_t 8 rfl rfl (by kernel_rfl) rfl (fun _ m => m.keeps (.refl _)) (y_nou rfl rfl) ?_
      refine d_t 9 rfl rfl (by kernel_rfl) rfl (fun _ m => m.keeps (.refl _)) (y_nou rfl rfl) ?_
      refine d_t 10 rfl rfl (by kernel_rfl) rfl (fun _ m => m.keeps (.refl _)) (y_nou rfl rfl) ?_
      refine d_t 11 rfl rfl (by kernel_rfl) rfl (fun _ m => m.keeps (.refl _)) (y_nou rfl rfl) ?_
      refine d_t 12 rfl rfl (by kernel_rfl) rfl (fun _ m => m.keeps (.refl _)) (y_nou rfl rfl) ?_
      refine d_t 13 rfl rfl (by kernel_rfl) rfl (fun _ m => m.keeps (.refl _)) (y_nou rfl rfl) ?_
      refine d_t 14 rfl rfl (by kernel_rfl) rfl (fun _ m => m.keeps (.refl _)) (y_nou rfl rfl) ?_
      refine d_t 15 rfl rfl (by kernel_rfl) rfl (fun _ m => m.keeps (.refl _)) (y_nou rfl rfl) ?_
      refine d_t 16 rfl rfl (by kernel_rfl) rfl (fun _ m => m.keeps (.refl _)) (y_nou rfl rfl) ?_
      refine d_t 17 rfl rfl (by kernel_rfl) rfl (fun _ m => m.keeps (.refl _)) (y_nou rfl rfl) ?_
      refine d_t 18 rfl rfl (by kernel_rfl) rfl (fun _ m => m.keeps (.refl _)) (y_no rfl rfl h34) ?_
      refine d_tv 19 rfl rfl (by kernel_rfl) rfl (.refl _) rfl (v_or_t h34 rfl) ?_
      refine d_tv 20 rfl rfl (by kernel_rfl) rfl (.refl _) rfl (v_move rfl) ?_
      refine d_t 21 rfl rfl (by kernel_rfl) rfl (fun _ m => m.keeps (.refl _)) (y_no rfl rfl rfl) ?_
      refine d_t 22 rfl rfl (by kernel_rfl) rfl (fun _ m => m.keeps (.refl _)) (y_no rfl rfl rfl) ?_
      refine d_t 23 rfl rfl (by kernel_rfl) rfl (fun _ m => m.keeps (.refl _)) (y_no rfl rfl rfl) ?_
      refine d_t 24 rfl rfl (by kernel_rfl) rfl (fun _ m => m.keeps (.refl _)) (y_no rfl rfl rfl) ?_
      refine d_t 25 rfl rfl (by kernel_rfl) rfl (fun _ m => m.keeps (.refl _)) (y_no rfl rfl rfl) ?_
      refine d_t 26 rfl rfl (by kernel_rfl) rfl (fun _ m => m.keeps (.refl _)) (y_no rfl rfl rfl) ?_
      refine d_t 27 rfl rfl (by kernel_rfl) rfl (fun _ m => m.keeps (.refl _)) (y_no rfl rfl rfl) ?_
      refine d_tv 28 rfl rfl (by kernel_rfl) rfl (.refl _) rfl (v_or_t rfl rfl) ?_
      refine d_done (by kernel_rfl) ?_
      refine go 1 ?_
      exact q_cut ⟨rfl, rfl, rfl, rfl, (congrArg (fun b => some (Value.bool b)) (by first | (simp only [bad1R, ownR_eq, h22, h34, bS]; done) | (simp only [bad1R, ownR_eq, notAfter_at (nm := Part.name) h0i hlt, h22, h34, bS]; done) | (simp only [bad1R, ownR_eq, notAfter_zero (nm := Part.name) (l := l) h0i, h22, h34, bS]; done))), trivial⟩ rfl rfl
     ·refine d_t 5 rfl rfl (by kernel_rfl) rfl (fun _ m => m.keeps (.refl _)) (y_yes rfl rfl h34 (v_move rfl)) ?_
      refine d_t 6 rfl rfl (by kernel_rfl) rfl (fun _ m => m.keeps (.refl _)) (y_yes rfl rfl h34 (v_gtr rfl rfl)) ?_
      refine d_t 7 rfl rfl (by kernel_rfl) rfl (fun _ m => m.keeps (.refl _)) (y_yes rfl rfl h34 (v_move rfl)) ?_
      refine sxb 37 rfl (fun h37 p37 => ?_) (fun h37 p37 => ?_)
      ·have h0i : 0 < i := by omega
       refine d_t 8 rfl rfl (by kernel_rfl) rfl (fun _ m => m.keeps (.refl _)) (y_yes rfl rfl h37 (v_fieldAddr he rfl)) ?_
       refine d_t 9 rfl rfl (by kernel_rfl) rfl (fun _ m => m.keeps (.refl _)) (y_yes rfl rfl h37 (v_ld m1 he rfl rfl)) ?_
       refine d_t 10 rfl rfl (by kernel_rfl) rfl (fun _ m => m.keeps (.refl _)) (y_yes rfl rfl h37 (v_move rfl)) ?_
       refine d_t 11 rfl rfl (by kernel_rfl) rfl (fun _ m => m.keeps (.refl _)) (y_yes rfl rfl h37 (OV.cast (u := .int .i64 ((i - 1 : Nat) : Int)) (v_sub rfl rfl ⟨by omega, by omega⟩) (congrArg (Value.int .i64) (by omega)))) ?_
       obtain ⟨b42, o42, w42, e42, c42, r42⟩ := RdA.at_ hA (i := i - 1) (by omega)
       obtain ⟨q42, rfl, B42, d42, rfl, hB42, hd42, hm42⟩ := r42
       refine d_t 12 rfl rfl (by kernel_rfl) rfl (fun _ m => m.keeps (.refl _)) (y_yes rfl rfl h37 (v_idx he rfl rfl e42 (i - 1) (by omega) (by omega))) ?_
       refine d_t 13 rfl rfl (by kernel_rfl) rfl (fun _ m => m.keeps (.refl _)) (y_yes rfl rfl h37 (v_fieldAddr he rfl)) ?_
       refine d_t 14 rfl rfl (by kernel_rfl) rfl (fun _ m => m.keeps (.refl _)) (y_yes rfl rfl h37 (v_ldI he rfl (c42 0 _ rfl))) ?_
       refine d_t 15 rfl rfl (by kernel_rfl) rfl (fun _ m => m.keeps (.refl _)) (y_yes rfl rfl h37 (v_fieldAddr he rfl)) ?_
       refine d_t 16 rfl rfl (by kernel_rfl) rfl (fun _ m => m.keeps (.refl _)) (y_yes rfl rfl h37 (v_ld m0 he rfl rfl)) ?_
       refine d_t 17 rfl rfl (by kernel_rfl) rfl (fun _ m => m.keeps (.refl _)) (y_yes rfl rfl h37 (v_sgeq rfl rfl)) ?_
       refine d_t 18 rfl rfl (by kernel_rfl) rfl (fun _ m => m.keeps (.refl _)) (y_yes rfl rfl h34 (v_and_t h37 rfl rfl)) ?_
       refine d_tv 19 rfl rfl (by kernel_rfl) rfl (.refl _) rfl (v_or_f h34 rfl rfl) ?_
       refine d_tv 20 rfl rfl (by kernel_rfl) rfl (.refl _) rfl (v_move rfl) ?_
       refine sxb 50 rfl (fun h50 p50 => ?_) (fun h50 p50 => ?_)
       ·refine d_t 21 rfl rfl (by kernel_rfl) rfl (fun _ m => m.keeps (.refl _)) (y_no rfl rfl h50) ?_
        refine d_t 22 rfl rfl (by kernel_rfl) rfl (fun _ m => m.keeps (.refl _)) (y_no rfl rfl h50) ?_
        refine d_t 23 rfl rfl (by kernel_rfl) rfl (fun _ m => m.keeps (.refl _)) (y_no rfl rfl h50) ?_
        refine d_t 24 rfl rfl (by kernel_rfl) rfl (fun _ m => m.keeps (.refl _)) (y_no rfl rfl h50) ?_
        refine d_t 25 rfl rfl (by kernel_rfl) rfl (fun _ m => m.keeps (.refl _)) (y_no rfl rfl h50) ?_
        refine d_t 26 rfl rfl (by kernel_rfl) rfl (fun _ m => m.keeps (.refl _)) (y_no rfl rfl h50) ?_
        refine d_t 27 rfl rfl (by kernel_rfl) rfl (fun _ m => m.keeps (.refl _)) (y_no rfl rfl h50) ?_
        refine d_tv 28 rfl rfl (by kernel_rfl) rfl (.refl _) rfl (v_or_t h50 rfl) ?_
        refine d_done (by kernel_rfl) ?_
        refine go 1 ?_
        exact q_cut ⟨rfl, rfl, rfl, rfl, (congrArg (fun b => some (Value.bool b)) (by first | (simp only [bad1R, ownR_eq, h22, h34, h37, h50, bS]; done) | (simp only [bad1R, ownR_eq, notAfter_at (nm := Part.name) h0i hlt, h22, h34, h37, h50, bS]; done) | (simp only [bad1R, ownR_eq, notAfter_zero (nm := Part.name) (l := l) h0i, h22, h34, h37, h50, bS]; done))), trivial⟩ rfl rfl
       ·refine d_t 21 rfl rfl (by kernel_rfl) rfl (fun _ m => m.keeps (.refl _)) (y_yes rfl rfl h50 (v_fieldAddr he rfl)) ?_
        refine d_t 22 rfl rfl (by kernel_rfl) rfl (fun _ m => m.keeps (.refl _)) (y_yes rfl rfl h50 (v_ld m0 he rfl rfl)) ?_
        refine d_t 23 rfl rfl (by kernel_rfl) rfl (fun _ m => m.keeps (.refl _)) (y_yes rfl rfl h50 (v_seql rfl rfl)) ?_
        refine d_t 24 rfl rfl (by kernel_rfl) rfl (fun _ m => m.keeps (.refl _)) (y_yes rfl rfl h50 (v_fieldAddr he rfl)) ?_
        refine d_t 25 rfl rfl (by kernel_rfl) rfl (fun _ m => m.keeps (.refl _)) (y_yes rfl rfl h50 (v_ld m0 he rfl rfl)) ?_
        refine d_t 26 rfl rfl (by kernel_rfl) rfl (fun _ m => m.keeps (.refl _)) (y_yes rfl rfl h50 (v_seql rfl rfl)) ?_
        refine d_t 27 rfl rfl (by kernel_rfl) rfl (fun _ m => m.keeps (.refl _)) (y_yes rfl rfl h50 (v_bneq he rfl rfl)) ?_
        refine d_tv 28 rfl rfl (by kernel_rfl) rfl (.refl _) rfl (v_or_f h50 rfl rfl) ?_
        refine d_done (by kernel_rfl) ?_
        refine go 1 ?_
        exact q_cut ⟨rfl, rfl, rfl, rfl, (congrArg (fun b => some (Value.bool b)) (by first | (simp only [bad1R, ownR_eq, h22, h34, h37, h50, bS]; done) | (simp only [bad1R, ownR_eq, notAfter_at (nm := Part.name) h0i hlt, h22, h34, h37, h50, bS]; done) | (simp only [bad1R, ownR_eq, notAfter_zero (nm := Part.name) (l := l) h0i, h22, h34, h37, h50, bS]; done))), trivial⟩ rfl rfl
      ·have h0i : ¬ 0 < i := by omega
       refine d_t 8 rfl rfl (by kernel_rfl) rfl (fun _ m => m.keeps (.refl _)) (y_no rfl rfl h37) ?_
       refine d_t 9 rfl rfl (by kernel_rfl) rfl (fun _ m => m.keeps (.refl _)) (y_no rfl rfl h37) ?_
       refine d_t 10 rfl rfl (by kernel_rfl) rfl (fun _ m => m.keeps (.refl _)) (y_no rfl rfl h37) ?_
       refine d_t 11 rfl rfl (by kernel_rfl) rfl (fun _ m => m.keeps (.refl _)) (y_no rfl rfl h37) ?_
       refine d_t 12 rfl rfl (by kernel_rfl) rfl (fun _ m => m.keeps (.refl _)) (y_no rfl rfl h37) ?_
       refine d_t 13 rfl rfl (by kernel_rfl) rfl (fun _ m => m.keeps (.refl _)) (y_no rfl rfl h37) ?_
       refine d_t 14 rfl rfl (by kernel_rfl) rfl (fun _ m => m.keeps (.refl _)) (y_no rfl rfl h37) ?_
       refine d_t 15 rfl rfl (by kernel_rfl) rfl (fun _ m => m.keeps (.refl _)) (y_no rfl rfl h37) ?_
       refine d_t 16 rfl rfl (by kernel_rfl) rfl (fun _ m => m.keeps (.refl _)) (y_no rfl rfl h37) ?_
       refine d_t 17 rfl rfl (by kernel_rfl) rfl (fun _ m => m.keeps (.refl _)) (y_no rfl rfl h37) ?_
       refine d_t 18 rfl rfl (by kernel_rfl) rfl (fun _ m => m.keeps (.refl _)) (y_yes rfl rfl h34 (v_and_f h37 rfl)) ?_
       refine d_tv 19 rfl rfl (by kernel_rfl) rfl (.refl _) rfl (v_or_f h34 rfl rfl) ?_
       refine d_tv 20 rfl rfl (by kernel_rfl) rfl (.refl _) rfl (v_move rfl) ?_
       refine d_t 21 rfl rfl (by kernel_rfl) rfl (fun _ m => m.keeps (.refl _)) (y_yes rfl rfl rfl (v_fieldAddr he rfl)) ?_
       refine d_t 22 rfl rfl (by kernel_rfl) rfl (fun _ m => m.keeps (.refl _)) (y_yes rfl rfl rfl (v_ld m0 he rfl rfl)) ?_
       refine d_t 23 rfl rfl (by kernel_rfl) rfl (fun _ m => m.keeps (.refl _)) (y_yes rfl rfl rfl (v_seql rfl rfl)) ?_
       refine d_t 24 rfl rfl (by kernel_rfl) rfl (fun _ m => m.keeps (.refl _)) (y_yes rfl rfl rfl (v_fieldAddr he rfl)) ?_
       refine d_t 25 rfl rfl (by kernel_rfl) rfl (fun _ m => m.keeps (.refl _)) (y_yes rfl rfl rfl (v_ld m0 he rfl rfl)) ?_
       refine d_t 26 rfl rfl (by kernel_rfl) rfl (fun _ m => m.keeps (.refl _)) (y_yes rfl rfl rfl (v_seql rfl rfl)) ?_
       refine d_t 27 rfl rfl (by kernel_rfl) rfl (fun _ m => m.keeps (.refl _)) (y_yes rfl rfl rfl (v_bneq he rfl rfl)) ?_
       refine d_tv 28 rfl rfl (by kernel_rfl) rfl (.refl _) rfl (v_or_f rfl rfl rfl) ?_
       refine d_done (by kernel_rfl) ?_
       refine go 1 ?_
       exact q_cut ⟨rfl, rfl, rfl, rfl, (congrArg (fun b => some (Value.bool b)) (by first | (simp only [bad1R, ownR_eq, h22, h34, h37, bS]; done) | (simp only [bad1R, ownR_eq, notAfter_at (nm := Part.name) h0i hlt, h22, h34, h37, bS]; done) | (simp only [bad1R, ownR_eq, notAfter_zero (nm := Part.name) (l := l) h0i, h22, h34, h37, bS]; done))), trivial⟩ rfl rfl
    ·refine cb rfl (fun h58 p58 => ?_) (fun h58 p58 => ?_)
     ·refine go 12 ?_
      refine fin1 rfl rfl ?_
      exact q_v (congrArg Value.bool (by rw [← validSR_eq]; simp only [validSR, h17, allP_not (f := partR c l) hlt (show partR c l (l.take i) l[i] = false by simp only [partR, h58]; rfl), bS]))
     ·refine go 10 ?_
      refine cb rfl (fun h61 p61 => ?_) (fun h61 p61 => ?_)
      ·refine go 10 ?_
       refine sx_drop ?_
       exact q_next (i + 1) ⟨by omega, allP_succ hn hlt (by simp only [partR, h58, h61]; rfl)⟩ (by omega) rfl sb rfl
      ·refine go 8 ?_
       refine o_callV (ref10At _ _ l hv0 l[i].into) rfl rfl ?_
       refine go 5 ?_
       refine c_cut (I' := I) (L' := [(2, .pointer (some ⟨g2, 0, none⟩)), (3, .pointer (some ⟨g3, 0, none⟩)), (5, .int .i64 ((i : Nat) : Int)), (6, .pointer (some ⟨g6, 0, none⟩)), (94, .bool (bad2R c l l[i]))]) (H' := [.blk g6 170 (l[i].cells (.slice B28 l[i].props.length d28)), .blk g3 134 [.slice A l.length c0], .blk g2 24 [vc]]) ?_ ?_
       ·refine d_startH T.mixed ?_
        refine d_tv 0 rfl rfl (by kernel_rfl) rfl (.refl _) rfl (v_move rfl) ?_
        refine d_tv 1 rfl rfl (by kernel_rfl) rfl (.refl _) rfl (v_lss rfl rfl) ?_
        refine d_tv 2 rfl rfl (by kernel_rfl) rfl (.refl _) rfl (v_move rfl) ?_
        refine sxb 68 rfl (fun h68 p68 => ?_) (fun h68 p68 => ?_)
        ·have hF : findP l l[i].into = none := ((idxF_find (fun p : Part => decide (p.name = l[i].into)) l).resolve_right (by rintro ⟨k, hk, e, _⟩; omega)).2
         refine d_t 3 rfl rfl (by kernel_rfl) rfl (fun _ m => m.keeps (.refl _)) (y_no rfl rfl h68) ?_
         refine d_t 4 rfl rfl (by kernel_rfl) rfl (fun _ m => m.keeps (.refl _)) (y_no rfl rfl h68) ?_
         refine d_tv 5 rfl rfl (by kernel_rfl) rfl (.refl _) rfl (v_or_t h68 rfl) ?_
         refine d_tv 6 rfl rfl (by kernel_rfl) rfl (.refl _) rfl (v_move rfl) ?_
         refine d_t 7 rfl rfl (by kernel_rfl) rfl (fun _ m => m.keeps (.refl _)) (y_no rfl rfl rfl) ?_
         refine d_t 8 rfl rfl (by kernel_rfl) rfl (fun _ m => m.keeps (.refl _)) (y_no rfl rfl rfl) ?_
         refine d_t 9 rfl rfl (by kernel_rfl) rfl (fun _ m => m.keeps (.refl _)) (y_no rfl rfl rfl) ?_
         refine d_t 10 rfl rfl (by kernel_rfl) rfl (fun _ m => m.keeps (.refl _)) (y_no rfl rfl rfl) ?_
         refine d_t 11 rfl rfl (by kernel_rfl) rfl (fun _ m => m.keeps (.refl _)) (y_no rfl rfl rfl) ?_
         refine d_t 12 rfl rfl (by kernel_rfl) rfl (fun _ m => m.keeps (.refl _)) (y_no rfl rfl rfl) ?_
         refine d_tv 13 rfl rfl (by kernel_rfl) rfl (.refl _) rfl (v_or_t rfl rfl) ?_
         refine d_tv 14 rfl rfl (by kernel_rfl) rfl (.refl _) rfl (v_move rfl) ?_
         refine d_t 15 rfl rfl (by kernel_rfl) rfl (fun _ m => m.keeps (.refl _)) (y_no rfl rfl rfl) ?_
         refine d_t 16 rfl rfl (by kernel_rfl) rfl (fun _ m => m.keeps (.refl _)) (y_no rfl rfl rfl) ?_
         refine d_t 17 rfl rfl (by kernel_rfl) rfl (fun _ m => m.keeps (.refl _)) (y_no rfl rfl rfl) ?_
         refine d_t 18 rfl rfl (by kernel_rfl) rfl (fun _ m => m.keeps (.refl _)) (y_no rfl rfl rfl) ?_
         refine d_t 19 rfl rfl (by kernel_rfl) rfl (fun _ m => m.keeps (.refl _)) (y_no rfl rfl rfl) ?_
         refine d_t 20 rfl rfl (by kernel_rfl) rfl (fun _ m => m.keeps (.refl _)) (y_no rfl rfl rfl) ?_
         refine d_t 21 rfl rfl (by kernel_rfl) rfl (fun _ m => m.keeps (.refl _)) (y_no rfl rfl rfl) ?_
         refine d_t 22 rfl rfl (by kernel_rfl) rfl (fun _ m => m.keeps (.refl _)) (y_no rfl rfl rfl) ?_
         refine d_t 23 rfl rfl (by kernel_rfl) rfl (fun _ m => m.keeps (.refl _)) (y_no rfl rfl rfl) ?_
         refine d_t 24 rfl rfl (by kernel_rfl) rfl (fun _ m => m.keeps (.refl _)) (y_no rfl rfl rfl) ?_
         refine d_t 25 rfl rfl (by kernel_rfl) rfl (fun _ m => m.keeps (.refl _)) (y_no rfl rfl rfl) ?_
         refine d_t 26 rfl rfl (by kernel_rfl) rfl (fun _ m => m.keeps (.refl _)) (y_no rfl rfl rfl) ?_
         refine d_t 27 rfl rfl (by kernel_rfl) rfl (fun _ m => m.keeps (.refl _)) (y_no rfl rfl rfl) ?_
         refine d_tv 28 rfl rfl (by kernel_rfl) rfl (.refl _) rfl (v_or_t rfl rfl) ?_
         refine d_done (by kernel_rfl) ?_
         refine go 1 ?_
         exact q_cut ⟨rfl, rfl, rfl, rfl, (congrArg (fun b => some (Value.bool b)) (by first | (simp only [bad2R, hF, h58, h61, h68, Option.isSome_none, Option.isSome_some, Option.getD_some, bS]; done) | (simp only [bad2R, hS, h58, h61, h68, bS]; done))), trivial⟩ rfl rfl
        ·have hS : (findP l l[i].into).isSome = true := (by rw [← find_idx]; simpa using p68)
         refine d_t 3 rfl rfl (by kernel_rfl) rfl (fun _ m => m.keeps (.refl _)) (y_yes rfl rfl h68 (v_fieldAddr he rfl)) ?_
         refine d_t 4 rfl rfl (by kernel_rfl) rfl (fun _ m => m.keeps (.refl _)) (y_yes rfl rfl h68 (v_ld m0 he rfl rfl)) ?_
         refine d_tv 5 rfl rfl (by kernel_rfl) rfl (.refl _) rfl (v_or_f h68 rfl rfl) ?_
         refine d_tv 6 rfl rfl (by kernel_rfl) rfl (.refl _) rfl (v_move rfl) ?_
         refine sxb 72 rfl (fun h72 p72 => ?_) (fun h72 p72 => ?_)
         ·refine d_t 7 rfl rfl (by kernel_rfl) rfl (fun _ m => m.keeps (.refl _)) (y_no rfl rfl h72) ?_
          refine d_t 8 rfl rfl (by kernel_rfl) rfl (fun _ m => m.keeps (.refl _)) (y_no rfl rfl h72) ?_
          refine d_t 9 rfl rfl (by kernel_rfl) rfl (fun _ m => m.keeps (.refl _)) (y_no rfl rfl h72) ?_
          refine d_t 10 rfl rfl (by kernel_rfl) rfl (fun _ m => m.keeps (.refl _)) (y_no rfl rfl h72) ?_
          refine d_t 11 rfl rfl (by kernel_rfl) rfl (fun _ m => m.keeps (.refl _)) (y_no rfl rfl h72) ?_
          refine d_t 12 rfl rfl (by kernel_rfl) rfl (fun _ m => m.keeps (.refl _)) (y_no rfl rfl h72) ?_
          refine d_tv 13 rfl rfl (by kernel_rfl) rfl (.refl _) rfl (v_or_t h72 rfl) ?_
          refine d_tv 14 rfl rfl (by kernel_rfl) rfl (.refl _) rfl (v_move rfl) ?_
          refine d_t 15 rfl rfl (by kernel_rfl) rfl (fun _ m => m.keeps (.refl _)) (y_no rfl rfl rfl) ?_
          refine d_t 16 rfl rfl (by kernel_rfl) rfl (fun _ m => m.keeps (.refl _)) (y_no rfl rfl rfl) ?_
          refine d_t 17 rfl rfl (by kernel_rfl) rfl (fun _ m => m.keeps (.refl _)) (y_no rfl rfl rfl) ?_
          refine d_t 18 rfl rfl (by kernel_rfl) rfl (fun _ m => m.keeps (.refl _)) (y_no rfl rfl rfl) ?_
          refine d_t 19 rfl rfl (by kernel_rfl) rfl (fun _ m => m.keeps (.refl _)) (y_no rfl rfl rfl) ?_
          refine d_t 20 rfl rfl (by kernel_rfl) rfl (fun _ m => m.keeps (.refl _)) (y_no rfl rfl rfl) ?_
          refine d_t 21 rfl rfl (by kernel_rfl) rfl (fun _ m => m.keeps (.refl _)) (y_no rfl rfl rfl) ?_
          refine d_t 22 rfl rfl (by kernel_rfl) rfl (fun _ m => m.keeps (.refl _)) (y_no rfl rfl rfl) ?_
          refine d_t 23 rfl rfl (by kernel_rfl) rfl (fun _ m => m.keeps (.refl _)) (y_no rfl rfl rfl) ?_
          refine d_t 24 rfl rfl (by kernel_rfl) rfl (fun _ m => m.keeps (.refl _)) (y_no rfl rfl rfl) ?_
          refine d_t 25 rfl rfl (by kernel_rfl) rfl (fun _ m => m.keeps (.refl _)) (y_no rfl rfl rfl) ?_
          refine d_t 26 rfl rfl (by kernel_rfl) rfl (fun _ m => m.keeps (.refl _)) (y_no rfl rfl rfl) ?_
          refine d_t 27 rfl rfl (by kernel_rfl) rfl (fun _ m => m.keeps (.refl _)) (y_no rfl rfl rfl) ?_
          refine d_tv 28 rfl rfl (by kernel_rfl) rfl (.refl _) rfl (v_or_t rfl rfl) ?_
          refine d_done (by kernel_rfl) ?_
          refine go 1 ?_
          exact q_cut ⟨rfl, rfl, rfl, rfl, (congrArg (fun b => some (Value.bool b)) (by first | (simp only [bad2R, hF, h58, h61, h68, h72, Option.isSome_none, Option.isSome_some, Option.getD_some, bS]; done) | (simp only [bad2R, hS, h58, h61, h68, h72, bS]; done))), trivial⟩ rfl rfl
         ·refine d_t 7 rfl rfl (by kernel_rfl) rfl (fun _ m => m.keeps (.refl _)) (y_yes rfl rfl h72 (v_fieldAddr he rfl)) ?_
          refine d_t 8 rfl rfl (by kernel_rfl) rfl (fun _ m => m.keeps (.refl _)) (y_yes rfl rfl h72 (v_ld m1 he rfl rfl)) ?_
          refine d_t 9 rfl rfl (by kernel_rfl) rfl (fun _ m => m.keeps (.refl _)) (y_yes rfl rfl h72 (v_move rfl)) ?_
          obtain ⟨k, hk, ek, hF⟩ := (idxF_find (fun p : Part => decide (p.name = l[i].into)) l).resolve_left (fun h => by omega)
          have hF : findP l l[i].into = some l[k] := hF
          obtain ⟨b76, o76, w76, e76, c76, r76⟩ := RdA.at_ hA (i := k) hk
          obtain ⟨q76, rfl, B76, d76, rfl, hB76, hd76, hm76⟩ := r76
          refine d_t 10 rfl rfl (by kernel_rfl) rfl (fun _ m => m.keeps (.refl _)) (y_yes rfl rfl h72 (v_idx he rfl rfl e76 (k) ek hk)) ?_
          refine d_t 11 rfl rfl (by kernel_rfl) rfl (fun _ m => m.keeps (.refl _)) (y_yes rfl rfl h72 (v_fieldAddr he rfl)) ?_
          refine d_t 12 rfl rfl (by kernel_rfl) rfl (fun _ m => m.keeps (.refl _)) (y_yes rfl rfl h72 (v_ldI he rfl (c76 6 _ rfl))) ?_
          refine d_tv 13 rfl rfl (by kernel_rfl) rfl (.refl _) rfl (v_or_f h72 rfl rfl) ?_
          refine d_tv 14 rfl rfl (by kernel_rfl) rfl (.refl _) rfl (v_move rfl) ?_
          refine sxb 80 rfl (fun h80 p80 => ?_) (fun h80 p80 => ?_)
          ·refine d_t 15 rfl rfl (by kernel_rfl) rfl (fun _ m => m.keeps (.refl _)) (y_no rfl rfl h80) ?_
           refine d_t 16 rfl rfl (by kernel_rfl) rfl (fun _ m => m.keeps (.refl _)) (y_no rfl rfl h80) ?_
           refine d_t 17 rfl rfl (by kernel_rfl) rfl (fun _ m => m.keeps (.refl _)) (y_no rfl rfl h80) ?_
           refine d_t 18 rfl rfl (by kernel_rfl) rfl (fun _ m => m.keeps (.refl _)) (y_no rfl rfl h80) ?_
           refine d_t 19 rfl rfl (by kernel_rfl) rfl (fun _ m => m.keeps (.refl _)) (y_no rfl rfl h80) ?_
           refine d_t 20 rfl rfl (by kernel_rfl) rfl (fun _ m => m.keeps (.refl _)) (y_no rfl rfl h80) ?_
           refine d_t 21 rfl rfl (by kernel_rfl) rfl (fun _ m => m.keeps (.refl _)) (y_no rfl rfl h80) ?_
           refine d_t 22 rfl rfl (by kernel_rfl) rfl (fun _ m => m.keeps (.refl _)) (y_no rfl rfl h80) ?_
           refine d_t 23 rfl rfl (by kernel_rfl) rfl (fun _ m => m.keeps (.refl _)) (y_no rfl rfl h80) ?_
           refine d_t 24 rfl rfl (by kernel_rfl) rfl (fun _ m => m.keeps (.refl _)) (y_no rfl rfl h80) ?_
           refine d_t 25 rfl rfl (by kernel_rfl) rfl (fun _ m => m.keeps (.refl _)) (y_no rfl rfl h80) ?_
           refine d_t 26 rfl rfl (by kernel_rfl) rfl (fun _ m => m.keeps (.refl _)) (y_no rfl rfl h80) ?_
           refine d_t 27 rfl rfl (by kernel_rfl) rfl (fun _ m => m.keeps (.refl _)) (y_no rfl rfl h80) ?_
           refine d_tv 28 rfl rfl (by kernel_rfl) rfl (.refl _) rfl (v_or_t h80 rfl) ?_
           refine d_done (by kernel_rfl) ?_
           refine go 1 ?_
           exact q_cut ⟨rfl, rfl, rfl, rfl, (congrArg (fun b => some (Value.bool b)) (by first | (simp only [bad2R, hF, h58, h61, h68, h72, h80, Option.isSome_none, Option.isSome_some, Option.getD_some, bS]; done) | (simp only [bad2R, hS, h58, h61, h68, h72, h80, bS]; done))), trivial⟩ rfl rfl
          ·refine d_t 15 rfl rfl (by kernel_rfl) rfl (fun _ m => m.keeps (.refl _)) (y_yes rfl rfl h80 (v_ldw m2 he rfl rfl)) ?_
           refine d_t 16 rfl rfl (by kernel_rfl) rfl (fun _ m => m.keeps (.refl _)) (y_yes rfl rfl h80 (v_fieldAddr he rfl)) ?_
           refine d_t 17 rfl rfl (by kernel_rfl) rfl (fun _ m => m.keeps (.refl _)) (y_yes rfl rfl h80 (v_ld m1 he rfl rfl)) ?_
           refine d_t 18 rfl rfl (by kernel_rfl) rfl (fun _ m => m.keeps (.refl _)) (y_yes rfl rfl h80 (v_move rfl)) ?_
           obtain ⟨b85, o85, w85, e85, c85, r85⟩ := RdA.at_ hA (i := k) hk
           obtain ⟨q85, rfl, B85, d85, rfl, hB85, hd85, hm85⟩ := r85
           refine d_t 19 rfl rfl (by kernel_rfl) rfl (fun _ m => m.keeps (.refl _)) (y_yes rfl rfl h80 (v_idx he rfl rfl e85 (k) ek hk)) ?_
           refine d_t 20 rfl rfl (by kernel_rfl) rfl (fun _ m => m.keeps (.refl _)) (y_yes rfl rfl h80 (v_fieldAddr he rfl)) ?_
           refine d_t 21 rfl rfl (by kernel_rfl) rfl (fun _ m => m.keeps (.refl _)) (y_yes rfl rfl h80 (v_ldI he rfl (c85 1 _ rfl))) ?_
           refine d_t 22 rfl rfl (by kernel_rfl) rfl (fun _ m => m.keeps (.refl _)) (y_yes rfl rfl h80 (v_fieldAddr he rfl)) ?_
           refine d_t 23 rfl rfl (by kernel_rfl) rfl (fun _ m => m.keeps (.refl _)) (y_yes rfl rfl h80 (v_ld m0 he rfl rfl)) ?_
           refine d_t 24 rfl rfl (by kernel_rfl) rfl (fun _ m => m.keeps (.refl _)) (y_yes rfl rfl h80 (v_fieldAddr he rfl)) ?_
           refine d_t 25 rfl rfl (by kernel_rfl) rfl (fun _ m => m.keeps (.refl _)) (y_yes rfl rfl h80 (v_ld m0 he rfl rfl)) ?_
           refine d_one 26 (by kernel_rfl) rfl ?_
           refine o_yes rfl rfl h80 (o_callV (ref08Takes _ vc c hvc _ _ _) rfl rfl ?_)
           refine d_on (fun _ m => m.keeps (.refl _)) ?_
           refine d_t 27 rfl rfl (by kernel_rfl) rfl (fun _ m => m.keeps (.refl _)) (y_yes rfl rfl h80 (v_not rfl)) ?_
           refine d_tv 28 rfl rfl (by kernel_rfl) rfl (.refl _) rfl (v_or_f h80 rfl rfl) ?_
           refine d_done (by kernel_rfl) ?_
           refine go 1 ?_
           exact q_cut ⟨rfl, rfl, rfl, rfl, (congrArg (fun b => some (Value.bool b)) (by first | (simp only [bad2R, hF, h58, h61, h68, h72, h80, Option.isSome_none, Option.isSome_some, Option.getD_some, bS]; done) | (simp only [bad2R, hS, h58, h61, h68, h72, h80, bS]; done))), trivial⟩ rfl rfl
       ·refine cb rfl (fun h94 p94 => ?_) (fun h94 p94 => ?_)
        ·refine go 12 ?_
         refine fin1 rfl rfl ?_
         exact q_v (congrArg Value.bool (by rw [← validSR_eq]; simp only [validSR, h17, allP_not (f := partR c l) hlt (show partR c l (l.take i) l[i] = false by simp only [partR, h58, h61, h94]; rfl), bS]))
        ·refine go 8 ?_
         refine c_loop (α := Nat) 0 (fun m => I)
          (fun m => [(2, .pointer (some ⟨g2, 0, none⟩)), (3, .pointer (some ⟨g3, 0, none⟩)), (5, .int .i64 ((i : Nat) : Int)), (6, .pointer (some ⟨g6, 0, none⟩)), (8, .int .i64 ((m : Nat) : Int))])
          (fun m => [.blk g6 170 (l[i].cells (.slice B28 l[i].props.length d28)), .blk g3 134 [.slice A l.length c0], .blk g2 24 [vc]])
          (fun m => m ≤ i ∧ ∀ j x, j < m → l[j]? = some x → clash l[i] x = false)
          (fun m => i - m) ⟨Nat.zero_le _, fun j x hj => absurd hj (Nat.not_lt_zero j)⟩ rfl sb rfl ?_
         intro m ⟨hmm, hq⟩
         refine go 8 ?_
         refine cb rfl (fun h97 p97 => ?_) (fun h97 p97 => ?_)
         ·have hlm : m < l.length := by omega
          refine go 5 ?_
          refine c_cut (I' := I) (L' := [(2, .pointer (some ⟨g2, 0, none⟩)), (3, .pointer (some ⟨g3, 0, none⟩)), (5, .int .i64 ((i : Nat) : Int)), (6, .pointer (some ⟨g6, 0, none⟩)), (8, .int .i64 ((m : Nat) : Int)), (119, .bool (clash l[i] l[m]))]) (H' := [.blk g6 170 (l[i].cells (.slice B28 l[i].props.length d28)), .blk g3 134 [.slice A l.length c0], .blk g2 24 [vc]]) ?_ ?_
          ·refine d_startH T.mixed ?_
           refine d_tv 0 rfl rfl (by kernel_rfl) rfl (.refl _) rfl (v_fieldAddr he rfl) ?_
           refine d_tv 1 rfl rfl (by kernel_rfl) rfl (.refl _) rfl (v_ld m1 he rfl rfl) ?_
           refine d_tv 2 rfl rfl (by kernel_rfl) rfl (.refl _) rfl (v_move rfl) ?_
           obtain ⟨b103, o103, w103, e103, c103, r103⟩ := RdA.at_ hA (i := m) hlm
           obtain ⟨q103, rfl, B103, d103, rfl, hB103, hd103, hm103⟩ := r103
           refine d_tv 3 rfl rfl (by kernel_rfl) rfl (.refl _) rfl (v_idx he rfl rfl e103 (m) (by omega) hlm) ?_
           refine d_tv 4 rfl rfl (by kernel_rfl) rfl (.refl _) rfl (v_fieldAddr he rfl) ?_
           refine d_tv 5 rfl rfl (by kernel_rfl) rfl (.refl _) rfl (v_ldI he rfl (c103 2 _ rfl)) ?_
           refine d_tv 6 rfl rfl (by kernel_rfl) rfl (.refl _) rfl (v_fieldAddr he rfl) ?_
           refine d_tv 7 rfl rfl (by kernel_rfl) rfl (.refl _) rfl (v_ld m0 he rfl rfl) ?_
           refine d_tv 8 rfl rfl (by kernel_rfl) rfl (.refl _) rfl (v_seql rfl rfl) ?_
           refine d_tv 9 rfl rfl (by kernel_rfl) rfl (.refl _) rfl (v_move rfl) ?_
           refine sxb 109 rfl (fun h109 p109 => ?_) (fun h109 p109 => ?_)
           ·refine d_t 10 rfl rfl (by kernel_rfl) rfl (fun _ m => m.keeps (.refl _)) (y_yes rfl rfl h109 (v_fieldAddr he rfl)) ?_
            refine d_t 11 rfl rfl (by kernel_rfl) rfl (fun _ m => m.keeps (.refl _)) (y_yes rfl rfl h109 (v_ld m1 he rfl rfl)) ?_
            refine d_t 12 rfl rfl (by kernel_rfl) rfl (fun _ m => m.keeps (.refl _)) (y_yes rfl rfl h109 (v_move rfl)) ?_
            obtain ⟨b113, o113, w113, e113, c113, r113⟩ := RdA.at_ hA (i := m) hlm
            obtain ⟨q113, rfl, B113, d113, rfl, hB113, hd113, hm113⟩ := r113
            refine d_t 13 rfl rfl (by kernel_rfl) rfl (fun _ m => m.keeps (.refl _)) (y_yes rfl rfl h109 (v_idx he rfl rfl e113 (m) (by omega) hlm)) ?_
            refine d_t 14 rfl rfl (by kernel_rfl) rfl (fun _ m => m.keeps (.refl _)) (y_yes rfl rfl h109 (v_fieldAddr he rfl)) ?_
            refine d_t 15 rfl rfl (by kernel_rfl) rfl (fun _ m => m.keeps (.refl _)) (y_yes rfl rfl h109 (v_ldI he rfl (c113 3 _ rfl))) ?_
            refine d_t 16 rfl rfl (by kernel_rfl) rfl (fun _ m => m.keeps (.refl _)) (y_yes rfl rfl h109 (v_fieldAddr he rfl)) ?_
            refine d_t 17 rfl rfl (by kernel_rfl) rfl (fun _ m => m.keeps (.refl _)) (y_yes rfl rfl h109 (v_ld m0 he rfl rfl)) ?_
            refine d_t 18 rfl rfl (by kernel_rfl) rfl (fun _ m => m.keeps (.refl _)) (y_yes rfl rfl h109 (v_seql rfl rfl)) ?_
            refine d_tv 19 rfl rfl (by kernel_rfl) rfl (.refl _) rfl (v_and_t h109 rfl rfl) ?_
            refine d_done (by kernel_rfl) ?_
            refine go 1 ?_
            exact q_cut ⟨rfl, rfl, rfl, rfl, rfl, (congrArg (fun b => some (Value.bool b)) (by simp only [clash, h97, h109, bS])), trivial⟩ rfl rfl
           ·refine d_t 10 rfl rfl (by kernel_rfl) rfl (fun _ m => m.keeps (.refl _)) (y_no rfl rfl h109) ?_
            refine d_t 11 rfl rfl (by kernel_rfl) rfl (fun _ m => m.keeps (.refl _)) (y_no rfl rfl h109) ?_
            refine d_t 12 rfl rfl (by kernel_rfl) rfl (fun _ m => m.keeps (.refl _)) (y_no rfl rfl h109) ?_
            refine d_t 13 rfl rfl (by kernel_rfl) rfl (fun _ m => m.keeps (.refl _)) (y_no rfl rfl h109) ?_
            refine d_t 14 rfl rfl (by kernel_rfl) rfl (fun _ m => m.keeps (.refl _)) (y_no rfl rfl h109) ?_
            refine d_t 15 rfl rfl (by kernel_rfl) rfl (fun _ m => m.keeps (.refl _)) (y_no rfl rfl h109) ?_
            refine d_t 16 rfl rfl (by kernel_rfl) rfl (fun _ m => m.keeps (.refl _)) (y_no rfl rfl h109) ?_
            refine d_t 17 rfl rfl (by kernel_rfl) rfl (fun _ m => m.keeps (.refl _)) (y_no rfl rfl h109) ?_
            refine d_t 18 rfl rfl (by kernel_rfl) rfl (fun _ m => m.keeps (.refl _)) (y_no rfl rfl h109) ?_
            refine d_tv 19 rfl rfl (by kernel_rfl) rfl (.refl _) rfl (v_and_f h109 rfl) ?_
            refine d_done (by kernel_rfl) ?_
            refine go 1 ?_
            exact q_cut ⟨rfl, rfl, rfl, rfl, rfl, (congrArg (fun b => some (Value.bool b)) (by simp only [clash, h97, h109, bS])), trivial⟩ rfl rfl
          ·refine cb rfl (fun h119 p119 => ?_) (fun h119 p119 => ?_)
           ·refine go 15 ?_
            refine fin1 rfl rfl ?_
            exact q_v (congrArg Value.bool (by rw [← validSR_eq]; simp only [validSR, h17, allP_not (f := partR c l) hlt (show partR c l (l.take i) l[i] = false by simp only [partR, h58, h61, h94, seat_hit (m := m) (i := i) (by omega) hlm h119]; rfl), bS]))
           ·refine go 9 ?_
            exact q_next (m + 1) ⟨by omega, idx_next hq (show m < l.length by omega) h119⟩ (by omega) rfl sb rfl
         ·refine go 12 ?_
          refine sx_drop ?_
          exact q_next (i + 1) ⟨by omega, allP_succ hn hlt (by have := seat_end hq (by omega : i ≤ m); simp only [partR, h58, h61, h94, this]; rfl)⟩ (by omega) rfl sb rfl
   ·refine go 11 ?_
    refine fin1 rfl rfl ?_
    have e : i = l.length := (by omega)
    subst e
    exact q_v (congrArg Value.bool (by rw [← validSR_eq]; simp only [validSR, hn, h17]; rfl))

end Go.Proofs.YtoadjlmbdliceaaGreat

/- Walks, printed by a program out of the code of the functions: each theorem is a contract of one function. -/
namespace Go.Proofs.YtoadjlmbdliceaaGreat
open Go Go.Sx
set_option linter.all false
set_option maxRecDepth 20000
set_option maxHeartbeats 4000000
instance T.by_56 : Has (bytesK Tryz.prog 56) ([.int .i64 0, .int .i64 0, .string ⟨#[]⟩, .string ⟨#[]⟩, .string ⟨#[]⟩, .string ⟨#[]⟩, .string ⟨#[]⟩, .string ⟨#[]⟩, .int .i64 0, .int .i64 0, .int .i64 0, .int .i64 0, .int .i64 0, .int .i64 0], 14, 160) := ⟨by kernel_rfl⟩
theorem ref10with (I : IMap) (v : Value) (l : List Part) (hv : RdS I v l) (hl : l.length ≤ 1000000) (x : Part) (B : Option Addr) (d : Nat) (hr : Enc.rd I (x.cells (.slice B x.props.length d)) x) :
    FnI Tryz.prog 188 #[.agg #[v], .agg (x.cells (.slice B x.props.length d)).toArray] I (fun u J => ∃ w, u = .agg #[w] ∧ RdS J w (withF Part.name x l)) := by
 obtain ⟨A, c0, rfl, hA, hc, hm⟩ := hv
 refine enter Tryz.func188 Tryz.call188 rfl Tryz.ntmps188 rfl (fun w0 => ?_)
 refine go 3 ?_
 refine o_box _ rfl rfl rfl (fun g2 => ?_)
 refine go 1 ?_
 refine o_box _ rfl rfl rfl (fun g3 => ?_)
 refine go 1 ?_
 refine o_alloc he rfl (fun g4 => ?_)
 refine go 5 ?_
 refine o_alloc he rfl (fun g5 => ?_)
 refine go 4 ?_
 refine sx_nilrow 170 14 ?_
 refine go 10 ?_
 refine c_loop5 ((0 : Nat)) (_) ([]) (_) ([]) (fun i v xs b out => I)
  (fun i v xs b out => [(2, .pointer (some ⟨g2, 0, none⟩)), (3, .pointer (some ⟨g3, 0, none⟩)), (4, .pointer (some ⟨g4, 0, none⟩)), (5, .pointer (some ⟨g5, 0, none⟩)), (6, .bool b), (7, .int .i64 ((i : Nat) : Int))])
  (fun i v xs b out => [.row v 170 14 out.length xs, .blk g5 134 [v], .blk g4 134 [.slice none 0 0], .blk g3 170 (x.cells (.slice B x.props.length d)), .blk g2 134 [.slice A l.length c0]])
  (fun i v xs b out => i ≤ l.length ∧ wF Part.name x (l.take i) = (out, b) ∧ Flat I xs out)
  (fun i v xs b out => l.length - i) ⟨Nat.zero_le _, rfl, .nil⟩ rfl sb rfl ?_
 intro i v xs b out ⟨hi, hw, hF⟩
 have hol := w_le hw
 refine go 10 ?_
 refine cb rfl (fun h12 p12 => ?_) (fun h12 p12 => ?_)
 ·have hlt : i < l.length := by omega
  refine go 6 ?_
  refine d_startH T.mixed ?_
  refine d_tv 0 rfl rfl (by kernel_rfl) rfl (.refl _) rfl (v_move rfl) ?_
  refine d_tv 1 rfl rfl (by kernel_rfl) rfl (.refl _) rfl (v_not rfl) ?_
  refine d_tv 2 rfl rfl (by kernel_rfl) rfl (.refl _) rfl (v_move rfl) ?_
  refine sxb 17 rfl (fun h17 p17 => ?_) (fun h17 p17 => ?_)
  ·refine d_t 3 rfl rfl (by kernel_rfl) rfl (fun _ m => m.keeps (.refl _)) (y_yes rfl rfl h17 (v_fieldAddr he rfl)) ?_
   refine d_t 4 rfl rfl (by kernel_rfl) rfl (fun _ m => m.keeps (.refl _)) (y_yes rfl rfl h17 (v_ld m4 he rfl rfl)) ?_
   refine d_t 5 rfl rfl (by kernel_rfl) rfl (fun _ m => m.keeps (.refl _)) (y_yes rfl rfl h17 (v_move rfl)) ?_
   obtain ⟨b21, o21, w21, e21, c21, r21⟩ := RdA.at_ hA (i := i) hlt
   obtain ⟨q21, rfl, B21, d21, rfl, hB21, hd21, hm21⟩ := r21
   refine d_t 6 rfl rfl (by kernel_rfl) rfl (fun _ m => m.keeps (.refl _)) (y_yes rfl rfl h17 (v_idx he rfl rfl e21 (i) (by omega) hlt)) ?_
   refine d_t 7 rfl rfl (by kernel_rfl) rfl (fun _ m => m.keeps (.refl _)) (y_yes rfl rfl h17 (v_fieldAddr he rfl)) ?_
   refine d_t 8 rfl rfl (by kernel_rfl) rfl (fun _ m => m.keeps (.refl _)) (y_yes rfl rfl h17 (v_ldI he rfl (c21 0 _ rfl))) ?_
   refine d_t 9 rfl rfl (by kernel_rfl) rfl (fun _ m => m.keeps (.refl _)) (y_yes rfl rfl h17 (v_fieldAddr he rfl)) ?_
   refine d_t 10 rfl rfl (by kernel_rfl) rfl (fun _ m => m.keeps (.refl _)) (y_yes rfl rfl h17 (v_ld m3 he rfl rfl)) ?_
   refine d_t 11 rfl rfl (by kernel_rfl) rfl (fun _ m => m.keeps (.refl _)) (y_yes rfl rfl h17 (v_sgeq rfl rfl)) ?_
   refine d_tv 12 rfl rfl (by kernel_rfl) rfl (.refl _) rfl (v_and_t h17 rfl rfl) ?_
   refine d_done (by kernel_rfl) ?_
   refine go 1 ?_
   refine cb rfl (fun h27 p27 => ?_) (fun h27 p27 => ?_)
   ·refine go 6 ?_
    refine o_buildSlice he he rfl rfl rfl rfl rfl rfl rfl (fun v31 => ?_)
    refine go 1 ?_
    refine bring1 ?_
    refine o_appendO he he rfl rfl rfl rfl rfl (by omega) (by omega) rfl (fun v32 => ?_)
    refine sx_row1 (fun u => ?_)
    refine go 2 ?_
    refine bring2 ?_
    refine o_st1 he rfl rfl u rfl ?_
    refine go 7 ?_
    refine d_startH T.mixed ?_
    refine d_tv 0 rfl rfl (by kernel_rfl) rfl (.refl _) rfl (v_fieldAddr he rfl) ?_
    refine d_tv 1 rfl rfl (by kernel_rfl) rfl (.refl _) rfl (v_ld m5 he rfl rfl) ?_
    refine d_tv 2 rfl rfl (by kernel_rfl) rfl (.refl _) rfl (v_move rfl) ?_
    obtain ⟨b37, o37, w37, e37, c37, r37⟩ := RdA.at_ hA (i := i) hlt
    obtain ⟨q37, rfl, B37, d37, rfl, hB37, hd37, hm37⟩ := r37
    refine d_tv 3 rfl rfl (by kernel_rfl) rfl (.refl _) rfl (v_idx he rfl rfl e37 (i) (by omega) hlt) ?_
    refine d_tv 4 rfl rfl (by kernel_rfl) rfl (.refl _) rfl (v_fieldAddr he rfl) ?_
    refine d_tv 5 rfl rfl (by kernel_rfl) rfl (.refl _) rfl (v_ldI he rfl (c37 0 _ rfl)) ?_
    refine d_tv 6 rfl rfl (by kernel_rfl) rfl (.refl _) rfl (v_fieldAddr he rfl) ?_
    refine d_tv 7 rfl rfl (by kernel_rfl) rfl (.refl _) rfl (v_ld m4 he rfl rfl) ?_
    refine d_tv 8 rfl rfl (by kernel_rfl) rfl (.refl _) rfl (v_sneq rfl rfl) ?_
    refine d_done (by kernel_rfl) ?_
    refine go 1 ?_
    refine cb rfl (fun h42 p42 => ?_) (fun h42 p42 => ?_)
    ·refine bring1 ?_
     refine d_start2 T.mixed ?_
     refine d_tv 0 rfl rfl (by kernel_rfl) rfl (.cons _ (.cons _ (.refl _))) rfl (v_fieldAddr he rfl) ?_
     refine d_tv 2 rfl rfl (by kernel_rfl) rfl (.cons _ (.cons _ (.refl _))) rfl (v_fieldAddr he rfl) ?_
     refine d_tv 3 rfl rfl (by kernel_rfl) rfl (.cons _ (.cons _ (.refl _))) rfl (v_ld m3 he rfl rfl) ?_
     refine d_tv 4 rfl rfl (by kernel_rfl) rfl (.cons _ (.cons _ (.refl _))) rfl (v_move rfl) ?_
     obtain ⟨b48, o48, w48, e48, c48, r48⟩ := RdA.at_ hA (i := i) hlt
     obtain ⟨q48, rfl, B48, d48, rfl, hB48, hd48, hm48⟩ := r48
     refine d_tv 5 rfl rfl (by kernel_rfl) rfl (.cons _ (.cons _ (.refl _))) rfl (v_idx he rfl rfl e48 (i) (by omega) hlt) ?_
     refine d_tv 6 rfl rfl (by kernel_rfl) rfl (.cons _ (.cons _ (.refl _))) rfl (v_ldIa he rfl c48 rfl) ?_
     refine d_two 1 7 (by kernel_rfl) rfl rfl ?_ ?_
     ·refine o_val rfl (v_ld m1 he rfl rfl) ?_
      refine d_on (fun _ m => m.keeps (.cons _ (.cons _ (.refl _)))) ?_
      refine d_one 7 (by kernel_rfl) rfl ?_
      refine o_buildSlice he he rfl rfl rfl rfl rfl rfl rfl (fun v50 => ?_)
      refine d_on (fun _ m => m.keeps (.cons _ (.cons _ (.cons _ (.refl _))))) ?_
      refine d_one 8 (by kernel_rfl) rfl ?_
      refine bring1 ?_
      refine o_appendO he he rfl rfl rfl rfl rfl (by omega) (by omega) rfl (fun v51 => ?_)
      refine sx_row1 (fun u => ?_)
      refine d_on (fun _ m => m.keeps (.cons _ (.cons _ (.cons _ (.refl _))))) ?_
      refine d_tv 9 rfl rfl (by kernel_rfl) rfl (.cons _ (.cons _ (.cons _ (.refl _)))) rfl (v_fieldAddr he rfl) ?_
      refine d_one 10 (by kernel_rfl) rfl ?_
      refine bring2 ?_
      refine o_st1 he rfl rfl u rfl ?_
      refine d_on (fun _ m => m.keeps (.cons _ (.cons _ (.cons _ (.refl _))))) ?_
      refine d_done (by kernel_rfl) ?_
      refine go 8 ?_
      refine bring2 ?_
      refine sx_drop ?_
      refine bring2 ?_
      refine sx_drop ?_
      refine bring4 ?_
      refine bring4 ?_
      refine bring4 ?_
      refine bring3 ?_
      refine bring4 ?_
      exact q_next5 (i + 1) (_) (_) (_) (out ++ [x] ++ [l[i]]) ⟨by omega, wF_tt hlt hw h17 h27 h42, (hF.append (.one hr)).append (.one ⟨_, rfl, B48, d48, rfl, hB48, hd48, hm48⟩)⟩ (by omega) rfl sb (by first | rfl | (simp only [List.length_append, List.length_singleton]; rfl) | simp only [List.length_append, List.length_singleton])
     ·refine o_buildSlice he he rfl rfl rfl rfl rfl rfl rfl (fun v50 => ?_)
      refine d_on (fun _ m => m.keeps (.cons _ (.cons _ (.cons _ (.refl _))))) ?_
      refine d_one 1 (by kernel_rfl) rfl ?_
      refine o_val rfl (v_ld m2 he rfl rfl) ?_
      refine d_on (fun _ m => m.keeps (.cons _ (.cons _ (.cons _ (.refl _))))) ?_
      refine d_one 8 (by kernel_rfl) rfl ?_
      refine bring1 ?_
      refine o_appendO he he rfl rfl rfl rfl rfl (by omega) (by omega) rfl (fun v51 => ?_)
      refine sx_row1 (fun u => ?_)
      refine d_on (fun _ m => m.keeps (.cons _ (.cons _ (.cons _ (.refl _))))) ?_
      refine d_tv 9 rfl rfl (by kernel_rfl) rfl (.cons _ (.cons _ (.cons _ (.refl _)))) rfl (v_fieldAddr he rfl) ?_
      refine d_one 10 (by kernel_rfl) rfl ?_
      refine bring2 ?_
      refine o_st1 he rfl rfl u rfl ?_
      refine d_on (fun _ m => m.keeps (.cons _ (.cons _ (.cons _ (.refl _))))) ?_
      refine d_done (by kernel_rfl) ?_
      refine go 8 ?_
      refine bring2 ?_
      refine sx_drop ?_
      refine bring2 ?_
      refine sx_drop ?_
      refine bring4 ?_
      refine bring4 ?_
      refine bring4 ?_
      refine bring3 ?_
      refine bring4 ?_
      exact q_next5 (i + 1) (_) (_) (_) (out ++ [x] ++ [l[i]]) ⟨by omega, wF_tt hlt hw h17 h27 h42, (hF.append (.one hr)).append (.one ⟨_, rfl, B48, d48, rfl, hB48, hd48, hm48⟩)⟩ (by omega) rfl sb (by first | rfl | (simp only [List.length_append, List.length_singleton]; rfl) | simp only [List.length_append, List.length_singleton])
    ·refine go 9 ?_
     refine bring2 ?_
     refine sx_drop ?_
     refine bring4 ?_
     refine bring4 ?_
     refine bring4 ?_
     refine bring3 ?_
     refine bring4 ?_
     exact q_next5 (i + 1) (_) (_) (_) (out ++ [x]) ⟨by omega, wF_tf hlt hw h17 h27 h42, hF.append (.one hr)⟩ (by omega) rfl sb (by first | rfl | (simp only [List.length_append, List.length_singleton]; rfl) | simp only [List.length_append, List.length_singleton])
   ·refine go 3 ?_
    refine d_startH T.mixed ?_
    refine d_tv 0 rfl rfl (by kernel_rfl) rfl (.refl _) rfl (v_fieldAddr he rfl) ?_
    refine d_tv 1 rfl rfl (by kernel_rfl) rfl (.refl _) rfl (v_ld m4 he rfl rfl) ?_
    refine d_tv 2 rfl rfl (by kernel_rfl) rfl (.refl _) rfl (v_move rfl) ?_
    obtain ⟨b37, o37, w37, e37, c37, r37⟩ := RdA.at_ hA (i := i) hlt
    obtain ⟨q37, rfl, B37, d37, rfl, hB37, hd37, hm37⟩ := r37
    refine d_tv 3 rfl rfl (by kernel_rfl) rfl (.refl _) rfl (v_idx he rfl rfl e37 (i) (by omega) hlt) ?_
    refine d_tv 4 rfl rfl (by kernel_rfl) rfl (.refl _) rfl (v_fieldAddr he rfl) ?_
    refine d_tv 5 rfl rfl (by kernel_rfl) rfl (.refl _) rfl (v_ldI he rfl (c37 0 _ rfl)) ?_
    refine d_tv 6 rfl rfl (by kernel_rfl) rfl (.refl _) rfl (v_fieldAddr he rfl) ?_
    refine d_tv 7 rfl rfl (by kernel_rfl) rfl (.refl _) rfl (v_ld m3 he rfl rfl) ?_
    refine d_tv 8 rfl rfl (by kernel_rfl) rfl (.refl _) rfl (v_sneq rfl rfl) ?_
    refine d_done (by kernel_rfl) ?_
    refine go 1 ?_
    refine cb rfl (fun h42 p42 => ?_) (fun h42 p42 => ?_)
    ·refine bring1 ?_
     refine bring1 ?_
     refine d_start2 T.mixed ?_
     refine d_tv 0 rfl rfl (by kernel_rfl) rfl (.cons _ (.cons _ (.refl _))) rfl (v_fieldAddr he rfl) ?_
     refine d_tv 2 rfl rfl (by kernel_rfl) rfl (.cons _ (.cons _ (.refl _))) rfl (v_fieldAddr he rfl) ?_
     refine d_tv 3 rfl rfl (by kernel_rfl) rfl (.cons _ (.cons _ (.refl _))) rfl (v_ld m2 he rfl rfl) ?_
     refine d_tv 4 rfl rfl (by kernel_rfl) rfl (.cons _ (.cons _ (.refl _))) rfl (v_move rfl) ?_
     obtain ⟨b48, o48, w48, e48, c48, r48⟩ := RdA.at_ hA (i := i) hlt
     obtain ⟨q48, rfl, B48, d48, rfl, hB48, hd48, hm48⟩ := r48
     refine d_tv 5 rfl rfl (by kernel_rfl) rfl (.cons _ (.cons _ (.refl _))) rfl (v_idx he rfl rfl e48 (i) (by omega) hlt) ?_
     refine d_tv 6 rfl rfl (by kernel_rfl) rfl (.cons _ (.cons _ (.refl _))) rfl (v_ldIa he rfl c48 rfl) ?_
     refine d_two 1 7 (by kernel_rfl) rfl rfl ?_ ?_
     ·refine o_val rfl (v_ld m1 he rfl rfl) ?_
      refine d_on (fun _ m => m.keeps (.cons _ (.cons _ (.refl _)))) ?_
      refine d_one 7 (by kernel_rfl) rfl ?_
      refine o_buildSlice he he rfl rfl rfl rfl rfl rfl rfl (fun v50 => ?_)
      refine d_on (fun _ m => m.keeps (.cons _ (.cons _ (.cons _ (.refl _))))) ?_
      refine d_one 8 (by kernel_rfl) rfl ?_
      refine bring1 ?_
      refine o_appendO he he rfl rfl rfl rfl rfl (by omega) (by omega) rfl (fun v51 => ?_)
      refine sx_row1 (fun u => ?_)
      refine d_on (fun _ m => m.keeps (.cons _ (.cons _ (.cons _ (.refl _))))) ?_
      refine d_tv 9 rfl rfl (by kernel_rfl) rfl (.cons _ (.cons _ (.cons _ (.refl _)))) rfl (v_fieldAddr he rfl) ?_
      refine d_one 10 (by kernel_rfl) rfl ?_
      refine bring2 ?_
      refine o_st1 he rfl rfl u rfl ?_
      refine d_on (fun _ m => m.keeps (.cons _ (.cons _ (.cons _ (.refl _))))) ?_
      refine d_done (by kernel_rfl) ?_
      refine go 8 ?_
      refine bring2 ?_
      refine sx_drop ?_
      refine bring4 ?_
      refine bring4 ?_
      refine bring4 ?_
      refine bring3 ?_
      refine bring4 ?_
      exact q_next5 (i + 1) (_) (_) (_) (out ++ [l[i]]) ⟨by omega, wF_ft hlt hw (by rw [h17, h27]; rfl) h42, hF.append (.one ⟨_, rfl, B48, d48, rfl, hB48, hd48, hm48⟩)⟩ (by omega) rfl sb (by first | rfl | (simp only [List.length_append, List.length_singleton]; rfl) | simp only [List.length_append, List.length_singleton])
     ·refine o_buildSlice he he rfl rfl rfl rfl rfl rfl rfl (fun v50 => ?_)
      refine d_on (fun _ m => m.keeps (.cons _ (.cons _ (.cons _ (.refl _))))) ?_
      refine d_one 1 (by kernel_rfl) rfl ?_
      refine o_val rfl (v_ld m2 he rfl rfl) ?_
      refine d_on (fun _ m => m.keeps (.cons _ (.cons _ (.cons _ (.refl _))))) ?_
      refine d_one 8 (by kernel_rfl) rfl ?_
      refine bring1 ?_
      refine o_appendO he he rfl rfl rfl rfl rfl (by omega) (by omega) rfl (fun v51 => ?_)
      refine sx_row1 (fun u => ?_)
      refine d_on (fun _ m => m.keeps (.cons _ (.cons _ (.cons _ (.refl _))))) ?_
      refine d_tv 9 rfl rfl (by kernel_rfl) rfl (.cons _ (.cons _ (.cons _ (.refl _)))) rfl (v_fieldAddr he rfl) ?_
      refine d_one 10 (by kernel_rfl) rfl ?_
      refine bring2 ?_
      refine o_st1 he rfl rfl u rfl ?_
      refine d_on (fun _ m => m.keeps (.cons _ (.cons _ (.cons _ (.refl _))))) ?_
      refine d_done (by kernel_rfl) ?_
      refine go 8 ?_
      refine bring2 ?_
      refine sx_drop ?_
      refine bring4 ?_
      refine bring4 ?_
      refine bring4 ?_
      refine bring3 ?_
      refine bring4 ?_
      exact q_next5 (i + 1) (_) (_) (_) (out ++ [l[i]]) ⟨by omega, wF_ft hlt hw (by rw [h17, h27]; rfl) h42, hF.append (.one ⟨_, rfl, B48, d48, rfl, hB48, hd48, hm48⟩)⟩ (by omega) rfl sb (by first | rfl | (simp only [List.length_append, List.length_singleton]; rfl) | simp only [List.length_append, List.length_singleton])
    ·refine go 9 ?_
     exact q_next5 (i + 1) (_) (_) (_) (out) ⟨by omega, wF_ff hlt hw (by rw [h17, h27]; rfl) h42, hF⟩ (by omega) rfl sb (by first | rfl | (simp only [List.length_append, List.length_singleton]; rfl) | simp only [List.length_append, List.length_singleton])
  ·refine d_t 3 rfl rfl (by kernel_rfl) rfl (fun _ m => m.keeps (.refl _)) (y_no rfl rfl h17) ?_
   refine d_t 4 rfl rfl (by kernel_rfl) rfl (fun _ m => m.keeps (.refl _)) (y_no rfl rfl h17) ?_
   refine d_t 5 rfl rfl (by kernel_rfl) rfl (fun _ m => m.keeps (.refl _)) (y_no rfl rfl h17) ?_
   refine d_t 6 rfl rfl (by kernel_rfl) rfl (fun _ m => m.keeps (.refl _)) (y_no rfl rfl h17) ?_
   refine d_t 7 rfl rfl (by kernel_rfl) rfl (fun _ m => m.keeps (.refl _)) (y_no rfl rfl h17) ?_
   refine d_t 8 rfl rfl (by kernel_rfl) rfl (fun _ m => m.keeps (.refl _)) (y_no rfl rfl h17) ?_
   refine d_t 9 rfl rfl (by kernel_rfl) rfl (fun _ m => m.keeps (.refl _)) (y_no rfl rfl h17) ?_
   refine d_t 10 rfl rfl (by kernel_rfl) rfl (fun _ m => m.keeps (.refl _)) (y_no rfl rfl h17) ?_
   refine d_t 11 rfl rfl (by kernel_rfl) rfl (fun _ m => m.keeps (.refl _)) (y_no rfl rfl h17) ?_
   refine d_tv 12 rfl rfl (by kernel_rfl) rfl (.refl _) rfl (v_and_f h17 rfl) ?_
   refine d_done (by kernel_rfl) ?_
   refine go 1 ?_
   refine c_false rfl ?_
   refine go 3 ?_
   refine d_startH T.mixed ?_
   refine d_tv 0 rfl rfl (by kernel_rfl) rfl (.refl _) rfl (v_fieldAddr he rfl) ?_
   refine d_tv 1 rfl rfl (by kernel_rfl) rfl (.refl _) rfl (v_ld m4 he rfl rfl) ?_
   refine d_tv 2 rfl rfl (by kernel_rfl) rfl (.refl _) rfl (v_move rfl) ?_
   obtain ⟨b37, o37, w37, e37, c37, r37⟩ := RdA.at_ hA (i := i) hlt
   obtain ⟨q37, rfl, B37, d37, rfl, hB37, hd37, hm37⟩ := r37
   refine d_tv 3 rfl rfl (by kernel_rfl) rfl (.refl _) rfl (v_idx he rfl rfl e37 (i) (by omega) hlt) ?_
   refine d_tv 4 rfl rfl (by kernel_rfl) rfl (.refl _) rfl (v_fieldAddr he rfl) ?_
   refine d_tv 5 rfl rfl (by kernel_rfl) rfl (.refl _) rfl (v_ldI he rfl (c37 0 _ rfl)) ?_
   refine d_tv 6 rfl rfl (by kernel_rfl) rfl (.refl _) rfl (v_fieldAddr he rfl) ?_
   refine d_tv 7 rfl rfl (by kernel_rfl) rfl (.refl _) rfl (v_ld m3 he rfl rfl) ?_
   refine d_tv 8 rfl rfl (by kernel_rfl) rfl (.refl _) rfl (v_sneq rfl rfl) ?_
   refine d_done (by kernel_rfl) ?_
   refine go 1 ?_
   refine cb rfl (fun h42 p42 => ?_) (fun h42 p42 => ?_)
   ·refine bring1 ?_
    refine bring1 ?_
    refine d_start2 T.mixed ?_
    refine d_tv 0 rfl rfl (by kernel_rfl) rfl (.cons _ (.cons _ (.refl _))) rfl (v_fieldAddr he rfl) ?_
    refine d_tv 2 rfl rfl (by kernel_rfl) rfl (.cons _ (.cons _ (.refl _))) rfl (v_fieldAddr he rfl) ?_
    refine d_tv 3 rfl rfl (by kernel_rfl) rfl (.cons _ (.cons _ (.refl _))) rfl (v_ld m2 he rfl rfl) ?_
    refine d_tv 4 rfl rfl (by kernel_rfl) rfl (.cons _ (.cons _ (.refl _))) rfl (v_move rfl) ?_
    obtain ⟨b48, o48, w48, e48, c48, r48⟩ := RdA.at_ hA (i := i) hlt
    obtain ⟨q48, rfl, B48, d48, rfl, hB48, hd48, hm48⟩ := r48
    refine d_tv 5 rfl rfl (by kernel_rfl) rfl (.cons _ (.cons _ (.refl _))) rfl (v_idx he rfl rfl e48 (i) (by omega) hlt) ?_
    refine d_tv 6 rfl rfl (by kernel_rfl) rfl (.cons _ (.cons _ (.refl _))) rfl (v_ldIa he rfl c48 rfl) ?_
    refine d_two 1 7 (by kernel_rfl) rfl rfl ?_ ?_
    ·refine o_val rfl (v_ld m1 he rfl rfl) ?_
     refine d_on (fun _ m => m.keeps (.cons _ (.cons _ (.refl _)))) ?_
     refine d_one 7 (by kernel_rfl) rfl ?_
     refine o_buildSlice he he rfl rfl rfl rfl rfl rfl rfl (fun v50 => ?_)
     refine d_on (fun _ m => m.keeps (.cons _ (.cons _ (.cons _ (.refl _))))) ?_
     refine d_one 8 (by kernel_rfl) rfl ?_
     refine bring1 ?_
     refine o_appendO he he rfl rfl rfl rfl rfl (by omega) (by omega) rfl (fun v51 => ?_)
     refine sx_row1 (fun u => ?_)
     refine d_on (fun _ m => m.keeps (.cons _ (.cons _ (.cons _ (.refl _))))) ?_
     refine d_tv 9 rfl rfl (by kernel_rfl) rfl (.cons _ (.cons _ (.cons _ (.refl _)))) rfl (v_fieldAddr he rfl) ?_
     refine d_one 10 (by kernel_rfl) rfl ?_
     refine bring2 ?_
     refine o_st1 he rfl rfl u rfl ?_
     refine d_on (fun _ m => m.keeps (.cons _ (.cons _ (.cons _ (.refl _))))) ?_
     refine d_done (by kernel_rfl) ?_
     refine go 8 ?_
     refine bring2 ?_
     refine sx_drop ?_
     refine bring4 ?_
     refine bring4 ?_
     refine bring4 ?_
     refine bring3 ?_
     refine bring4 ?_
     exact q_next5 (i + 1) (_) (_) (_) (out ++ [l[i]]) ⟨by omega, wF_ft hlt hw (by rw [h17]; rfl) h42, hF.append (.one ⟨_, rfl, B48, d48, rfl, hB48, hd48, hm48⟩)⟩ (by omega) rfl sb (by first | rfl | (simp only [List.length_append, List.length_singleton]; rfl) | simp only [List.length_append, List.length_singleton])
    ·refine o_buildSlice he he rfl rfl rfl rfl rfl rfl rfl (fun v50 => ?_)
     refine d_on (fun _ m => m.keeps (.cons _ (.cons _ (.cons _ (.refl _))))) ?_
     refine d_one 1 (by kernel_rfl) rfl ?_
     refine o_val rfl (v_ld m2 he rfl rfl) ?_
     refine d_on (fun _ m => m.keeps (.cons _ (.cons _ (.cons _ (.refl _))))) ?_
     refine d_one 8 (by kernel_rfl) rfl ?_
     refine bring1 ?_
     refine o_appendO he he rfl rfl rfl rfl rfl (by omega) (by omega) rfl (fun v51 => ?_)
     refine sx_row1 (fun u => ?_)
     refine d_on (fun _ m => m.keeps (.cons _ (.cons _ (.cons _ (.refl _))))) ?_
     refine d_tv 9 rfl rfl (by kernel_rfl) rfl (.cons _ (.cons _ (.cons _ (.refl _)))) rfl (v_fieldAddr he rfl) ?_
     refine d_one 10 (by kernel_rfl) rfl ?_
     refine bring2 ?_
     refine o_st1 he rfl rfl u rfl ?_
     refine d_on (fun _ m => m.keeps (.cons _ (.cons _ (.cons _ (.refl _))))) ?_
     refine d_done (by kernel_rfl) ?_
     refine go 8 ?_
     refine bring2 ?_
     refine sx_drop ?_
     refine bring4 ?_
     refine bring4 ?_
     refine bring4 ?_
     refine bring3 ?_
     refine bring4 ?_
     exact q_next5 (i + 1) (_) (_) (_) (out ++ [l[i]]) ⟨by omega, wF_ft hlt hw (by rw [h17]; rfl) h42, hF.append (.one ⟨_, rfl, B48, d48, rfl, hB48, hd48, hm48⟩)⟩ (by omega) rfl sb (by first | rfl | (simp only [List.length_append, List.length_singleton]; rfl) | simp only [List.length_append, List.length_singleton])
   ·refine go 9 ?_
    exact q_next5 (i + 1) (_) (_) (_) (out) ⟨by omega, wF_ff hlt hw (by rw [h17]; rfl) h42, hF⟩ (by omega) rfl sb (by first | rfl | (simp only [List.length_append, List.length_singleton]; rfl) | simp only [List.length_append, List.length_singleton])
 ·have e : i = l.length := (by omega)
  subst e
  rw [List.take_length] at hw
  refine sx_row1 (fun u => ?_)
  refine go 12 ?_
  refine cb rfl (fun h54 p54 => ?_) (fun h54 p54 => ?_)
  ·refine go 5 ?_
   refine o_buildSlice he he rfl rfl rfl rfl rfl rfl rfl (fun v58 => ?_)
   refine go 1 ?_
   refine bring1 ?_
   refine o_appendO he he rfl rfl rfl rfl rfl (by omega) (by omega) rfl (fun v59 => ?_)
   refine sx_row1 (fun u => ?_)
   refine go 2 ?_
   refine bring2 ?_
   refine o_st1 he rfl rfl u rfl ?_
   refine go 6 ?_
   refine bring3 ?_
   refine o_stw _ he rfl rfl rfl rfl rfl (row_all u) ?_
   refine go 3 ?_
   refine fin1 rfl ⟨_, _, _, rfl, m0, .inr ⟨_, he, rfl, rfl⟩⟩ ?_
   refine sx_drop ?_
   refine sx_drop ?_
   refine bring1 ?_
   refine sx_drop ?_
   refine bring1 ?_
   refine sx_drop ?_
   refine bring1 ?_
   refine sx_drop ?_
   refine sx_pubrow (l := out ++ [x]) rfl (by simp) (hF.append (.one hr)) (fun I9 j9 R9 => ?_)
   exact q_i ⟨_, rfl, by rw [with_t hw h54]; exact R9⟩
  ·refine go 6 ?_
   refine bring2 ?_
   refine o_stw _ he rfl rfl rfl rfl rfl (row_all u) ?_
   refine go 3 ?_
   refine fin1 rfl ⟨_, _, _, rfl, m0, .inr ⟨_, he, rfl, rfl⟩⟩ ?_
   refine sx_drop ?_
   refine bring1 ?_
   refine sx_drop ?_
   refine bring1 ?_
   refine sx_drop ?_
   refine bring1 ?_
   refine sx_drop ?_
   refine sx_pubrow (l := out) rfl rfl hF (fun I9 j9 R9 => ?_)
   exact q_i ⟨_, rfl, by rw [with_f hw h54]; exact R9⟩

theorem ref10Note (I : IMap) (v : Value) (l : List Prp) (hv : RdS I v l) (hl : l.length ≤ 1000000) (s t : ByteArray) :
    FnI Tryz.prog 190 #[v, .string s, .string t] I (fun u J => RdS J u (withF Prp.key ⟨s, t⟩ l)) := by
 obtain ⟨A, c0, rfl, hA, hc, hm⟩ := hv
 refine enter Tryz.func190 Tryz.call190 rfl Tryz.ntmps190 rfl (fun w0 => ?_)
 refine go 7 ?_
 refine sx_nilrow 183 2 ?_
 refine go 15 ?_
 refine c_loop5 ((0 : Nat)) (_) ([]) (_) ([]) (fun i v xs b out => I)
  (fun i v xs b out => [(0, .slice A l.length c0), (1, .string s), (2, .string t), (7, v), (8, .bool b), (9, .int .i64 ((i : Nat) : Int))])
  (fun i v xs b out => [.row v 183 2 out.length xs])
  (fun i v xs b out => i ≤ l.length ∧ wF Prp.key ⟨s, t⟩ (l.take i) = (out, b) ∧ Flat I xs out)
  (fun i v xs b out => l.length - i) ⟨Nat.zero_le _, rfl, .nil⟩ rfl sb rfl ?_
 intro i v xs b out ⟨hi, hw, hF⟩
 have hol := w_le hw
 refine go 9 ?_
 refine cb rfl (fun h13 p13 => ?_) (fun h13 p13 => ?_)
 ·have hlt : i < l.length := by omega
  refine go 10 ?_
  refine sxb 18 rfl (fun h18 p18 => ?_) (fun h18 p18 => ?_)
  ·refine go 2 ?_
   obtain ⟨b21, o21, w21, e21, c21, r21⟩ := RdA.at_ hA (i := i) hlt
   obtain rfl := r21
   refine o_cons (o_yes rfl rfl h18 (o_val rfl (v_idx he rfl rfl e21 (i) (by omega) hlt) ?_))
   refine go 1 ?_
   refine o_cons (o_yes rfl rfl h18 (o_val rfl (v_ldI he rfl (c21 0 _ rfl)) ?_))
   refine go 5 ?_
   refine cb rfl (fun h26 p26 => ?_) (fun h26 p26 => ?_)
   ·refine go 6 ?_
    refine o_val rfl (v_build (pl := [(0, 1), (1, 1)]) he he rfl rfl) ?_
    refine go 1 ?_
    refine o_buildSlice he he rfl rfl rfl rfl rfl rfl rfl (fun v31 => ?_)
    refine go 1 ?_
    refine bring1 ?_
    refine o_appendO he he rfl rfl rfl rfl rfl (by omega) (by omega) rfl (fun v32 => ?_)
    refine go 11 ?_
    obtain ⟨b35, o35, w35, e35, c35, r35⟩ := RdA.at_ hA (i := i) hlt
    obtain rfl := r35
    refine o_v rfl (v_idx he rfl rfl e35 (i) (by omega) hlt) ?_
    refine go 1 ?_
    refine o_v rfl (v_ldI he rfl (c35 0 _ rfl)) ?_
    refine go 4 ?_
    refine cb rfl (fun h39 p39 => ?_) (fun h39 p39 => ?_)
    ·refine go 4 ?_
     obtain ⟨b43, o43, w43, e43, c43, r43⟩ := RdA.at_ hA (i := i) hlt
     obtain rfl := r43
     refine o_v rfl (v_idx he rfl rfl e43 (i) (by omega) hlt) ?_
     refine o_v rfl (v_ldIa he rfl c43 rfl) ?_
     refine go 1 ?_
     refine o_buildSlice he he rfl rfl rfl rfl rfl rfl rfl (fun v45 => ?_)
     refine go 1 ?_
     refine bring1 ?_
     refine o_appendO he he rfl rfl rfl rfl rfl (by omega) (by omega) rfl (fun v46 => ?_)
     refine go 10 ?_
     refine bring1 ?_
     refine sx_drop ?_
     refine bring1 ?_
     refine sx_drop ?_
     exact q_next5 (i + 1) (_) (_) (_) (out ++ [⟨s, t⟩] ++ [l[i]]) ⟨by omega, wF_tt hlt hw h18 h26 h39, (hF.append (.one rfl)).append (.one rfl)⟩ (by omega) rfl sb (by first | rfl | (simp only [List.length_append, List.length_singleton]; rfl) | simp only [List.length_append, List.length_singleton])
    ·refine go 9 ?_
     refine bring1 ?_
     refine sx_drop ?_
     exact q_next5 (i + 1) (_) (_) (_) (out ++ [⟨s, t⟩]) ⟨by omega, wF_tf hlt hw h18 h26 h39, hF.append (.one rfl)⟩ (by omega) rfl sb (by first | rfl | (simp only [List.length_append, List.length_singleton]; rfl) | simp only [List.length_append, List.length_singleton])
   ·refine go 6 ?_
    obtain ⟨b35, o35, w35, e35, c35, r35⟩ := RdA.at_ hA (i := i) hlt
    obtain rfl := r35
    refine o_v rfl (v_idx he rfl rfl e35 (i) (by omega) hlt) ?_
    refine go 1 ?_
    refine o_v rfl (v_ldI he rfl (c35 0 _ rfl)) ?_
    refine go 4 ?_
    refine cb rfl (fun h39 p39 => ?_) (fun h39 p39 => ?_)
    ·refine go 4 ?_
     obtain ⟨b43, o43, w43, e43, c43, r43⟩ := RdA.at_ hA (i := i) hlt
     obtain rfl := r43
     refine o_v rfl (v_idx he rfl rfl e43 (i) (by omega) hlt) ?_
     refine o_v rfl (v_ldIa he rfl c43 rfl) ?_
     refine go 1 ?_
     refine o_buildSlice he he rfl rfl rfl rfl rfl rfl rfl (fun v45 => ?_)
     refine go 1 ?_
     refine bring1 ?_
     refine o_appendO he he rfl rfl rfl rfl rfl (by omega) (by omega) rfl (fun v46 => ?_)
     refine go 10 ?_
     refine bring1 ?_
     refine sx_drop ?_
     exact q_next5 (i + 1) (_) (_) (_) (out ++ [l[i]]) ⟨by omega, wF_ft hlt hw (by rw [h18, h26]; rfl) h39, hF.append (.one rfl)⟩ (by omega) rfl sb (by first | rfl | (simp only [List.length_append, List.length_singleton]; rfl) | simp only [List.length_append, List.length_singleton])
    ·refine go 9 ?_
     exact q_next5 (i + 1) (_) (_) (_) (out) ⟨by omega, wF_ff hlt hw (by rw [h18, h26]; rfl) h39, hF⟩ (by omega) rfl sb (by first | rfl | (simp only [List.length_append, List.length_singleton]; rfl) | simp only [List.length_append, List.length_singleton])
  ·refine go 10 ?_
   refine c_false rfl ?_
   refine go 6 ?_
   obtain ⟨b35, o35, w35, e35, c35, r35⟩ := RdA.at_ hA (i := i) hlt
   obtain rfl := r35
   refine o_v rfl (v_idx he rfl rfl e35 (i) (by omega) hlt) ?_
   refine go 1 ?_
   refine o_v rfl (v_ldI he rfl (c35 0 _ rfl)) ?_
   refine go 4 ?_
   refine cb rfl (fun h39 p39 => ?_) (fun h39 p39 => ?_)
   ·refine go 4 ?_
    obtain ⟨b43, o43, w43, e43, c43, r43⟩ := RdA.at_ hA (i := i) hlt
    obtain rfl := r43
    refine o_v rfl (v_idx he rfl rfl e43 (i) (by omega) hlt) ?_
    refine o_v rfl (v_ldIa he rfl c43 rfl) ?_
    refine go 1 ?_
    refine o_buildSlice he he rfl rfl rfl rfl rfl rfl rfl (fun v45 => ?_)
    refine go 1 ?_
    refine bring1 ?_
    refine o_appendO he he rfl rfl rfl rfl rfl (by omega) (by omega) rfl (fun v46 => ?_)
    refine go 10 ?_
    refine bring1 ?_
    refine sx_drop ?_
    exact q_next5 (i + 1) (_) (_) (_) (out ++ [l[i]]) ⟨by omega, wF_ft hlt hw (by rw [h18]; rfl) h39, hF.append (.one rfl)⟩ (by omega) rfl sb (by first | rfl | (simp only [List.length_append, List.length_singleton]; rfl) | simp only [List.length_append, List.length_singleton])
   ·refine go 9 ?_
    exact q_next5 (i + 1) (_) (_) (_) (out) ⟨by omega, wF_ff hlt hw (by rw [h18]; rfl) h39, hF⟩ (by omega) rfl sb (by first | rfl | (simp only [List.length_append, List.length_singleton]; rfl) | simp only [List.length_append, List.length_singleton])
 ·have e : i = l.length := (by omega)
  subst e
  rw [List.take_length] at hw
  refine go 12 ?_
  refine cb rfl (fun h48 p48 => ?_) (fun h48 p48 => ?_)
  ·refine go 5 ?_
   refine o_val rfl (v_build (pl := [(0, 1), (1, 1)]) he he rfl rfl) ?_
   refine go 1 ?_
   refine o_buildSlice he he rfl rfl rfl rfl rfl rfl rfl (fun v53 => ?_)
   refine go 1 ?_
   refine bring1 ?_
   refine o_appendO he he rfl rfl rfl rfl rfl (by omega) (by omega) rfl (fun v54 => ?_)
   refine go 10 ?_
   refine fin1 rfl rfl ?_
   refine bring1 ?_
   refine sx_drop ?_
   refine sx_pubrow (l := out ++ [(⟨s, t⟩ : Prp)]) rfl (by simp) (hF.append (.one rfl)) (fun I9 j9 R9 => ?_)
   exact q_i (by rw [with_t hw h48]; exact R9)
  ·refine go 9 ?_
   refine fin1 rfl rfl ?_
   refine sx_pubrow (l := out) rfl rfl hF (fun I9 j9 R9 => ?_)
   exact q_i (by rw [with_f hw h48]; exact R9)

theorem ref10held (I : IMap) (v : Value) (l : List Part) (hv : RdS I v l) (s t : ByteArray) :
    FnV Tryz.prog 189 #[.agg #[v], .string s, .string t] I (.bool (heldF l s t)) := by
 obtain ⟨A, c0, rfl, hA, hc, hm⟩ := hv
 refine enter Tryz.func189 Tryz.call189 rfl Tryz.ntmps189 rfl (fun w0 => ?_)
 refine go 3 ?_
 refine o_box _ rfl rfl rfl (fun g3 => ?_)
 refine go 10 ?_
 refine c_loop (α := Nat) 0 (fun i => I)
  (fun i => [(1, .string s), (2, .string t), (3, .pointer (some ⟨g3, 0, none⟩)), (7, .int .i64 ((i : Nat) : Int))])
  (fun i => [.blk g3 134 [.slice A l.length c0]])
  (fun i => i ≤ l.length ∧ ∀ j x, j < i → l[j]? = some x → (fun x : Part => decide (x.into = s) && (decide (t = nil8) || decide (x.slot = t))) x = false)
  (fun i => l.length - i) ⟨Nat.zero_le _, fun j x hj => absurd hj (Nat.not_lt_zero j)⟩ rfl sb rfl ?_
 intro i ⟨hi, hn⟩
 refine go 10 ?_
 refine cb rfl (fun h12 p12 => ?_) (fun h12 p12 => ?_)
 ·have hlt : i < l.length := by omega
  refine go 5 ?_
  refine c_cut (I' := I) (L' := [(1, .string s), (2, .string t), (3, .pointer (some ⟨g3, 0, none⟩)), (7, .int .i64 ((i : Nat) : Int)), (36, .bool (decide (l[i].into = s) && (decide (t = nil8) || decide (l[i].slot = t))))]) (H' := [.blk g3 134 [.slice A l.length c0]]) ?_ ?_
  ·refine go 4 ?_
   obtain ⟨b18, o18, w18, e18, c18, r18⟩ := RdA.at_ hA (i := i) hlt
   obtain ⟨q18, rfl, B18, d18, rfl, hB18, hd18, hm18⟩ := r18
   refine o_v rfl (v_idx he rfl rfl e18 (i) (by omega) hlt) ?_
   refine go 1 ?_
   refine o_v rfl (v_ldI he rfl (c18 2 _ rfl)) ?_
   refine go 3 ?_
   refine sxb 23 rfl (fun h23 p23 => ?_) (fun h23 p23 => ?_)
   ·refine go 3 ?_
    refine sxb 26 rfl (fun h26 p26 => ?_) (fun h26 p26 => ?_)
    ·refine go 12 ?_
     exact q_cut ⟨rfl, rfl, rfl, rfl, (congrArg (fun b => some (Value.bool b)) (by simp only [h12, h23, h26, bS])), trivial⟩ rfl rfl
    ·refine go 3 ?_
     obtain ⟨b30, o30, w30, e30, c30, r30⟩ := RdA.at_ hA (i := i) hlt
     obtain ⟨q30, rfl, B30, d30, rfl, hB30, hd30, hm30⟩ := r30
     refine o_cons (o_yes rfl rfl h26 (o_val rfl (v_idx he rfl rfl e30 (i) (by omega) hlt) ?_))
     refine go 1 ?_
     refine o_cons (o_yes rfl rfl h26 (o_val rfl (v_ldI he rfl (c30 3 _ rfl)) ?_))
     refine go 6 ?_
     exact q_cut ⟨rfl, rfl, rfl, rfl, (congrArg (fun b => some (Value.bool b)) (by simp only [h12, h23, h26, bS])), trivial⟩ rfl rfl
   ·refine go 15 ?_
    exact q_cut ⟨rfl, rfl, rfl, rfl, (congrArg (fun b => some (Value.bool b)) (by simp only [h12, h23, bS])), trivial⟩ rfl rfl
  ·refine cb rfl (fun h36 p36 => ?_) (fun h36 p36 => ?_)
   ·refine go 11 ?_
    refine fin1 rfl rfl ?_
    exact q_v (congrArg Value.bool (List.any_eq_true.2 ⟨l[i], List.getElem_mem hlt, h36⟩).symm)
   ·refine go 9 ?_
    exact q_next (i + 1) ⟨by omega, idx_next (p := (fun x : Part => decide (x.into = s) && (decide (t = nil8) || decide (x.slot = t)))) hn hlt h36⟩ (by omega) rfl sb rfl
 ·refine go 11 ?_
  refine fin1 rfl rfl ?_
  exact q_v (congrArg Value.bool (any_none (fun j x hj => hn j x (by omega))).symm)

theorem ref10heldS (I : IMap) (v : Value) (l : List Part) (hv : RdS I v l) (e : Evt) (h : e.slot ≠ nil8) : FnV Tryz.prog 189 #[.agg #[v], .string e.into, .string e.slot] I (.bool (seatTaken l e)) := by
  have := ref10held I v l hv e.into e.slot
  rwa [held_seat l e h] at this
theorem ref10heldA (I : IMap) (v : Value) (l : List Part) (hv : RdS I v l) (s : ByteArray) : FnV Tryz.prog 189 #[.agg #[v], .string s, .string ⟨#[]⟩] I (.bool (holdsAny l s)) := by
  have := ref10held I v l hv s nil8
  rwa [held_any l s] at this

theorem ref10Step (I : IMap) (vc : Value) (c : List Kind) (hvc : RdS I vc c) (hsc : SmC c) (v : Value) (l : List Part) (hv : RdS I v l) (hsf : SmF l) (e : Evt) (hse : SmE e) (hV : validS c l = true) (hE : validE e = true) :
    FnI Tryz.prog 158 #[.agg #[vc], .agg #[v], .agg e.cells.toArray] I (fun u J => StIs J (applyF c l e) u) := by
 have hA0 : (!validS c l || !validE e) = false := by rw [hV, hE]; rfl
 obtain ⟨hsrt, hlen⟩ := validS_ord hV
 have hl6 : l.length ≤ 1000000 := by omega
 have hv0 := hv
 obtain ⟨A, c0, rfl, hA, hc, hm⟩ := hv
 refine enter Tryz.func158 Tryz.call158 rfl Tryz.ntmps158 rfl (fun w0 => ?_)
 refine go 3 ?_
 refine o_box _ rfl rfl rfl (fun g3 => ?_)
 refine go 1 ?_
 refine o_box _ rfl rfl rfl (fun g4 => ?_)
 refine go 1 ?_
 refine o_box _ rfl rfl rfl (fun g5 => ?_)
 refine go 1 ?_
 refine o_alloc he rfl (fun g6 => ?_)
 refine go 9 ?_
 refine o_callV (ref10At _ _ l hv0 e.part) rfl rfl ?_
 refine go 11 ?_
 refine cb rfl (fun h22 p22 => ?_) (fun h22 p22 => ?_)
 ·refine go 6 ?_
  refine o_callE (refFind _ vc c hvc e.kind) rfl rfl (fun v27 q27 => ?_)
  obtain ⟨vs13, rfl, s13, rfl, hs13⟩ := q27
  refine go 4 ?_
  refine o_alloc he rfl (fun g9 => ?_)
  refine go 1 ?_
  refine o_stw _ he rfl rfl rfl rfl rfl (Enc.one (α := Kind) (I := I) (x := (findK c e.kind).getD zKind) ⟨s13, rfl, hs13⟩) ?_
  refine go 10 ?_
  refine cb rfl (fun h31 p31 => ?_) (fun h31 p31 => ?_)
  ·have hS1 : (findP l e.part).isSome = true := (by rw [← find_idx]; exact h31)
   refine go 3 ?_
   refine o_val rfl (v_build (pl := [(0, 1)]) he he rfl rfl) ?_
   refine go 1 ?_
   refine bring1 ?_
   refine o_stw _ he rfl rfl rfl rfl rfl rfl ?_
   refine go 6 ?_
   refine fin2 rfl ⟨_, _, _, rfl, m0, .inr ⟨_, he, rfl, rfl⟩⟩ rfl ?_
   exact q_i (StIs.fail (by simp only [applyF, hA0, p22, applyMake, hS1, Bool.true_eq_false, decide_true, decide_false, Int.reduceEq, reduceIte, if_true, if_false, Bool.false_eq_true, not_true, not_false_eq_true, bS]))
  ·have hS1 : (findP l e.part).isSome = false := (by rw [← find_idx]; exact h31)
   refine go 9 ?_
   refine cb rfl (fun h34 p34 => ?_) (fun h34 p34 => ?_)
   ·refine go 3 ?_
    refine o_val rfl (v_build (pl := [(0, 1)]) he he rfl rfl) ?_
    refine go 1 ?_
    refine bring1 ?_
    refine o_stw _ he rfl rfl rfl rfl rfl rfl ?_
    refine go 6 ?_
    refine fin2 rfl ⟨_, _, _, rfl, m0, .inr ⟨_, he, rfl, rfl⟩⟩ rfl ?_
    exact q_i (StIs.fail (by simp only [applyF, hA0, p22, applyMake, hS1, p34, Bool.true_eq_false, decide_true, decide_false, Int.reduceEq, reduceIte, if_true, if_false, Bool.false_eq_true, not_true, not_false_eq_true, bS]))
   ·refine go 11 ?_
    refine cb rfl (fun h39 p39 => ?_) (fun h39 p39 => ?_)
    ·have hL : ((l.length : Nat) : Int) = 20000 := by omega
     refine go 3 ?_
     refine o_val rfl (v_build (pl := [(0, 1)]) he he rfl rfl) ?_
     refine go 1 ?_
     refine bring1 ?_
     refine o_stw _ he rfl rfl rfl rfl rfl rfl ?_
     refine go 6 ?_
     refine fin2 rfl ⟨_, _, _, rfl, m0, .inr ⟨_, he, rfl, rfl⟩⟩ rfl ?_
     exact q_i (StIs.fail (by simp only [applyF, hA0, p22, applyMake, hS1, p34, hL, Bool.true_eq_false, decide_true, decide_false, Int.reduceEq, reduceIte, if_true, if_false, Bool.false_eq_true, not_true, not_false_eq_true, bS]))
    ·have hL : ¬ ((l.length : Nat) : Int) = 20000 := by omega
     refine go 14 ?_
     refine o_val rfl (v_build (pl := [(0, 1), (1, 1), (2, 1), (3, 1), (4, 1), (5, 1), (6, 1), (7, 1), (8, 6)]) he he rfl rfl) ?_
     refine go 1 ?_
     refine o_call (ref10with _ _ l hv0 hl6 (newP e) none 0 ⟨_, rfl, RdS.nil'⟩) rfl rfl (fun v51 I51 j51 q51 => ?_)
     obtain ⟨w51, rfl, hw51⟩ := q51
     refine go 1 ?_
     refine bring1 ?_
     refine o_stw _ he rfl rfl rfl rfl rfl (by simp [hw51.one]) ?_
     refine go 5 ?_
     refine fin2 rfl ⟨_, _, _, rfl, m0, .inr ⟨_, he, rfl, rfl⟩⟩ rfl ?_
     rw [with_put (inc_of hsrt)] at hw51
     exact q_i (StIs.put (by simp only [applyF, hA0, p22, applyMake, hS1, p34, hL, Bool.true_eq_false, decide_true, decide_false, Int.reduceEq, reduceIte, if_true, if_false, Bool.false_eq_true, not_true, not_false_eq_true, bS]) hw51)
 ·refine go 9 ?_
  refine c_cut (I' := I) (L' := [(3, .pointer (some ⟨g3, 0, none⟩)), (4, .pointer (some ⟨g4, 0, none⟩)), (5, .pointer (some ⟨g5, 0, none⟩)), (6, .pointer (some ⟨g6, 0, none⟩)), (8, .int .i64 (idxF (fun p : Part => decide (p.name = e.part)) l)), (11, .int .i64 (idxF (fun p : Part => decide (p.name = (otherN e))) l))]) (H' := [.blk g6 134 [.slice none 0 0], .blk g5 56 e.cells, .blk g4 134 [.slice A l.length c0], .blk g3 24 [vc]]) ?_ ?_
  ·refine go 7 ?_
   refine cb rfl (fun h55 p55 => ?_) (fun h55 p55 => ?_)
   ·refine go 5 ?_
    refine o_callV (ref10At _ _ l hv0 e.into) rfl rfl ?_
    refine go 3 ?_
    exact q_cut ⟨rfl, rfl, rfl, rfl, rfl, (congrArg (fun s => some (Value.int .i64 (idxF (fun p : Part => decide (p.name = s)) l))) (by first | exact (if_pos p55).symm | exact (if_neg p55).symm)), trivial⟩ rfl rfl
   ·refine go 2 ?_
    exact q_cut ⟨rfl, rfl, rfl, rfl, rfl, (congrArg (fun s => some (Value.int .i64 (idxF (fun p : Part => decide (p.name = s)) l))) (by first | exact (if_pos p55).symm | exact (if_neg p55).symm)), trivial⟩ rfl rfl
  ·refine go 6 ?_
   refine sxb 62 rfl (fun h62 p62 => ?_) (fun h62 p62 => ?_)
   ·have hS1 : (findP l e.part).isSome = false := (by rw [← find_idx]; simpa using p62)
    refine go 5 ?_
    refine c_true rfl ?_
    refine go 3 ?_
    refine o_val rfl (v_build (pl := [(0, 1)]) he he rfl rfl) ?_
    refine go 1 ?_
    refine o_stw _ he rfl rfl rfl rfl rfl rfl ?_
    refine go 5 ?_
    refine fin2 rfl ⟨_, _, _, rfl, m0, .inr ⟨_, he, rfl, rfl⟩⟩ rfl ?_
    exact q_i (StIs.fail (by simp only [applyF, hA0, p22, applyRest, hS1, Bool.true_eq_false, decide_true, decide_false, Int.reduceEq, reduceIte, if_true, if_false, Bool.false_eq_true, not_true, not_false_eq_true, bS]))
   ·have hS1 : (findP l e.part).isSome = true := (by rw [← find_idx]; simpa using p62)
    refine go 5 ?_
    refine cb rfl (fun h65 p65 => ?_) (fun h65 p65 => ?_)
    ·have hO : (otherO l e).isSome = false := (by rw [otherO_eq, ← find_idx]; simpa using p65)
     refine go 3 ?_
     refine o_val rfl (v_build (pl := [(0, 1)]) he he rfl rfl) ?_
     refine go 1 ?_
     refine o_stw _ he rfl rfl rfl rfl rfl rfl ?_
     refine go 5 ?_
     refine fin2 rfl ⟨_, _, _, rfl, m0, .inr ⟨_, he, rfl, rfl⟩⟩ rfl ?_
     exact q_i (StIs.fail (by simp only [applyF, hA0, p22, applyRest, hS1, hO, Bool.true_eq_false, decide_true, decide_false, Int.reduceEq, reduceIte, if_true, if_false, Bool.false_eq_true, not_true, not_false_eq_true, bS]))
    ·have hO : (otherO l e).isSome = true := (by rw [otherO_eq, ← find_idx]; simpa using p65)
     refine go 7 ?_
     obtain ⟨i1, hi1, ei1, hF1⟩ := (idxF_find (fun p : Part => decide (p.name = e.part)) l).resolve_left (fun h => by omega)
     have hP : partP l e = l[i1] := by rw [partP, show findP l e.part = _ from hF1]; rfl
     have hmem : partP l e ∈ l := by rw [hP]; exact List.getElem_mem hi1
     obtain ⟨b70, o70, w70, e70, c70, r70⟩ := RdA.at_ hA (i := i1) hi1
     rw [← hP] at r70
     obtain ⟨s12, rfl, hs12⟩ := r70
     refine o_v rfl (v_idx he rfl rfl e70 (i1) ei1 hi1) ?_
     refine o_v rfl (v_ldIa he rfl c70 rfl) ?_
     refine go 1 ?_
     refine o_alloc he rfl (fun g12 => ?_)
     refine go 1 ?_
     refine o_stw _ he rfl rfl rfl rfl rfl (Enc.one (α := Part) (I := I) (x := partP l e) ⟨s12, rfl, hs12⟩) ?_
     refine go 7 ?_
     obtain ⟨i2, hi2, ei2, hF2⟩ := (idxF_find (fun p : Part => decide (p.name = otherN e)) l).resolve_left (fun h => by omega)
     have hQ : otherP l e = l[i2] := by rw [otherP, otherO_eq, show findP l (otherN e) = _ from hF2]; rfl
     obtain ⟨b75, o75, w75, e75, c75, r75⟩ := RdA.at_ hA (i := i2) hi2
     rw [← hQ] at r75
     obtain ⟨s13, rfl, hs13⟩ := r75
     refine o_v rfl (v_idx he rfl rfl e75 (i2) ei2 hi2) ?_
     refine o_v rfl (v_ldIa he rfl c75 rfl) ?_
     refine go 1 ?_
     refine o_alloc he rfl (fun g13 => ?_)
     refine go 1 ?_
     refine o_stw _ he rfl rfl rfl rfl rfl (Enc.one (α := Part) (I := I) (x := otherP l e) ⟨s13, rfl, hs13⟩) ?_
     refine go 8 ?_
     refine sxb 79 rfl (fun h79 p79 => ?_) (fun h79 p79 => ?_)
     ·refine go 5 ?_
      refine c_true rfl ?_
      refine go 3 ?_
      refine o_val rfl (v_build (pl := [(0, 1)]) he he rfl rfl) ?_
      refine go 1 ?_
      refine bring2 ?_
      refine o_stw _ he rfl rfl rfl rfl rfl rfl ?_
      refine go 5 ?_
      refine fin2 rfl ⟨_, _, _, rfl, m0, .inr ⟨_, he, rfl, rfl⟩⟩ rfl ?_
      exact q_i (StIs.fail (by simp only [applyF, hA0, p22, applyRest, hS1, hO, h62, h65, h79, Bool.true_eq_false, decide_true, decide_false, Int.reduceEq, reduceIte, if_true, if_false, Bool.false_eq_true, not_true, not_false_eq_true, bS]))
     ·refine go 5 ?_
      refine cb rfl (fun h82 p82 => ?_) (fun h82 p82 => ?_)
      ·refine go 3 ?_
       refine o_val rfl (v_build (pl := [(0, 1)]) he he rfl rfl) ?_
       refine go 1 ?_
       refine bring2 ?_
       refine o_stw _ he rfl rfl rfl rfl rfl rfl ?_
       refine go 5 ?_
       refine fin2 rfl ⟨_, _, _, rfl, m0, .inr ⟨_, he, rfl, rfl⟩⟩ rfl ?_
       exact q_i (StIs.fail (by simp only [applyF, hA0, p22, applyRest, hS1, hO, h62, h65, h79, h82, Bool.true_eq_false, decide_true, decide_false, Int.reduceEq, reduceIte, if_true, if_false, Bool.false_eq_true, not_true, not_false_eq_true, bS]))
      ·refine go 8 ?_
       refine o_callE (refFind _ vc c hvc (partP l e).kind) rfl rfl (fun v88 q88 => ?_)
       obtain ⟨vs14, rfl, s14, rfl, hs14⟩ := q88
       refine go 4 ?_
       refine o_alloc he rfl (fun g14 => ?_)
       refine go 1 ?_
       refine o_stw _ he rfl rfl rfl rfl rfl (Enc.one (α := Kind) (I := I) (x := kindP c l e) ⟨s14, rfl, hs14⟩) ?_
       refine go 4 ?_
       refine c_cutx3 (Ix := (fun J p2 s2 => J)) (Lx := (fun J p2 s2 => [(4, .pointer (some ⟨g4, 0, none⟩)), (6, .pointer (some ⟨g6, 0, none⟩)), (12, .pointer (some ⟨g12, 0, none⟩))])) (Hx := (fun J p2 s2 => [.blk g12 170 (p2.cells s2), .blk g6 134 [.slice none 0 0], .blk g4 134 [.slice A l.length c0]])) (p := (fun J p2 s2 => ILe I J ∧ RdS J s2 p2.props ∧ applyF c l e = putR l p2)) ?_ ?_
       ·refine go 13 ?_
        refine cb rfl (fun h93 p93 => ?_) (fun h93 p93 => ?_)
        ·have hsl := fit_slot hE p93
         refine go 6 ?_
         refine sxb 97 rfl (fun h97 p97 => ?_) (fun h97 p97 => ?_)
         ·refine go 12 ?_
          refine c_true rfl ?_
          refine go 3 ?_
          refine o_val rfl (v_build (pl := [(0, 1)]) he he rfl rfl) ?_
          refine go 1 ?_
          refine bring3 ?_
          refine o_stw _ he rfl rfl rfl rfl rfl rfl ?_
          refine go 7 ?_
          refine fin2 rfl ⟨_, _, _, rfl, m0, .inr ⟨_, he, rfl, rfl⟩⟩ rfl ?_
          exact q_i (StIs.fail (by simp only [applyF, hA0, p22, applyRest, hS1, hO, h82, applyOp, applyFit, applyRemove, applyRun, applyNote, applyScrap, kindP, noted, p22, p62, p65, p79, p82, p93, p97, h62, h65, h79, h82, h93, h97, Bool.true_eq_false, decide_true, decide_false, Int.reduceEq, reduceIte, if_true, if_false, Bool.false_eq_true, not_true, not_false_eq_true, bS]))
         ·refine go 8 ?_
          refine o_yes rfl rfl h97 (o_callV (ref08Takes _ vc c hvc (otherP l e).kind e.slot (partP l e).kind) rfl rfl ?_)
          refine go 4 ?_
          refine cb rfl (fun h107 p107 => ?_) (fun h107 p107 => ?_)
          ·refine go 3 ?_
           refine o_val rfl (v_build (pl := [(0, 1)]) he he rfl rfl) ?_
           refine go 1 ?_
           refine bring3 ?_
           refine o_stw _ he rfl rfl rfl rfl rfl rfl ?_
           refine go 7 ?_
           refine fin2 rfl ⟨_, _, _, rfl, m0, .inr ⟨_, he, rfl, rfl⟩⟩ rfl ?_
           exact q_i (StIs.fail (by simp only [applyF, hA0, p22, applyRest, hS1, hO, h82, applyOp, applyFit, applyRemove, applyRun, applyNote, applyScrap, kindP, noted, p22, p62, p65, p79, p82, p93, p97, p107, h62, h65, h79, h82, h93, h97, h107, Bool.true_eq_false, decide_true, decide_false, Int.reduceEq, reduceIte, if_true, if_false, Bool.false_eq_true, not_true, not_false_eq_true, bS]))
          ·refine go 10 ?_
           refine cb rfl (fun h111 p111 => ?_) (fun h111 p111 => ?_)
           ·refine go 3 ?_
            refine o_val rfl (v_build (pl := [(0, 1)]) he he rfl rfl) ?_
            refine go 1 ?_
            refine bring3 ?_
            refine o_stw _ he rfl rfl rfl rfl rfl rfl ?_
            refine go 7 ?_
            refine fin2 rfl ⟨_, _, _, rfl, m0, .inr ⟨_, he, rfl, rfl⟩⟩ rfl ?_
            exact q_i (StIs.fail (by simp only [applyF, hA0, p22, applyRest, hS1, hO, h82, applyOp, applyFit, applyRemove, applyRun, applyNote, applyScrap, kindP, noted, p22, p62, p65, p79, p82, p93, p97, p107, p111, h62, h65, h79, h82, h93, h97, h107, h111, Bool.true_eq_false, decide_true, decide_false, Int.reduceEq, reduceIte, if_true, if_false, Bool.false_eq_true, not_true, not_false_eq_true, bS]))
           ·refine go 11 ?_
            refine o_callV (ref10heldS _ _ l hv0 e hsl) rfl rfl ?_
            refine go 2 ?_
            refine cb rfl (fun h118 p118 => ?_) (fun h118 p118 => ?_)
            ·refine go 3 ?_
             refine o_val rfl (v_build (pl := [(0, 1)]) he he rfl rfl) ?_
             refine go 1 ?_
             refine bring3 ?_
             refine o_stw _ he rfl rfl rfl rfl rfl rfl ?_
             refine go 7 ?_
             refine fin2 rfl ⟨_, _, _, rfl, m0, .inr ⟨_, he, rfl, rfl⟩⟩ rfl ?_
             exact q_i (StIs.fail (by simp only [applyF, hA0, p22, applyRest, hS1, hO, h82, applyOp, applyFit, applyRemove, applyRun, applyNote, applyScrap, kindP, noted, p22, p62, p65, p79, p82, p93, p97, p107, p111, p118, h62, h65, h79, h82, h93, h97, h107, h111, h118, Bool.true_eq_false, decide_true, decide_false, Int.reduceEq, reduceIte, if_true, if_false, Bool.false_eq_true, not_true, not_false_eq_true, bS]))
            ·refine go 8 ?_
             refine bring2 ?_
             refine o_st1 he rfl rfl rfl rfl ?_
             refine go 7 ?_
             refine o_st1 he rfl rfl rfl rfl ?_
             refine go 3 ?_
             refine bring1 ?_
             refine sx_drop ?_
             refine bring1 ?_
             refine sx_drop ?_
             refine bring2 ?_
             refine sx_drop ?_
             refine bring3 ?_
             refine sx_drop ?_
             exact q_cutx3 (_) ({ partP l e with into := e.into, slot := e.slot }) (_) ⟨ILe.refl _, hs12, by simp only [applyF, hA0, p22, applyRest, hS1, hO, h82, applyOp, applyFit, applyRemove, applyRun, applyNote, applyScrap, kindP, noted, overhauled, p22, p62, p65, p79, p82, p93, p97, p107, p111, p118, h62, h65, h79, h82, h93, h97, h107, h111, h118, Bool.true_eq_false, decide_true, decide_false, Int.reduceEq, reduceIte, if_true, if_false, Bool.false_eq_true, not_true, not_false_eq_true, bS]⟩ sb rfl rfl
        ·refine go 6 ?_
         refine cb rfl (fun h126 p126 => ?_) (fun h126 p126 => ?_)
         ·refine go 8 ?_
          refine cb rfl (fun h130 p130 => ?_) (fun h130 p130 => ?_)
          ·refine go 3 ?_
           refine o_val rfl (v_build (pl := [(0, 1)]) he he rfl rfl) ?_
           refine go 1 ?_
           refine bring3 ?_
           refine o_stw _ he rfl rfl rfl rfl rfl rfl ?_
           refine go 7 ?_
           refine fin2 rfl ⟨_, _, _, rfl, m0, .inr ⟨_, he, rfl, rfl⟩⟩ rfl ?_
           exact q_i (StIs.fail (by simp only [applyF, hA0, p22, applyRest, hS1, hO, h82, applyOp, applyFit, applyRemove, applyRun, applyNote, applyScrap, kindP, noted, p22, p62, p65, p79, p82, p93, p126, p130, h62, h65, h79, h82, h93, h126, h130, Bool.true_eq_false, decide_true, decide_false, Int.reduceEq, reduceIte, if_true, if_false, Bool.false_eq_true, not_true, not_false_eq_true, bS]))
          ·refine go 6 ?_
           refine bring2 ?_
           refine o_st1 he rfl rfl rfl rfl ?_
           refine go 5 ?_
           refine o_st1 he rfl rfl rfl rfl ?_
           refine go 3 ?_
           refine bring1 ?_
           refine sx_drop ?_
           refine bring1 ?_
           refine sx_drop ?_
           refine bring2 ?_
           refine sx_drop ?_
           refine bring3 ?_
           refine sx_drop ?_
           exact q_cutx3 (_) ({ partP l e with into := nil8, slot := nil8 }) (_) ⟨ILe.refl _, hs12, by simp only [applyF, hA0, p22, applyRest, hS1, hO, h82, applyOp, applyFit, applyRemove, applyRun, applyNote, applyScrap, kindP, noted, overhauled, p22, p62, p65, p79, p82, p93, p126, p130, h62, h65, h79, h82, h93, h126, h130, Bool.true_eq_false, decide_true, decide_false, Int.reduceEq, reduceIte, if_true, if_false, Bool.false_eq_true, not_true, not_false_eq_true, bS]⟩ sb rfl rfl
         ·refine go 6 ?_
          refine cb rfl (fun h134 p134 => ?_) (fun h134 p134 => ?_)
          ·refine go 7 ?_
           refine cb rfl (fun h138 p138 => ?_) (fun h138 p138 => ?_)
           ·refine go 3 ?_
            refine o_val rfl (v_build (pl := [(0, 1)]) he he rfl rfl) ?_
            refine go 1 ?_
            refine bring3 ?_
            refine o_stw _ he rfl rfl rfl rfl rfl rfl ?_
            refine go 6 ?_
            refine fin2 rfl ⟨_, _, _, rfl, m0, .inr ⟨_, he, rfl, rfl⟩⟩ rfl ?_
            exact q_i (StIs.fail (by simp only [applyF, hA0, p22, applyRest, hS1, hO, h82, applyOp, applyFit, applyRemove, applyRun, applyNote, applyScrap, kindP, noted, p22, p62, p65, p79, p82, p93, p126, p134, p138, h62, h65, h79, h82, h93, h126, h134, h138, Bool.true_eq_false, decide_true, decide_false, Int.reduceEq, reduceIte, if_true, if_false, Bool.false_eq_true, not_true, not_false_eq_true, bS]))
           ·refine go 3 ?_
            refine sx_drop ?_
            refine sx_drop ?_
            refine bring2 ?_
            refine sx_drop ?_
            refine bring3 ?_
            refine sx_drop ?_
            exact q_cutx3 (_) (partP l e) (_) ⟨ILe.refl _, hs12, by simp only [applyF, hA0, p22, applyRest, hS1, hO, h82, applyOp, applyFit, applyRemove, applyRun, applyNote, applyScrap, kindP, noted, overhauled, p22, p62, p65, p79, p82, p93, p126, p134, p138, h62, h65, h79, h82, h93, h126, h134, h138, Bool.true_eq_false, decide_true, decide_false, Int.reduceEq, reduceIte, if_true, if_false, Bool.false_eq_true, not_true, not_false_eq_true, bS]⟩ sb rfl rfl
          ·refine go 6 ?_
           refine cb rfl (fun h140 p140 => ?_) (fun h140 p140 => ?_)
           ·refine go 6 ?_
            refine o_v rfl (v_imax rfl rfl) ?_
            refine go 2 ?_
            refine bring2 ?_
            refine o_st1 he rfl rfl rfl rfl ?_
            refine go 4 ?_
            refine o_val rfl (v_build (pl := [(0, 2), (2, 2), (4, 2)]) he he rfl rfl) ?_
            refine go 2 ?_
            refine o_st _ _ he rfl rfl rfl rfl rfl rfl rfl ?_
            refine go 3 ?_
            refine bring1 ?_
            refine sx_drop ?_
            refine bring1 ?_
            refine sx_drop ?_
            refine bring2 ?_
            refine sx_drop ?_
            refine bring3 ?_
            refine sx_drop ?_
            exact q_cutx3 (_) (overhauled e (partP l e)) (_) ⟨ILe.refl _, hs12, by simp only [applyF, hA0, p22, applyRest, hS1, hO, h82, applyOp, applyFit, applyRemove, applyRun, applyNote, applyScrap, kindP, noted, overhauled, p22, p62, p65, p79, p82, p93, p126, p134, p140, h62, h65, h79, h82, h93, h126, h134, h140, Bool.true_eq_false, decide_true, decide_false, Int.reduceEq, reduceIte, if_true, if_false, Bool.false_eq_true, not_true, not_false_eq_true, bS]⟩ sb rfl rfl
           ·refine go 6 ?_
            refine cb rfl (fun h150 p150 => ?_) (fun h150 p150 => ?_)
            ·refine go 9 ?_
             refine o_call (ref10Note _ s12 (partP l e).props hs12 (by have := (validS_part hV hmem).2; omega) e.key e.value) rfl rfl (fun v158 I158 j158 q158 => ?_)
             have R158 : RdS I158 v158 (putL Prp.key (partP l e).props ⟨e.key, e.value⟩) := with_put (nm := Prp.key) (x := ⟨e.key, e.value⟩) (inc_of (validS_part hV hmem).1) ▸ q158
             obtain ⟨B158, d158, rfl, h158⟩ := R158
             refine go 2 ?_
             refine bring2 ?_
             refine o_st1 he rfl rfl rfl rfl ?_
             refine go 10 ?_
             refine cb rfl (fun h163 p163 => ?_) (fun h163 p163 => ?_)
             ·refine go 3 ?_
              refine o_val rfl (v_build (pl := [(0, 1)]) he he rfl rfl) ?_
              refine go 1 ?_
              refine bring3 ?_
              refine o_stw _ he rfl rfl rfl rfl rfl rfl ?_
              refine go 6 ?_
              refine fin2 rfl ⟨_, _, _, rfl, m0, .inr ⟨_, he, rfl, rfl⟩⟩ rfl ?_
              exact q_i (StIs.fail (by simp only [applyF, hA0, p22, applyRest, hS1, hO, h82, applyOp, applyFit, applyRemove, applyRun, applyNote, applyScrap, kindP, noted, p22, p62, p65, p79, p82, p93, p126, p134, p140, p150, p163, h62, h65, h79, h82, h93, h126, h134, h140, h150, h163, Bool.true_eq_false, decide_true, decide_false, Int.reduceEq, reduceIte, if_true, if_false, Bool.false_eq_true, not_true, not_false_eq_true, bS]))
             ·refine go 3 ?_
              refine bring1 ?_
              refine sx_drop ?_
              refine bring1 ?_
              refine sx_drop ?_
              refine bring2 ?_
              refine sx_drop ?_
              refine bring3 ?_
              refine sx_drop ?_
              exact q_cutx3 (_) (noted e (partP l e)) (_) ⟨j158, ⟨B158, d158, rfl, h158⟩, by simp only [applyF, hA0, p22, applyRest, hS1, hO, h82, applyOp, applyFit, applyRemove, applyRun, applyNote, applyScrap, kindP, noted, overhauled, p22, p62, p65, p79, p82, p93, p126, p134, p140, p150, p163, h62, h65, h79, h82, h93, h126, h134, h140, h150, h163, Bool.true_eq_false, decide_true, decide_false, Int.reduceEq, reduceIte, if_true, if_false, Bool.false_eq_true, not_true, not_false_eq_true, bS]⟩ sb rfl rfl
            ·refine go 6 ?_
             refine cb rfl (fun h165 p165 => ?_) (fun h165 p165 => ?_)
             ·refine go 7 ?_
              refine sxb 170 rfl (fun h170 p170 => ?_) (fun h170 p170 => ?_)
              ·refine go 7 ?_
               refine c_true rfl ?_
               refine go 3 ?_
               refine o_val rfl (v_build (pl := [(0, 1)]) he he rfl rfl) ?_
               refine go 1 ?_
               refine bring3 ?_
               refine o_stw _ he rfl rfl rfl rfl rfl rfl ?_
               refine go 7 ?_
               refine fin2 rfl ⟨_, _, _, rfl, m0, .inr ⟨_, he, rfl, rfl⟩⟩ rfl ?_
               exact q_i (StIs.fail (by simp only [applyF, hA0, p22, applyRest, hS1, hO, h82, applyOp, applyFit, applyRemove, applyRun, applyNote, applyScrap, kindP, noted, p22, p62, p65, p79, p82, p93, p126, p134, p140, p150, p165, p170, h62, h65, h79, h82, h93, h126, h134, h140, h150, h165, h170, Bool.true_eq_false, decide_true, decide_false, Int.reduceEq, reduceIte, if_true, if_false, Bool.false_eq_true, not_true, not_false_eq_true, bS]))
              ·refine go 4 ?_
               refine o_yes rfl rfl h170 (o_callV (ref10heldA _ _ l hv0 (partP l e).name) rfl rfl ?_)
               refine go 3 ?_
               refine cb rfl (fun h175 p175 => ?_) (fun h175 p175 => ?_)
               ·refine go 3 ?_
                refine o_val rfl (v_build (pl := [(0, 1)]) he he rfl rfl) ?_
                refine go 1 ?_
                refine bring3 ?_
                refine o_stw _ he rfl rfl rfl rfl rfl rfl ?_
                refine go 7 ?_
                refine fin2 rfl ⟨_, _, _, rfl, m0, .inr ⟨_, he, rfl, rfl⟩⟩ rfl ?_
                exact q_i (StIs.fail (by simp only [applyF, hA0, p22, applyRest, hS1, hO, h82, applyOp, applyFit, applyRemove, applyRun, applyNote, applyScrap, kindP, noted, p22, p62, p65, p79, p82, p93, p126, p134, p140, p150, p165, p170, p175, h62, h65, h79, h82, h93, h126, h134, h140, h150, h165, h170, h175, Bool.true_eq_false, decide_true, decide_false, Int.reduceEq, reduceIte, if_true, if_false, Bool.false_eq_true, not_true, not_false_eq_true, bS]))
               ·refine go 5 ?_
                refine bring2 ?_
                refine o_st1 he rfl rfl rfl rfl ?_
                refine go 3 ?_
                refine bring1 ?_
                refine sx_drop ?_
                refine bring1 ?_
                refine sx_drop ?_
                refine bring2 ?_
                refine sx_drop ?_
                refine bring3 ?_
                refine sx_drop ?_
                exact q_cutx3 (_) ({ partP l e with scrapped := true }) (_) ⟨ILe.refl _, hs12, by simp only [applyF, hA0, p22, applyRest, hS1, hO, h82, applyOp, applyFit, applyRemove, applyRun, applyNote, applyScrap, kindP, noted, overhauled, p22, p62, p65, p79, p82, p93, p126, p134, p140, p150, p165, p170, p175, h62, h65, h79, h82, h93, h126, h134, h140, h150, h165, h170, h175, Bool.true_eq_false, decide_true, decide_false, Int.reduceEq, reduceIte, if_true, if_false, Bool.false_eq_true, not_true, not_false_eq_true, bS]⟩ sb rfl rfl
             ·refine go 3 ?_
              refine sx_drop ?_
              refine sx_drop ?_
              refine bring2 ?_
              refine sx_drop ?_
              refine bring3 ?_
              refine sx_drop ?_
              exact q_cutx3 (_) (partP l e) (_) ⟨ILe.refl _, hs12, by simp only [applyF, hA0, p22, applyRest, hS1, hO, h82, applyOp, applyFit, applyRemove, applyRun, applyNote, applyScrap, kindP, noted, overhauled, p22, p62, p65, p79, p82, p93, p126, p134, p140, p150, p165, h62, h65, h79, h82, h93, h126, h134, h140, h150, h165, Bool.true_eq_false, decide_true, decide_false, Int.reduceEq, reduceIte, if_true, if_false, Bool.false_eq_true, not_true, not_false_eq_true, bS]⟩ sb rfl rfl
       ·rintro J p2 s2 ⟨hJ, ⟨B2, d2, rfl, hB2⟩, hA2⟩
        refine go 5 ?_
        refine o_call (ref10with _ _ l (hv0.le hJ) hl6 p2 B2 d2 ⟨_, rfl, B2, d2, rfl, hB2⟩) rfl rfl (fun v180 I180 j180 q180 => ?_)
        obtain ⟨w180, rfl, hw180⟩ := q180
        refine go 1 ?_
        refine bring1 ?_
        refine o_stw _ he rfl rfl rfl rfl rfl (by simp [hw180.one]) ?_
        refine go 4 ?_
        refine fin2 rfl ⟨_, _, _, rfl, m0, .inr ⟨_, he, rfl, rfl⟩⟩ rfl ?_
        rw [with_put (inc_of hsrt)] at hw180
        exact q_i (StIs.put hA2 hw180)

theorem ref10Apply (I : IMap) (vc : Value) (c : List Kind) (hvc : RdS I vc c) (hsc : SmC c) (v : Value) (l : List Part) (hv : RdS I v l) (hsf : SmF l) (e : Evt) (hse : SmE e) :
    FnI Tryz.prog 125 #[.agg #[vc], .agg #[v], .agg e.cells.toArray] I (fun u J => StIs J (applyF c l e) u) := by
 refine enter Tryz.func125 Tryz.call125 rfl Tryz.ntmps125 rfl (fun w0 => ?_)
 refine go 3 ?_
 refine o_box _ rfl rfl rfl (fun g3 => ?_)
 refine go 1 ?_
 refine o_box _ rfl rfl rfl (fun g4 => ?_)
 refine go 1 ?_
 refine o_box _ rfl rfl rfl (fun g5 => ?_)
 refine go 1 ?_
 refine o_alloc he rfl (fun g6 => ?_)
 refine go 5 ?_
 refine c_cut (I' := I) (L' := [(3, .pointer (some ⟨g3, 0, none⟩)), (4, .pointer (some ⟨g4, 0, none⟩)), (5, .pointer (some ⟨g5, 0, none⟩)), (6, .pointer (some ⟨g6, 0, none⟩)), (16, .bool (!validS c l || !validE e))]) (H' := [.blk g6 134 [.slice none 0 0], .blk g5 56 e.cells, .blk g4 134 [v], .blk g3 24 [vc]]) ?_ ?_
 ·refine go 4 ?_
  refine o_callV (ref10Valid _ vc c hvc hsc _ l hv hsf) rfl rfl ?_
  refine go 2 ?_
  refine sxb 12 rfl (fun h12 p12 => ?_) (fun h12 p12 => ?_)
  ·refine go 6 ?_
   exact q_cut ⟨rfl, rfl, rfl, rfl, (congrArg (fun b => some (Value.bool b)) (by simp only [h12, bS])), trivial⟩ rfl rfl
  ·refine go 2 ?_
   refine o_yes rfl rfl h12 (o_callV (ref09Valid _ e hse) rfl rfl ?_)
   refine go 4 ?_
   exact q_cut ⟨rfl, rfl, rfl, rfl, (congrArg (fun b => some (Value.bool b)) (by simp only [h12, bS])), trivial⟩ rfl rfl
 ·refine cb rfl (fun h16 p16 => ?_) (fun h16 p16 => ?_)
  ·refine go 3 ?_
   refine o_val rfl (v_build (pl := [(0, 1)]) he he rfl rfl) ?_
   refine go 1 ?_
   refine o_stw _ he rfl rfl rfl rfl rfl rfl ?_
   refine go 5 ?_
   refine fin2 rfl ⟨_, _, _, rfl, m0, .inr ⟨_, he, rfl, rfl⟩⟩ rfl ?_
   exact q_i (StIs.fail (by simp only [applyF, h16, if_true]))
  ·have hVE : validS c l = true ∧ validE e = true := by revert h16; simp
   refine go 8 ?_
   refine o_call (ref10Step _ vc c hvc hsc _ l hv hsf e hse hVE.1 hVE.2) rfl rfl (fun v21 I21 j21 q21 => ?_)
   obtain ⟨w21, rfl, hw21⟩ := q21
   refine go 3 ?_
   refine o_stw _ he rfl rfl rfl rfl rfl (by simp [hw21.one]) ?_
   refine go 4 ?_
   refine fin2 rfl ⟨_, _, _, rfl, m0, .inr ⟨_, he, rfl, rfl⟩⟩ rfl ?_
   exact q_i ⟨w21, rfl, hw21⟩

theorem ref11Sort (I : IMap) (v : Value) (l : List Evt) (hv : RdS I v l) (hl : l.length ≤ 1000000) :
    FnI Tryz.prog 124 #[v] I (fun u J => RdS J u (sortF l)) := by
 obtain ⟨A, c0, rfl, hA, hc, hm⟩ := hv
 refine enter Tryz.func124 Tryz.call124 rfl Tryz.ntmps124 rfl (fun w0 => ?_)
 refine go 17 ?_
 refine c_loop3 ((0 : Nat)) (_) (I) (fun i v3 J => J)
  (fun i v3 J => [(0, .slice A l.length c0), (3, v3), (4, .int .i64 ((i : Nat) : Int))])
  (fun i v3 J => [])
  (fun i v3 J => i ≤ l.length ∧ ILe I J ∧ RdS J v3 (sortF (l.take i)))
  (fun i v3 J => l.length - i) ⟨Nat.zero_le _, ILe.refl _, RdS.nil'⟩ rfl sb rfl ?_
 intro i v3 J ⟨hi, hJ, hv3⟩
 have hA := hA.le hJ
 obtain ⟨A3, c3, rfl, hA3, hc3, hm3⟩ := id hv3
 have hsl : (sortF (l.take i)).length = i := by rw [sortF_len, List.length_take]; omega
 refine go 9 ?_
 refine cb rfl (fun h10 p10 => ?_) (fun h10 p10 => ?_)
 ·have hlt : i < l.length := by omega
  refine go 12 ?_
  refine c_cutx (α := Nat) (Ix := (fun k => J)) (Lx := (fun k => [(0, .slice A l.length c0), (3, .slice A3 (sortF (l.take i)).length c3), (4, .int .i64 ((i : Nat) : Int)), (5, .int .i64 ((k : Nat) : Int))])) (Hx := (fun k => [])) (p := (fun k => k ≤ i ∧ (∀ j y, k ≤ j → (sortF (l.take i))[j]? = some y → Day.day y > Day.day l[i]) ∧ (k = 0 ∨ ∃ y, (sortF (l.take i))[k - 1]? = some y ∧ Day.day y ≤ Day.day l[i]))) ?_ ?_
  ·refine go 1 ?_
   refine c_loop (α := Nat) i (fun k => J)
    (fun k => [(0, .slice A l.length c0), (3, .slice A3 (sortF (l.take i)).length c3), (4, .int .i64 ((i : Nat) : Int)), (5, .int .i64 ((k : Nat) : Int))])
    (fun k => [])
    (fun k => k ≤ i ∧ ∀ j y, k ≤ j → (sortF (l.take i))[j]? = some y → Day.day y > Day.day l[i])
    (fun k => k) ⟨Nat.le_refl _, fun j y h1 h2 => by have := (List.getElem?_eq_some_iff.1 h2).1; omega⟩ rfl ⟨rfl, rfl, rfl, congrArg (fun z : Nat => some (Value.int .i64 (z : Int))) hsl, trivial⟩ rfl ?_
   intro k ⟨hki, hk1⟩
   refine go 2 ?_
   refine d_startH T.mixed ?_
   refine d_tv 0 rfl rfl (by kernel_rfl) rfl .slnil rfl (v_move rfl) ?_
   refine d_tv 1 rfl rfl (by kernel_rfl) rfl .slnil rfl (v_gtr rfl rfl) ?_
   refine d_tv 2 rfl rfl (by kernel_rfl) rfl .slnil rfl (v_move rfl) ?_
   refine sxb 17 rfl (fun h17 p17 => ?_) (fun h17 p17 => ?_)
   ·refine d_t 3 rfl rfl (by kernel_rfl) rfl (fun _ m => m.keeps .slnil) (y_yes rfl rfl h17 (v_move rfl)) ?_
    refine d_t 4 rfl rfl (by kernel_rfl) rfl (fun _ m => m.keeps .slnil) (y_yes rfl rfl h17 (v_move rfl)) ?_
    refine d_t 5 rfl rfl (by kernel_rfl) rfl (fun _ m => m.keeps .slnil) (y_yes rfl rfl h17 (OV.cast (u := .int .i64 ((k - 1 : Nat) : Int)) (v_sub rfl rfl ⟨by omega, by omega⟩) (congrArg (Value.int .i64) (by omega)))) ?_
    obtain ⟨b21, o21, w21, e21, c21, r21⟩ := RdA.at_ hA3 (i := k - 1) (by omega)
    obtain rfl := r21
    refine d_t 6 rfl rfl (by kernel_rfl) rfl (fun _ m => m.keeps .slnil) (y_yes rfl rfl h17 (v_idx he rfl rfl e21 (k - 1) (by omega) (by omega))) ?_
    refine d_t 7 rfl rfl (by kernel_rfl) rfl (fun _ m => m.keeps .slnil) (y_yes rfl rfl h17 (v_fieldAddr he rfl)) ?_
    refine d_t 8 rfl rfl (by kernel_rfl) rfl (fun _ m => m.keeps .slnil) (y_yes rfl rfl h17 (v_ldI he rfl (c21 1 _ rfl))) ?_
    refine d_t 9 rfl rfl (by kernel_rfl) rfl (fun _ m => m.keeps .slnil) (y_yes rfl rfl h17 (v_move rfl)) ?_
    refine d_t 10 rfl rfl (by kernel_rfl) rfl (fun _ m => m.keeps .slnil) (y_yes rfl rfl h17 (v_move rfl)) ?_
    obtain ⟨b26, o26, w26, e26, c26, r26⟩ := RdA.at_ hA (i := i) hlt
    obtain rfl := r26
    refine d_t 11 rfl rfl (by kernel_rfl) rfl (fun _ m => m.keeps .slnil) (y_yes rfl rfl h17 (v_idx he rfl rfl e26 (i) (by omega) hlt)) ?_
    refine d_t 12 rfl rfl (by kernel_rfl) rfl (fun _ m => m.keeps .slnil) (y_yes rfl rfl h17 (v_fieldAddr he rfl)) ?_
    refine d_t 13 rfl rfl (by kernel_rfl) rfl (fun _ m => m.keeps .slnil) (y_yes rfl rfl h17 (v_ldI he rfl (c26 1 _ rfl))) ?_
    refine d_t 14 rfl rfl (by kernel_rfl) rfl (fun _ m => m.keeps .slnil) (y_yes rfl rfl h17 (v_gtr rfl rfl)) ?_
    refine d_tv 15 rfl rfl (by kernel_rfl) rfl .slnil rfl (v_and_t h17 rfl rfl) ?_
    refine d_done (by kernel_rfl) ?_
    refine go 1 ?_
    refine cb rfl (fun h30 p30 => ?_) (fun h30 p30 => ?_)
    ·refine go 10 ?_
     exact q_next (k - 1) ⟨by omega, fun j y h1 h2 => by
       rcases Nat.lt_or_ge j k with h | h
       · obtain rfl : j = k - 1 := by omega
         rw [List.getElem?_eq_getElem (by omega)] at h2
         cases h2
         exact p30
       · exact hk1 j y h h2⟩ (by omega) rfl ⟨rfl, rfl, rfl, congrArg (fun z : Int => some (Value.int .i64 z)) (by omega), trivial⟩ rfl
    ·refine go 5 ?_
     exact q_cutx k ⟨hki, hk1, .inr ⟨_, List.getElem?_eq_getElem (by omega), Int.not_lt.1 p30⟩⟩ sb rfl rfl
   ·refine d_t 3 rfl rfl (by kernel_rfl) rfl (fun _ m => m.keeps .slnil) (y_no rfl rfl h17) ?_
    refine d_t 4 rfl rfl (by kernel_rfl) rfl (fun _ m => m.keeps .slnil) (y_no rfl rfl h17) ?_
    refine d_t 5 rfl rfl (by kernel_rfl) rfl (fun _ m => m.keeps .slnil) (y_no rfl rfl h17) ?_
    refine d_t 6 rfl rfl (by kernel_rfl) rfl (fun _ m => m.keeps .slnil) (y_no rfl rfl h17) ?_
    refine d_t 7 rfl rfl (by kernel_rfl) rfl (fun _ m => m.keeps .slnil) (y_no rfl rfl h17) ?_
    refine d_t 8 rfl rfl (by kernel_rfl) rfl (fun _ m => m.keeps .slnil) (y_no rfl rfl h17) ?_
    refine d_t 9 rfl rfl (by kernel_rfl) rfl (fun _ m => m.keeps .slnil) (y_no rfl rfl h17) ?_
    refine d_t 10 rfl rfl (by kernel_rfl) rfl (fun _ m => m.keeps .slnil) (y_no rfl rfl h17) ?_
    refine d_t 11 rfl rfl (by kernel_rfl) rfl (fun _ m => m.keeps .slnil) (y_no rfl rfl h17) ?_
    refine d_t 12 rfl rfl (by kernel_rfl) rfl (fun _ m => m.keeps .slnil) (y_no rfl rfl h17) ?_
    refine d_t 13 rfl rfl (by kernel_rfl) rfl (fun _ m => m.keeps .slnil) (y_no rfl rfl h17) ?_
    refine d_t 14 rfl rfl (by kernel_rfl) rfl (fun _ m => m.keeps .slnil) (y_no rfl rfl h17) ?_
    refine d_tv 15 rfl rfl (by kernel_rfl) rfl .slnil rfl (v_and_f h17 rfl) ?_
    refine d_done (by kernel_rfl) ?_
    refine go 1 ?_
    refine c_false rfl ?_
    refine go 5 ?_
    exact q_cutx k ⟨hki, hk1, .inl (by omega)⟩ sb rfl rfl
  ·intro k ⟨hki, hk1, hk2⟩
   refine go 1 ?_
   refine sx_knowI (fun hE8 hf8 => ?_)
   refine d_startH T.mixed ?_
   refine d_tv 0 rfl rfl (by kernel_rfl) rfl .slnil rfl (v_move rfl) ?_
   refine d_tv 1 rfl rfl (by kernel_rfl) rfl .slnil rfl (v_move rfl) ?_
   obtain ⟨b35, o35, w35, e35, c35, r35⟩ := RdA.at_ hA (i := i) hlt
   obtain rfl := r35
   refine d_tv 2 rfl rfl (by kernel_rfl) rfl .slnil rfl (v_idx he rfl rfl e35 (i) (by omega) hlt) ?_
   refine d_tv 3 rfl rfl (by kernel_rfl) rfl .slnil rfl (v_ldIa he rfl c35 rfl) ?_
   refine d_tv 5 rfl rfl (by kernel_rfl) rfl .slnil rfl (v_move rfl) ?_
   refine d_tv 6 rfl rfl (by kernel_rfl) rfl .slnil rfl (v_move rfl) ?_
   refine d_tv 7 rfl rfl (by kernel_rfl) rfl .slnil rfl (v_slice_lo he rfl rfl k rfl (by omega)) ?_
   refine d_one 4 (by kernel_rfl) rfl ?_
   refine o_buildSlice he he rfl rfl rfl rfl rfl rfl rfl (fun v37 => ?_)
   refine d_on (fun _ m => m.keeps (.cons _ .slnil)) ?_
   refine d_one 8 (by kernel_rfl) rfl ?_
   refine o_appendR ((hv3.drop k (by omega))) rfl he he rfl rfl rfl rfl (by simp; omega) (by simp; omega) rfl (fun v41 x41 f41 => ?_)
   refine sx_pubrow (l := l[i] :: (sortF (l.take i)).drop k) rfl (by simp; omega) (.cons rfl f41) (fun I41 j41 R41 => ?_)
   have hA3 := hA3.le j41
   have hv3 := hv3.le j41
   refine d_on (fun _ m => m.keepsI .slnil (j41) hE8 hf8) ?_
   refine d_t 9 rfl rfl (by kernel_rfl) rfl (fun _ m => m.keepsI .slnil (j41) hE8 hf8) (y_v rfl (v_assign rfl)) ?_
   refine d_done (by kernel_rfl) ?_
   refine go 3 ?_
   refine o_buildSlice he he rfl rfl rfl rfl rfl rfl rfl (fun v42 => ?_)
   refine go 2 ?_
   refine o_v rfl (v_slice_hi he rfl rfl k rfl (by omega)) ?_
   refine go 1 ?_
   refine o_appendR ((hv3.take k (by omega))) rfl he he rfl rfl rfl rfl (by simp; omega) (by simp; omega) rfl (fun v46 x46 f46 => ?_)
   refine go 2 ?_
   refine o_appendR (R41) rfl he he rfl rfl rfl rfl (by simp; omega) (by simp; omega) rfl (fun v48 x48 f48 => ?_)
   refine sx_pubrow (l := (sortF (l.take i)).take k ++ l[i] :: (sortF (l.take i)).drop k) rfl (by simp <;> omega) (((Flat.nil.append f46).append f48)) (fun I48 j48 R48 => ?_)
   refine go 10 ?_
   exact q_next3 (i + 1) (_) (_) ⟨by omega, hJ.trans (j41.trans j48), by rw [← take_succ_of hlt, ← ins_right (k := k) (by omega) hk1 (by rcases hk2 with h | h; exact .inl h; exact .inr h)]; simpa using R48⟩ (by omega) rfl sb rfl
 ·refine go 12 ?_
  refine fin1 rfl rfl ?_
  have e : i = l.length := (by omega)
  subst e
  exact q_i (by have h := hv3; rwa [List.take_length] at h ⊢)

theorem ref11Run (I : IMap) (vc : Value) (c : List Kind) (hvc : RdS I vc c) (hsc : SmC c) (v : Value) (l : List Evt) (hv : RdS I v l) (hl : l.length ≤ 1000000) (hse : ∀ e ∈ l, SmE e) :
    FnI Tryz.prog 107 #[.agg #[vc], v] I (fun u J => ∃ w, u = .tuple #[.agg #[w], .int .i64 (runF c l).2.1, .int .i64 (runF c l).2.2] ∧ RdS J w (runF c l).1) := by
 refine enter Tryz.func107 Tryz.call107 rfl Tryz.ntmps107 rfl (fun w0 => ?_)
 refine go 3 ?_
 refine o_box _ rfl rfl rfl (fun g2 => ?_)
 refine go 1 ?_
 refine o_alloc he rfl (fun g4 => ?_)
 refine go 9 ?_
 refine o_callV (refValid _ vc c hvc hsc) rfl rfl ?_
 refine go 3 ?_
 refine cb rfl (fun h14 p14 => ?_) (fun h14 p14 => ?_)
 ·refine go 3 ?_
  refine o_val rfl (v_build (pl := [(0, 1)]) he he rfl rfl) ?_
  refine go 1 ?_
  refine o_stw _ he rfl rfl rfl rfl rfl rfl ?_
  refine go 6 ?_
  refine fin3 rfl ⟨_, _, _, rfl, m0, .inr ⟨_, he, rfl, rfl⟩⟩ rfl rfl ?_
  have hr : runF c l = ([], -1, 1) := by unfold runF; rw [if_pos (by rw [valid_same]; simpa using h14)]
  exact q_i ⟨_, by rw [hr], by rw [hr]; exact RdS.nil'⟩
 ·have hC : validC c = true := by rw [valid_same]; simpa using h14
  refine go 6 ?_
  refine o_call (ref11Sort _ v l hv hl) rfl rfl (fun v17 I17 j17 q17 => ?_)
  have hvc := hvc.le j17
  have q17s := q17
  obtain ⟨A17, c17, rfl, hA17, _, _⟩ := q17
  have hsl := sortF_len l
  refine go 6 ?_
  refine o_alloc he rfl (fun g8 => ?_)
  refine go 9 ?_
  refine c_loop4 (0) ([]) (.slice none 0 0) (I17) (fun i st v8 J => J)
   (fun i st v8 J => [(2, .pointer (some ⟨g2, 0, none⟩)), (4, .pointer (some ⟨g4, 0, none⟩)), (7, .slice A17 (sortF l).length c17), (8, .pointer (some ⟨g8, 0, none⟩)), (9, .int .i64 ((i : Nat) : Int))])
   (fun i st v8 J => [.blk g8 134 [v8], .blk g4 134 [.slice none 0 0], .blk g2 24 [vc]])
   (fun i st v8 J => i ≤ (sortF l).length ∧ ILe I17 J ∧ RdS J v8 st ∧ SmF st ∧ runGo c [] 0 (sortF l) = runGo c st (i : Nat) ((sortF l).drop i))
   (fun i st v8 J => (sortF l).length - i) ⟨Nat.zero_le _, ILe.refl _, RdS.nil', SmF.nil, rfl⟩ rfl sb rfl ?_
  intro i st v8 J ⟨hi, hJ, hv8, hsf, hgo⟩
  have hvc := hvc.le hJ
  have hA17 := hA17.le hJ
  refine go 9 ?_
  refine cb rfl (fun h21 p21 => ?_) (fun h21 p21 => ?_)
  ·have hlt : i < (sortF l).length := by omega
   refine go 5 ?_
   refine sx_knowI (fun hE8 hf8 => ?_)
   refine d_startH T.mixed ?_
   refine d_tv 0 rfl rfl (by kernel_rfl) rfl (.refl _) rfl (v_ldw m2 he rfl rfl) ?_
   refine d_tv 1 rfl rfl (by kernel_rfl) rfl (.refl _) rfl (v_ldw m0 he rfl rfl) ?_
   refine d_tv 2 rfl rfl (by kernel_rfl) rfl (.refl _) rfl (v_move rfl) ?_
   refine d_tv 3 rfl rfl (by kernel_rfl) rfl (.refl _) rfl (v_move rfl) ?_
   obtain ⟨b29, o29, w29, e29, c29, r29⟩ := RdA.at_ hA17 (i := i) hlt
   obtain rfl := r29
   refine d_tv 4 rfl rfl (by kernel_rfl) rfl (.refl _) rfl (v_idx he rfl rfl e29 (i) (by omega) hlt) ?_
   refine d_tv 5 rfl rfl (by kernel_rfl) rfl (.refl _) rfl (v_ldIa he rfl c29 rfl) ?_
   refine d_two 6 10 (by kernel_rfl) rfl rfl ?_ ?_
   ·refine o_call (ref10Apply _ vc c hvc hsc _ st hv8 hsf (sortF l)[i] (hse _ (sortF_mem.1 (List.getElem_mem hlt)))) rfl rfl (fun v31 I31 j31 q31 => ?_)
    obtain ⟨w31, rfl, hw31⟩ := q31
    refine d_on (fun _ m => m.keepsI (.refl _) (j31) hE8 hf8) ?_
    refine d_t 7 rfl rfl (by kernel_rfl) rfl (fun _ m => m.keepsI (.refl _) (j31) hE8 hf8) (y_v rfl (v_move rfl)) ?_
    refine d_t 8 rfl rfl (by kernel_rfl) rfl (fun _ m => m.keepsI (.refl _) (j31) hE8 hf8) (y_v rfl (v_extract rfl rfl)) ?_
    refine d_t 9 rfl rfl (by kernel_rfl) rfl (fun _ m => m.keepsI (.refl _) (j31) hE8 hf8) (y_v rfl (v_extract rfl rfl)) ?_
    refine d_one 10 (by kernel_rfl) rfl ?_
    refine o_alloc he rfl (fun g10 => ?_)
    refine d_on (fun _ m => m.keepsI (.cons _ (.refl _)) (j31) hE8 hf8) ?_
    refine d_one 11 (by kernel_rfl) rfl ?_
    refine o_stw _ he rfl rfl rfl rfl rfl (by simp [hw31.one]) ?_
    refine d_on (fun _ m => m.keepsI (.cons _ (.refl _)) (j31) hE8 hf8) ?_
    refine d_t 12 rfl rfl (by kernel_rfl) rfl (fun _ m => m.keepsI (.cons _ (.refl _)) (j31) hE8 hf8) (y_v rfl (v_assign rfl)) ?_
    refine d_done (by kernel_rfl) ?_
    refine go 8 ?_
    refine cb rfl (fun h35 p35 => ?_) (fun h35 p35 => ?_)
    ·have hok : ¬ (applyF c st (sortF l)[i]).2 = 0 := by simpa using p35
     refine go 3 ?_
     refine o_val rfl (v_build (pl := [(0, 1)]) he he rfl rfl) ?_
     refine go 3 ?_
     refine bring2 ?_
     refine o_stw _ he rfl rfl rfl rfl rfl rfl ?_
     refine go 11 ?_
     refine fin3 rfl ⟨_, _, _, rfl, m0, .inr ⟨_, he, rfl, rfl⟩⟩ rfl rfl ?_
     have hr : runF c l = ([], ((i : Nat) : Int), (applyF c st (sortF l)[i]).2) := by unfold runF; rw [if_neg (by simp [hC]), hgo, run_step hlt, if_neg hok]
     exact q_i ⟨_, by rw [hr]; rfl, by rw [hr]; exact RdS.nil'⟩
    ·have hok : (applyF c st (sortF l)[i]).2 = 0 := by simpa using p35
     refine go 5 ?_
     refine bring1 ?_
     refine o_stw _ he rfl rfl rfl rfl rfl (by simp [hw31.one]) ?_
     refine go 9 ?_
     refine bring1 ?_
     refine sx_drop ?_
     exact q_next4 (i + 1) (_) (_) (_) ⟨by omega, hJ.trans j31, hw31, applyF_sm hsf (hse _ (sortF_mem.1 (List.getElem_mem hlt))), by rw [hgo, run_step hlt, if_pos hok]; rfl⟩ (by omega) rfl sb rfl
   ·refine o_alloc he rfl (fun g10 => ?_)
    refine d_on (fun _ m => m.keeps (.cons _ (.refl _))) ?_
    refine d_one 6 (by kernel_rfl) rfl ?_
    refine o_call (ref10Apply _ vc c hvc hsc _ st hv8 hsf (sortF l)[i] (hse _ (sortF_mem.1 (List.getElem_mem hlt)))) rfl rfl (fun v31 I31 j31 q31 => ?_)
    obtain ⟨w31, rfl, hw31⟩ := q31
    refine d_on (fun _ m => m.keepsI (.cons _ (.refl _)) (j31) hE8 hf8) ?_
    refine d_t 7 rfl rfl (by kernel_rfl) rfl (fun _ m => m.keepsI (.cons _ (.refl _)) (j31) hE8 hf8) (y_v rfl (v_move rfl)) ?_
    refine d_t 8 rfl rfl (by kernel_rfl) rfl (fun _ m => m.keepsI (.cons _ (.refl _)) (j31) hE8 hf8) (y_v rfl (v_extract rfl rfl)) ?_
    refine d_t 9 rfl rfl (by kernel_rfl) rfl (fun _ m => m.keepsI (.cons _ (.refl _)) (j31) hE8 hf8) (y_v rfl (v_extract rfl rfl)) ?_
    refine d_one 11 (by kernel_rfl) rfl ?_
    refine o_stw _ he rfl rfl rfl rfl rfl (by simp [hw31.one]) ?_
    refine d_on (fun _ m => m.keepsI (.cons _ (.refl _)) (j31) hE8 hf8) ?_
    refine d_t 12 rfl rfl (by kernel_rfl) rfl (fun _ m => m.keepsI (.cons _ (.refl _)) (j31) hE8 hf8) (y_v rfl (v_assign rfl)) ?_
    refine d_done (by kernel_rfl) ?_
    refine go 8 ?_
    refine cb rfl (fun h35 p35 => ?_) (fun h35 p35 => ?_)
    ·have hok : ¬ (applyF c st (sortF l)[i]).2 = 0 := by simpa using p35
     refine go 3 ?_
     refine o_val rfl (v_build (pl := [(0, 1)]) he he rfl rfl) ?_
     refine go 3 ?_
     refine bring2 ?_
     refine o_stw _ he rfl rfl rfl rfl rfl rfl ?_
     refine go 11 ?_
     refine fin3 rfl ⟨_, _, _, rfl, m0, .inr ⟨_, he, rfl, rfl⟩⟩ rfl rfl ?_
     have hr : runF c l = ([], ((i : Nat) : Int), (applyF c st (sortF l)[i]).2) := by unfold runF; rw [if_neg (by simp [hC]), hgo, run_step hlt, if_neg hok]
     exact q_i ⟨_, by rw [hr]; rfl, by rw [hr]; exact RdS.nil'⟩
    ·have hok : (applyF c st (sortF l)[i]).2 = 0 := by simpa using p35
     refine go 5 ?_
     refine bring1 ?_
     refine o_stw _ he rfl rfl rfl rfl rfl (by simp [hw31.one]) ?_
     refine go 9 ?_
     refine bring1 ?_
     refine sx_drop ?_
     exact q_next4 (i + 1) (_) (_) (_) ⟨by omega, hJ.trans j31, hw31, applyF_sm hsf (hse _ (sortF_mem.1 (List.getElem_mem hlt))), by rw [hgo, run_step hlt, if_pos hok]; rfl⟩ (by omega) rfl sb rfl
  ·refine go 9 ?_
   refine bring1 ?_
   refine o_stw _ he rfl rfl rfl rfl rfl (by simp [hv8.one]) ?_
   refine go 5 ?_
   refine fin3 rfl ⟨_, _, _, rfl, m0, .inr ⟨_, he, rfl, rfl⟩⟩ rfl rfl ?_
   have hr : runF c l = (st, -1, 0) := by unfold runF; rw [if_neg (by simp [hC]), hgo, List.drop_eq_nil_of_le (by omega)]; rfl
   exact q_i ⟨_, by rw [hr], by rw [hr]; exact hv8⟩

end Go.Proofs.YtoadjlmbdliceaaGreat

/- Histories: what the course of picked events does. -/
set_option linter.all false
namespace Go.Sx
open Go
section
variable {α β : Type} [Day α] [Day β]
theorem insD_map (f : α → β) (hf : ∀ x, Day.day (f x) = Day.day x) (e : α) : ∀ l : List α, (insD e l).map f = insD (f e) (l.map f)
  | [] => rfl
  | x :: r => by
    simp only [insD, List.map_cons, hf]
    split
    · rfl
    · rw [List.map_cons, insD_map f hf e r]
theorem sortF_map (f : α → β) (hf : ∀ x, Day.day (f x) = Day.day x) : ∀ l : List α, (sortF l).map f = sortF (l.map f)
  | [] => rfl
  | x :: r => by
    show (insD x (sortF r)).map f = insD (f x) (sortF (r.map f))
    rw [insD_map f hf, sortF_map f hf r]
theorem insD_first {e : α} {l : List α} (h : ∀ x ∈ l, Day.day e ≤ Day.day x) : insD e l = e :: l := by
  cases l with
  | nil => rfl
  | cons x r => simp only [insD]; rw [if_pos (h x (by simp))]
theorem insD_filt (p : α → Bool) (e : α) : ∀ {l : List α}, Srtd l → (insD e l).filter p = if p e = true then insD e (l.filter p) else l.filter p
  | [], _ => by by_cases h : p e = true <;> simp [insD, h]
  | x :: r, hs => by
    have hs' := List.pairwise_cons.1 hs
    simp only [insD]
    by_cases hd : Day.day e ≤ Day.day x
    · rw [if_pos hd, List.filter_cons]
      by_cases h : p e = true
      · rw [if_pos h, if_pos h, insD_first]
        intro y hy
        rcases List.mem_cons.1 (List.mem_filter.1 hy).1 with rfl | hy
        · exact hd
        · exact Int.le_trans hd (hs'.1 y hy)
      · rw [if_neg h, if_neg h]
    · rw [if_neg hd, List.filter_cons, insD_filt p e hs'.2, List.filter_cons]
      by_cases h : p e = true
      · rw [if_pos h, if_pos h]
        by_cases hx : p x = true
        · rw [if_pos hx, if_pos hx]; simp only [insD]; rw [if_neg hd]
        · rw [if_neg hx, if_neg hx]
      · rw [if_neg h, if_neg h]
theorem sortF_filt (p : α → Bool) : ∀ l : List α, (sortF l).filter p = sortF (l.filter p)
  | [] => rfl
  | x :: r => by
    show (insD x (sortF r)).filter p = _
    rw [insD_filt p x (sortF_srt r), sortF_filt p r, List.filter_cons]
    split <;> rfl
end
/-- the state that events lead to, if they are possible -/
def runsTo (c : List Kind) : List Part → List Evt → Option (List Part)
  | st, [] => some st
  | st, e :: r => if (applyF c st e).2 = 0 then runsTo c (applyF c st e).1 r else none
theorem runs_go (c : List Kind) : ∀ (l : List Evt) (st : List Part) (z : Int), (runsTo c st l).isSome = decide ((runGo c st z l).2.2 = 0)
  | [], _, _ => rfl
  | e :: r, st, z => by
    simp only [runsTo, runGo]
    split
    · exact runs_go c r _ _
    · rename_i h; simp [h]
theorem follow_ok (c : List Kind) : ∀ (l : List Pkd) (st : List Part), decide ((followGo c st l).2 = 0) = (runsTo c st (l.map Pkd.e)).isSome
  | [], _ => rfl
  | p :: r, st => by
    simp only [List.map_cons, runsTo, followGo]
    split
    · exact follow_ok c r _
    · rename_i h; simp [h]
theorem follow_app (c : List Kind) : ∀ (a b : List Pkd) (st : List Part), followGo c st (a ++ b) = match runsTo c st (a.map Pkd.e) with | some s => followGo c s b | none => followGo c st a
  | [], _, _ => rfl
  | p :: r, b, st => by
    simp only [List.cons_append, List.map_cons, runsTo, followGo]
    split
    · rw [follow_app c r b]
    · rfl
end Go.Sx

/- Sorting what is picked; a callee that changes one thing and leaves memory behind. -/
set_option linter.all false
namespace Go.Sx
open Go
/-- what lies behind the elements in a block -/
structure Rst (k : Nat) where
  l : List (List Value)
  uk : Uk k l
theorem evCh_ukP (l : List Pkd) : Uk 15 (evCh l) := evCh_uk l
theorem evCh_flatP {I : IMap} (l : List Pkd) : FlatC I (evCh l) l := by
  induction l with
  | nil => exact .nil
  | cons e l ih => exact .cons rfl ih
theorem evCh_restP {l : List Pkd} {rest : List (List Value)} {i : Nat} (h : i < l.length) : (evCh l ++ rest)[i]? = some (Day.ch l[i]) := by
  rw [List.getElem?_append_left (by rw [evCh_len]; exact h)]; exact evCh_at h
section
variable {α : Type} [Day α]
theorem evCh_setR (l : List α) (rest : List (List Value)) (i : Nat) (h : i < l.length) (e : α) : (evCh l ++ rest).set i (Day.ch e) = evCh (l.set i e) ++ rest := by
  rw [List.set_append_left _ _ (by rw [evCh_len]; exact h), evCh_set]
theorem evCh_swpR {l : List α} {rest : List (List Value)} {i j : Nat} (hi : i < l.length) (hj : j < l.length) : ((evCh l ++ rest).set i (Day.ch l[j])).set j (Day.ch l[i]) = evCh (swp l i j) ++ rest := by
  rw [evCh_setR _ _ _ hi, evCh_setR _ _ _ (by rw [List.length_set]; exact hj), swp_eq hi hj]
theorem evCh_swpR' {l : List α} {rest : List (List Value)} {i j : Nat} (hi : i < l.length) (hj : j < l.length) (hij : i ≠ j) : ((evCh l ++ rest).set j (Day.ch l[i])).set i (Day.ch l[j]) = evCh (swp l i j) ++ rest := by
  rw [evCh_setR _ _ _ hj, evCh_setR _ _ _ (by rw [List.length_set]; exact hi), swp_eq hi hj, List.set_comm _ _ hij.symm]
end
theorem evCh_ofP {I : IMap} {xss : List (List Value)} {l : List Pkd} (h : FlatC I xss l) : xss = evCh l := by
  induction h with
  | nil => rfl
  | cons h1 _ ih => rw [ih]; simp only [evCh, List.map_cons]; rw [show _ = _ from h1]; rfl
theorem subI_neg {a b : Int} : a - b < 0 ↔ a < b := by omega
theorem day_ltP {l : List Pkd} {i j : Nat} {hi : i < l.length} {hj : j < l.length} (h : Day.day l[i] - Day.day l[j] < 0) : dayAt l i < dayAt l j := by
  rw [subI_neg] at h; rw [dayAt_eq hi, dayAt_eq hj]; exact h
theorem day_geP {l : List Pkd} {i j : Nat} {hi : i < l.length} {hj : j < l.length} (h : ¬ Day.day l[i] - Day.day l[j] < 0) : dayAt l j ≤ dayAt l i := by
  rw [subI_neg] at h; rw [dayAt_eq hi, dayAt_eq hj]; omega
section
variable {P : Program} {ρ : Option Nat} {n : Sz} {E : Ent} {I I' : IMap} {L : LL} {H : List Res} {Q : Exit → Act → World → Prop} {ops : Array Oper} {K : Act → World → Prop} {w0 : World}
variable {d ty : Nat} {pos : String} {af : Array Edge} {fo : Operand} {as_ : List Operand} {ats : Array TypeId} {f : FuncId} {args : List Value} {r r' : Res} {X : List Nat}
/-- a contract: one thing of the caller's own is changed, and there is new memory -/
def FnG (P : Program) (f : FuncId) (args : Array Value) (I : IMap) (r : Res) (p : Value → IMap → Res → Prop) : Prop := FnH P f args I [r] fun u I' H' => ∃ r', H' = [r'] ∧ p u I' r'
theorem o_callG {p : Value → IMap → Res → Prop} (hc : FnG P f args.toArray I r p) (h : callArgs L fo as_ = some (f, args)) (hd : Nat.blt d n.sz = true) (k : ∀ v I' r', ILe I I' → p v I' r' → SX n E I' ((d, v) :: L) (r' :: H) K) :
    SX n E I L (r :: H) (one P ops Q ⟨some d, .call { callee := .value fo, args := as_.toArray, argTypes := ats }, ty, pos, af, none⟩ K) :=
  o_callH (Hc := [r]) (H0 := H) hc h hd fun u I' H' hI hp => by obtain ⟨r', rfl, h1⟩ := hp; exact k u I' r' hI h1
theorem q_g {v : Value} {p : Value → IMap → Res → Prop} (h : p v I r) : SX n E I L [r] fun _ w => Post E (fun u' I' H' => ∃ r', H' = [r'] ∧ p u' I' r') (.returned v) w := q_post (fun _ m => m) ⟨r, rfl, h⟩
theorem FnX.of_V {args : Array Value} {v : Value} {t k : Nat} (h : FnV P f args I v) : FnX P f args I [] (fun u r => u = v ∧ r = .row (.slice none 0 0) t k 0 []) :=
  ⟨fun w m => (h.go w m).mono fun _ _ ⟨u, I', H', he, hm, hq⟩ => by
    obtain ⟨rfl, rfl, rfl⟩ := hq
    exact ⟨_, _, _, he, hm.nilrow t k, rfl, _, rfl, rfl, rfl⟩⟩
theorem FnX.back {args : Array Value} {g e k m cap : Nat} {xss yss rest : List (List Value)} {p : Value → Res → Prop} (hU : Uk k yss) (hR : Uk k rest) (hm : yss.length = m) (hc : m + rest.length = cap) (hl : cap ≤ maxLen)
    (h : FnX P f args I [.blk g e (xss ++ rest).flatten] (fun u r => p u (.row (.slice (some ⟨g, 0, none⟩) m cap) e k m yss.flatten) ∧ r = .blk g e (yss ++ rest).flatten)) : FnX P f args I [.blk g e (xss ++ rest).flatten] p :=
  ⟨fun w m' => (h.go w m').mono fun _ w' ⟨u, I', H', he, hm', hq⟩ => by
    obtain ⟨rfl, r', rfl, hp, rfl⟩ := hq
    refine ⟨_, _, _, he, ?_, rfl, _, rfl, hp⟩
    have hb : w'.heap[g]? = some (.cells (yss ++ rest).flatten.toArray e (0, 0)) := hm'.blk
    exact hm'.step rfl rfl rfl (Nat.le_refl _) (fun _ _ _ => rfl) (IsRow.shut hb hU hR hm hc hl) (fun g' hg' => .inl hg')⟩
theorem FnX.of_rowV {args : Value → List Value} {p : Value → Res → Prop} {v : Value} {e k m : Nat} {xss : List (List Value)} (hU : Uk k xss) (hm : xss.length = m)
    (h0 : m = 0 → v = .slice none 0 0 → FnX P f (args (.slice none 0 0)).toArray I [] p)
    (h1 : ∀ g cap rest, v = .slice (some ⟨g, 0, none⟩) m cap → Uk k rest → m + rest.length = cap → cap ≤ maxLen → FnX P f (args (.slice (some ⟨g, 0, none⟩) m cap)).toArray I [.blk g e (xss ++ rest).flatten] p) : FnX P f (args v).toArray I [.row v e k m xss.flatten] p := by
  refine ⟨fun w mm => ?_⟩
  have hr : IsRow (look' w) v e k m xss.flatten := mm.holds (.row v e k m xss.flatten) (List.mem_cons_self ..)
  rcases hr.open_ hU hm with ⟨h2, h3⟩ | ⟨g, cap, rest, h2, h3, h4, h5, h6⟩
  · subst h3
    exact (h0 h2 rfl).go w mm.drop
  · subst h2
    exact (h1 g cap rest rfl h3 h4 h5).go w (mm.step rfl rfl rfl (Nat.le_refl _) (fun _ _ _ => rfl) h6 (fun g' hg' => .inl hg'))
end
/-! picking -/
theorem pick_len (day : Int) (l : List Rep) (ch : List Int) (i : Nat) : (pickF day l ch i).length ≤ i := by
  unfold pickF
  exact Nat.le_trans (List.length_filterMap_le _ _) (by simp)
section
variable {day : Int} {l : List Rep} {ch : List Int} {i : Nat} {out : List Pkd}
theorem pk_no (h1 : i < l.length) (h2 : i < ch.length) (hw : pickF day l ch i = out) (h : optAt day l[i] ch[i] = none) : pickF day l ch (i + 1) = out := by
  rw [pick_succ, hw, pkd, at2_eq h1 h2, h]; simp
theorem pk_neg (h1 : i < l.length) (h2 : i < ch.length) (hw : pickF day l ch i = out) (h : ¬ 0 ≤ ch[i]) : pickF day l ch (i + 1) = out := pk_no h1 h2 hw (if_neg h)
theorem pk_big (h1 : i < l.length) (h2 : i < ch.length) (hw : pickF day l ch i = out) (h : ¬ ch[i] < (l[i].options.length : Nat)) : pickF day l ch (i + 1) = out := pk_no h1 h2 hw (by
  unfold optAt
  split
  · rw [List.getElem?_eq_none (by omega)]
  · rfl)
theorem pk_late (h1 : i < l.length) (h2 : i < ch.length) (hw : pickF day l ch i = out) (hk : ch[i].toNat < l[i].options.length) (h : ¬ l[i].options[ch[i].toNat].day < day) : pickF day l ch (i + 1) = out := pk_no h1 h2 hw (by
  unfold optAt
  split
  · simp only [List.getElem?_eq_getElem hk]; rw [if_neg h]
  · rfl)
theorem pk_yes (h1 : i < l.length) (h2 : i < ch.length) (hw : pickF day l ch i = out) (h0 : 0 ≤ ch[i]) (hk : ch[i].toNat < l[i].options.length) (h : l[i].options[ch[i].toNat].day < day) (hv : 0 ≤ l[i].options[ch[i].toNat].day ∧ l[i].options[ch[i].toNat].day ≤ 40000) :
    pickF day l ch (i + 1) = out ++ [⟨l[i].options[ch[i].toNat], i, hv.1, hv.2⟩] := by
  have ho : optAt day l[i] ch[i] = some l[i].options[ch[i].toNat] := by
    unfold optAt
    rw [if_pos h0]
    simp only [List.getElem?_eq_getElem hk]; rw [if_pos h]
  rw [pick_succ, hw, pkd, at2_eq h1 h2, ho]
  simp [hv]
end
theorem follow_step {c : List Kind} {st : List Part} {l : List Pkd} {i : Nat} (hi : i < l.length) : followGo c st (l.drop i) = if (applyF c st l[i].e).2 = 0 then followGo c (applyF c st l[i].e).1 (l.drop (i + 1)) else (l[i].rep, (applyF c st l[i].e).2) := by
  rw [List.drop_eq_getElem_cons hi]; rfl
theorem open_succ (l : List Rep) (ch : List Int) (i : Nat) : openDays l ch (i + 1) = openDays l ch i ++ ((at2 (fun r k => if k < 0 then r.options.map Evt.day else []) l ch i).getD []) := by
  rw [openDays, List.range_succ, List.flatMap_append, openDays]; simp
/-- what is open up to an option -/
def openTo (l : List Rep) (ch : List Int) (i j : Nat) : List Int := openDays l ch i ++ ((at2 (fun r k => if k < 0 then (r.options.take j).map Evt.day else []) l ch i).getD [])
theorem openTo_zero {l : List Rep} {ch : List Int} {i : Nat} : openTo l ch i 0 = openDays l ch i := by
  unfold openTo at2
  split
  · simp
  · simp
theorem openTo_skip {l : List Rep} {ch : List Int} {i j : Nat} (h1 : i < l.length) (h2 : i < ch.length) (h : ¬ ch[i] < 0) (j' : Nat) : openTo l ch i j = openTo l ch i j' := by
  unfold openTo; rw [at2_eq h1 h2, at2_eq h1 h2]; simp [h]
theorem openTo_step {l : List Rep} {ch : List Int} {i j : Nat} (h1 : i < l.length) (h2 : i < ch.length) (h : ch[i] < 0) (hj : j < l[i].options.length) : openTo l ch i (j + 1) = openTo l ch i j ++ [l[i].options[j].day] := by
  unfold openTo; rw [at2_eq h1 h2, at2_eq h1 h2]; simp only [if_pos h, Option.getD_some]
  rw [← take_succ_of hj, List.map_append, List.append_assoc]; rfl
theorem openTo_all {l : List Rep} {ch : List Int} {i : Nat} (h1 : i < l.length) (h2 : i < ch.length) : openTo l ch i l[i].options.length = openDays l ch (i + 1) := by
  rw [open_succ, openTo, at2_eq h1 h2, at2_eq h1 h2]; simp [List.take_length]
theorem open_pre {l : List Rep} {ch : List Int} {n i : Nat} (h : i ≤ n) : openDays l ch i <+: openDays l ch n := by
  induction n with
  | zero => obtain rfl : i = 0 := by omega
            exact List.prefix_rfl
  | succ n ih =>
    rcases Nat.lt_or_ge n i with hi | hi
    · obtain rfl : i = n + 1 := by omega
      exact List.prefix_rfl
    · exact (ih hi).trans (by rw [open_succ]; exact List.prefix_append _ _)
theorem openTo_pre {l : List Rep} {ch : List Int} {i j : Nat} (h1 : i < l.length) (h2 : i < ch.length) (h : ch[i] < 0) (hj : j < l[i].options.length) : openTo l ch i j ++ [l[i].options[j].day] <+: openDays l ch l.length := by
  rw [← openTo_step h1 h2 h hj]
  refine List.IsPrefix.trans ?_ (open_pre (i := i + 1) (by omega))
  rw [← openTo_all h1 h2]
  unfold openTo
  rw [at2_eq h1 h2, at2_eq h1 h2]
  simp only [if_pos h, Option.getD_some]
  refine (List.prefix_append_right_inj _).2 ?_
  rw [List.take_length, List.map_take]
  exact List.take_prefix _ _
theorem validRep_len {r : Rep} (h : validRep r = true) : 1 ≤ r.options.length ∧ r.options.length ≤ 4 := by
  simp only [validRep, Bool.and_eq_true, Bool.not_eq_true', Bool.or_eq_false_iff, decide_eq_false_iff_not] at h
  omega
theorem pick_mem {day : Int} {l : List Rep} {ch : List Int} {n : Nat} {p : Pkd} (h : p ∈ pickF day l ch n) : ∃ r ∈ l, p.e ∈ r.options := by
  rw [pickF, List.mem_filterMap] at h
  obtain ⟨i, _, hi⟩ := h
  unfold pkd at2 at hi
  split at hi
  · rename_i e he
    split at hi
    · cases hi
      split at he
      · rename_i r k h1 h2
        refine ⟨r, List.mem_of_getElem? h1, ?_⟩
        simp only [Option.join_some, optAt] at he
        split at he
        · split at he
          · rename_i e' h3
            split at he
            · cases he; exact List.mem_of_getElem? h3
            · cases he
          · cases he
        · cases he
      · simp at he
    · cases hi
  · cases hi
theorem given_all {c : List Kind} {l : List Rep} {ch : List Int} {n : Int} (h : givenF c l ch n = true) : ch.length = l.length ∧ ∀ r ∈ l, validRep r = true := by
  simp only [givenF, Bool.and_eq_true, Bool.not_eq_true', Bool.or_eq_false_iff, Bool.not_eq_false', decide_eq_true_eq] at h
  have hlc : ch.length = l.length := by omega
  refine ⟨hlc, fun r hr => ?_⟩
  obtain ⟨i, hi, rfl⟩ := List.getElem_of_mem hr
  have := allTo_at h.2 hi hi (by omega)
  simp only [chFine, Bool.not_eq_true', Bool.or_eq_false_iff, decide_eq_false_iff_not] at this
  cases hv : validRep l[i] with
  | true => rfl
  | false => exact absurd (by simp [chs, hv]) this.1.1
theorem least_snoc (l : List Int) (d : Int) : leastF (l ++ [d]) = if d < leastF l then d else leastF l := by
  rw [leastF, List.foldl_append]; rfl
/-- events as_ keys -/
def encE (e : Evt) : Value := .agg e.cells.toArray
end Go.Sx

/- Maps whose keys are structs of numbers, strings and truth values. -/
set_option linter.all false
namespace Go.Sx
open Go
/-- a key that can be hashed -/
def chkV (P : Program) : Nat → TypeId → Value → Bool
  | 0, _, _ => false
  | d + 1, t, x => match P.underlying t with
    | some .bool | some (.int _) | some .string => true
    | some (.struct fs) => match x with
      | .agg xs => fs.toList.all fun f => match partV P f.type xs.toList f.offset with | some v => chkV P d f.type v | none => false
      | _ => false
    | _ => false
theorem chkV_run {P : Program} {b : Bool} : ∀ (d : Nat) (t : TypeId) (v : Value), chkV P d t v = true → ∀ (n : Nat), d ≤ n → ∀ w : World, (Instr.checkKey b n t v).run P w = .ok () w
  | 0, _, _, h, _, _, _ => by simp [chkV] at h
  | d + 1, t, v, h, n, hn, w => by
    obtain ⟨n, rfl⟩ : ∃ q, n = q + 1 := ⟨n - 1, by omega⟩
    rw [chkV] at h
    rw [Instr.checkKey]
    split at h
    · rename_i hu; simp [run_underlying hu]
    · rename_i hu; simp [run_underlying hu]
    · rename_i hu; simp [run_underlying hu]
    · rename_i fs hu
      split at h
      · rename_i xs
        simp only [Sem.run_bind, run_underlying hu, Result.andThen_ok]
        rw [← Array.forIn_toList]
        have key : ∀ l : List Field, (∀ f ∈ l, (match partV P f.type xs.toList f.offset with | some v => chkV P d f.type v | none => false) = true) → ∀ w : World,
            (forIn l PUnit.unit fun f (_ : PUnit) => do
              if f.name ≠ "_" then do
                let __do_lift ← part f.type xs f.offset
                Instr.checkKey b n f.type __do_lift
                pure PUnit.unit
                pure (ForInStep.yield PUnit.unit)
              else do
                pure PUnit.unit
                pure (ForInStep.yield PUnit.unit) : Sem PUnit).run P w = .ok () w := by
          intro l
          induction l with
          | nil => intro _ w; simp
          | cons f l ih =>
            intro hl w
            have h1 := hl f (by simp)
            split at h1
            · rename_i v hv
              have e1 := partV_run hv w
              have e2 := chkV_run (b := b) d f.type v h1 n (by omega) w
              have e3 := ih (fun g hg => hl g (by simp [hg])) w
              rw [List.forIn_cons]
              by_cases hf : f.name ≠ "_"
              · simp only [if_pos hf, Sem.run_bind, e1, Result.andThen_ok, e2, Sem.run_pure]
                exact e3
              · simp only [if_neg hf, Sem.run_bind, Result.andThen_ok, Sem.run_pure]
                exact e3
            · cases h1
        have := key fs.toList (by rw [List.all_eq_true] at h; exact h) w
        rw [this]
        simp
      · cases h
    · cases h
def structK (P : Program) (kt : TypeId) : Bool := match P.underlying kt with
  | some (.struct _) => true
  | _ => false
theorem key_struct {κ : Type} [DecidableEq κ] {P : Program} {kt : TypeId} {cells : κ → List Value} (h : structK P kt = true) (he : ∀ p q, eqV P 9 kt (.agg (cells p).toArray) (.agg (cells q).toArray) = some (decide (p = q)))
    (hc : ∀ p, chkV P 9 kt (.agg (cells p).toArray) = true) (hb : ∀ p, (cells p).all (fun v => Instr.sameBits 9999 v v) = true) : KeyOK P kt (fun p => .agg (cells p).toArray) where
  find := by
    obtain ⟨fs, h1⟩ : ∃ fs, P.underlying kt = some (.struct fs) := by
      unfold structK at h
      split at h
      · rename_i fs hfs; exact ⟨fs, hfs⟩
      · cases h
    intro w k es kvs hes
    have key : ∀ (es : List MapEntry) (kvs : List (κ × Value)) (i : Nat), es.map (fun e => (e.key, e.val)) = emap (fun p => .agg (cells p).toArray) kvs → (Instr.findAsking kt (.agg (cells k).toArray) es i).run P w = .ok (mfind kvs k i) w := by
      intro es
      induction es with
      | nil => intro kvs i he; cases kvs <;> simp_all [emap, Instr.findAsking, mfind]
      | cons e es ih =>
        intro kvs i hes
        cases kvs with
        | nil => simp [emap] at hes
        | cons p kvs =>
          obtain ⟨k', v⟩ := p
          simp only [List.map_cons, emap, List.cons.injEq, Prod.mk.injEq] at hes
          obtain ⟨⟨h1, h2⟩, h3⟩ := hes
          have hr := eqV_run (P := P) 9 kt _ _ _ (he k k') 10000 (by omega) w
          simp only [Instr.findAsking, h1, Sem.run_bind, Op.equal, Op.maxDepth, hr, Result.andThen_ok]
          by_cases hk : k' = k
          · subst hk; simp [mfind, h2]
          · have : ¬ k = k' := fun e => hk e.symm
            simp only [this, decide_false, Bool.false_eq_true, if_false, mfind, if_neg hk]
            exact ih kvs (i + 1) h3
    simp only [Instr.findKey, Sem.run_bind, run_underlying h1, Result.andThen_ok]
    cases es with
    | nil => cases kvs <;> simp_all [emap, Instr.findNow, mfind]
    | cons e es =>
      have : Instr.findNow (.struct fs) (.agg (cells k).toArray) (e :: es) 0 = none := by simp [Instr.findNow, Instr.sameNow]
      simp only [this]
      exact key _ kvs 0 hes
  check := fun w b k => chkV_run 9 kt _ (hc k) 10000 (by omega) w
  same := by
    intro k
    show Instr.sameBits (9999 + 1) (.agg (cells k).toArray) (.agg (cells k).toArray) = true
    have := hb k
    rw [List.all_eq_true] at this
    simp only [Instr.sameBits, beq_self_eq_true, Bool.true_and, List.all_eq_true]
    intro p hp
    obtain ⟨i, hi, rfl⟩ := List.getElem_of_mem hp
    simp only [List.getElem_zip]
    exact this _ (List.getElem_mem _)
theorem bits_str (n : Nat) (s : ByteArray) : Instr.sameBits n (.string s) (.string s) = true := by
  have hs : (s == s) = true := by rw [ba_beq]; simp
  cases n <;> simp [Instr.sameBits, hs]
theorem bits_int (n : Nat) (k : IntKind) (i : Int) : Instr.sameBits n (.int k i) (.int k i) = true := by cases n <;> simp [Instr.sameBits]
end Go.Sx

