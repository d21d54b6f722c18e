/- The library of a symbolic run and the walks: merged. -/
import Derived.Test.YtdapmfkbpnjkmaaGreatZPlb
/- Walks, printed by a program out of the code of the functions: each theorem is a contract of one function. -/
namespace Go.Proofs.YtdapmfkbpnjkmaaGreat
open Go Go.Sx
set_option linter.all false
set_option maxRecDepth 20000
set_option maxHeartbeats 4000000
instance T.by_231 : Has (bytesK Tryz.prog 231) ([.string ⟨#[]⟩, .string ⟨#[]⟩], 2, 32) := ⟨by kernel_rfl⟩
instance T.by_48 : Has (bytesK Tryz.prog 48) ([.string ⟨#[]⟩, .string ⟨#[]⟩, .string ⟨#[]⟩, .string ⟨#[]⟩, .int .i64 0, .int .i64 0, .bool false, .slice none 0 0, .int .i64 0, .int .i64 0, .int .i64 0, .int .i64 0, .int .i64 0, .int .i64 0], 14, 160) := ⟨by kernel_rfl⟩
instance T.by_96 : Has (bytesK Tryz.prog 96) ([.int .i64 0, .int .i64 0, .string ⟨#[]⟩, .string ⟨#[]⟩, .string ⟨#[]⟩, .string ⟨#[]⟩, .string ⟨#[]⟩, .string ⟨#[]⟩, .int .i64 0, .int .i64 0, .int .i64 0, .int .i64 0, .int .i64 0, .int .i64 0], 14, 160) := ⟨by kernel_rfl⟩
instance T.elt_42 : Has (eltK Tryz.prog 42) (231, 2) := ⟨by kernel_rfl⟩
instance T.fld_118_0 : Has (fldK Tryz.prog 118 0) (0, false, 1) := ⟨by kernel_rfl⟩
instance T.fld_118_1 : Has (fldK Tryz.prog 118 1) (1, false, 1) := ⟨by kernel_rfl⟩
instance T.fld_231_0 : Has (fldK Tryz.prog 231 0) (0, false, 1) := ⟨by kernel_rfl⟩
instance T.fld_231_1 : Has (fldK Tryz.prog 231 1) (1, false, 1) := ⟨by kernel_rfl⟩
instance T.fld_46_0 : Has (fldK Tryz.prog 46 0) (0, true, 2) := ⟨by kernel_rfl⟩
instance T.fld_46_1 : Has (fldK Tryz.prog 46 1) (2, true, 2) := ⟨by kernel_rfl⟩
instance T.fld_46_2 : Has (fldK Tryz.prog 46 2) (4, true, 2) := ⟨by kernel_rfl⟩
instance T.fld_48_0 : Has (fldK Tryz.prog 48 0) (0, false, 1) := ⟨by kernel_rfl⟩
instance T.fld_48_1 : Has (fldK Tryz.prog 48 1) (1, false, 1) := ⟨by kernel_rfl⟩
instance T.fld_48_2 : Has (fldK Tryz.prog 48 2) (2, false, 1) := ⟨by kernel_rfl⟩
instance T.fld_48_3 : Has (fldK Tryz.prog 48 3) (3, false, 1) := ⟨by kernel_rfl⟩
instance T.fld_48_4 : Has (fldK Tryz.prog 48 4) (4, false, 1) := ⟨by kernel_rfl⟩
instance T.fld_48_5 : Has (fldK Tryz.prog 48 5) (5, false, 1) := ⟨by kernel_rfl⟩
instance T.fld_48_6 : Has (fldK Tryz.prog 48 6) (6, false, 1) := ⟨by kernel_rfl⟩
instance T.fld_48_7 : Has (fldK Tryz.prog 48 7) (7, false, 1) := ⟨by kernel_rfl⟩
instance T.fld_48_8 : Has (fldK Tryz.prog 48 8) (8, true, 6) := ⟨by kernel_rfl⟩
instance T.fld_53_0 : Has (fldK Tryz.prog 53 0) (0, false, 1) := ⟨by kernel_rfl⟩
instance T.pl_118 : Has (plK Tryz.prog 118) [(0, 1), (1, 1)] := ⟨by kernel_rfl⟩
instance T.pl_278 : Has (plK Tryz.prog 278) [(0, 1), (1, 1)] := ⟨by kernel_rfl⟩
instance T.pl_48 : Has (plK Tryz.prog 48) [(0, 1), (1, 1), (2, 1), (3, 1), (4, 1), (5, 1), (6, 1), (7, 1), (8, 6)] := ⟨by kernel_rfl⟩
theorem T.sp_278 : strPairK Tryz.prog 278 = true := by kernel_rfl
instance T.ty_116 : Has (tyK Tryz.prog 116) (false, 1) := ⟨by kernel_rfl⟩
instance T.ty_118 : Has (tyK Tryz.prog 118) (true, 2) := ⟨by kernel_rfl⟩
instance T.ty_220 : Has (tyK Tryz.prog 220) (false, 1) := ⟨by kernel_rfl⟩
instance T.ty_231 : Has (tyK Tryz.prog 231) (true, 2) := ⟨by kernel_rfl⟩
instance T.ty_232 : Has (tyK Tryz.prog 232) (false, 1) := ⟨by kernel_rfl⟩
instance T.ty_278 : Has (tyK Tryz.prog 278) (true, 2) := ⟨by kernel_rfl⟩
instance T.ty_42 : Has (tyK Tryz.prog 42) (false, 1) := ⟨by kernel_rfl⟩
instance T.ty_44 : Has (tyK Tryz.prog 44) (true, 2) := ⟨by kernel_rfl⟩
instance T.ty_51 : Has (tyK Tryz.prog 51) (false, 1) := ⟨by kernel_rfl⟩
instance T.ty_53 : Has (tyK Tryz.prog 53) (true, 1) := ⟨by kernel_rfl⟩
instance T.und_116 : Has (Tryz.prog.underlying 116) (.map 9 3) := ⟨by kernel_rfl⟩
instance T.und_275 : Has (Tryz.prog.underlying 275) (.map 278 4) := ⟨by kernel_rfl⟩
instance T.und_293 : Has (Tryz.prog.underlying 293) (.int .u64) := ⟨by kernel_rfl⟩
instance T.und_4 : Has (Tryz.prog.underlying 4) (.bool) := ⟨by kernel_rfl⟩
instance T.und_42 : Has (Tryz.prog.underlying 42) (.slice 231) := ⟨by kernel_rfl⟩
instance T.zero_118 : Has (zeroK Tryz.prog 118) [.slice none 0 0, .map none] := ⟨by kernel_rfl⟩
instance T.zero_231 : Has (zeroK Tryz.prog 231) [.string ⟨#[]⟩, .string ⟨#[]⟩] := ⟨by kernel_rfl⟩
instance T.zero_278 : Has (zeroK Tryz.prog 278) [.string ⟨#[]⟩, .string ⟨#[]⟩] := ⟨by kernel_rfl⟩
instance T.zero_48 : Has (zeroK Tryz.prog 48) [.string ⟨#[]⟩, .string ⟨#[]⟩, .string ⟨#[]⟩, .string ⟨#[]⟩, .int .i64 0, .int .i64 0, .bool false, .slice none 0 0, .int .i64 0, .int .i64 0, .int .i64 0, .int .i64 0, .int .i64 0, .int .i64 0] := ⟨by kernel_rfl⟩
instance T.zv_3 : Has (zvK Tryz.prog 3) (.int .i64 0) := ⟨by kernel_rfl⟩
theorem flOf (I : IMap) (v : Value) (l : List Part) (hv : RdS I v l) :
    FnX Tryz.prog 67 #[.agg #[v]] I [] (fun u r => ∃ g kvs, u = .agg #[v, .map (some g)] ∧ r = .mp g (emap Value.string kvs) ∧ Ix kvs l ∧ (kvs.map Prod.fst).Nodup) := by
 have hv0 := hv
 obtain ⟨A, c0, rfl, hA, hc, hm⟩ := hv
 refine enter Tryz.func67 Tryz.call67 rfl Tryz.ntmps67 rfl (fun w0 => ?_)
 refine go 3 ?_
 refine o_box _ rfl rfl rfl (fun g1 => ?_)
 refine go 1 ?_
 refine o_alloc he rfl (fun g2 => ?_)
 refine go 7 ?_
 refine o_map0 (Value.string) he rfl (fun r10 => ?_)
 refine go 1 ?_
 refine o_val rfl (v_build (pl := [(0, 1), (1, 1)]) he he rfl rfl) ?_
 refine go 1 ?_
 refine o_alloc he rfl (fun g3 => ?_)
 refine go 1 ?_
 refine o_stw _ he rfl rfl rfl rfl rfl rfl ?_
 refine go 12 ?_
 refine bring3 ?_
 refine bring3 ?_
 refine bring2 ?_
 refine bring3 ?_
 refine c_loop2 ((0 : Nat)) ([]) (fun i kvs => I)
  (fun i kvs => [(1, .pointer (some ⟨g1, 0, none⟩)), (2, .pointer (some ⟨g2, 0, none⟩)), (3, .pointer (some ⟨g3, 0, none⟩)), (13, .slice A l.length c0), (14, .int .i64 (l.length : Int)), (15, .int .i64 (i : Int))])
  (fun i kvs => [.mp r10 (emap Value.string kvs), .blk g3 118 [.slice A l.length c0, .map (some r10)], .blk g2 118 [.slice none 0 0, .map none], .blk g1 53 [.slice A l.length c0]])
  (fun i kvs => i ≤ l.length ∧ Ix kvs (l.take i) ∧ (kvs.map Prod.fst).Nodup)
  (fun i kvs => l.length - i) ⟨Nat.zero_le _, Ix.nil, List.nodup_nil⟩ rfl sb rfl ?_
 intro i kvs ⟨hi, hx, hnd⟩
 refine go 6 ?_
 refine cb rfl (fun h16 p16 => ?_) (fun h16 p16 => ?_)
 ·have hlt : i < l.length := by omega
  refine go 7 ?_
  obtain ⟨b18, o18, w18, e18, c18, r18⟩ := RdA.at_ hA (i := i) hlt
  obtain ⟨q18, rfl, B18, d18, rfl, hB18, hd18, hm18⟩ := r18
  refine o_v rfl (v_idx he rfl rfl e18 (i) (by omega) hlt) ?_
  refine o_v rfl (v_ldIa he rfl c18 rfl) ?_
  refine go 1 ?_
  refine o_alloc he rfl (fun g5 => ?_)
  refine go 2 ?_
  refine o_stw _ he rfl rfl rfl rfl rfl rfl ?_
  refine go 8 ?_
  refine o_v rfl (v_get2 m1 (key_string he) he he (l[i].name) rfl rfl rfl rfl) ?_
  refine go 13 ?_
  refine cb rfl (fun h29 p29 => ?_) (fun h29 p29 => ?_)
  ·refine go 7 ?_
   refine bring1 ?_
   refine o_mapPut (_) (key_string he) he (l[i].name) rfl rfl rfl (rfl) ?_
   refine go 8 ?_
   refine bring1 ?_
   refine sx_drop ?_
   exact q_next2 (i + 1) (_) ⟨by omega, by rw [← take_succ_of hlt]; exact hx.put (by rw [List.length_take]; omega) (by simpa using h29), mput_nodup hnd⟩ (by omega) rfl sb rfl
  ·refine go 8 ?_
   refine sx_drop ?_
   exact q_next2 (i + 1) (_) ⟨by omega, by rw [← take_succ_of hlt]; exact hx.skip (by simpa using h29), hnd⟩ (by omega) rfl sb rfl
 ·refine go 9 ?_
  refine bring2 ?_
  refine o_stw _ he rfl rfl rfl rfl rfl rfl ?_
  refine go 3 ?_
  refine fin1 rfl ⟨_, _, _, rfl, m0, .inr ⟨_, he, rfl, rfl⟩⟩ ?_
  refine sx_drop ?_
  refine bring1 ?_
  refine sx_drop ?_
  refine bring1 ?_
  refine sx_drop ?_
  have e : i = l.length := (by omega)
  subst e
  rw [List.take_length] at hx
  exact q_x ⟨_, _, rfl, rfl, hx, hnd⟩

theorem flGet (I : IMap) (v : Value) (l : List Part) (hv : RdS I v l) (r : Nat) (kvs : List (ByteArray × Value)) (hx : Ix kvs l) (s : ByteArray) :
    FnK Tryz.prog 68 #[.agg #[v, .map (some r)], .string s] I (.mp r (emap Value.string kvs)) (PartIs I (findP l s)) := by
 obtain ⟨z, b, hz, hb, hfs, hfn⟩ := hx.look s
 obtain ⟨A, c0, rfl, hA, hc, hm⟩ := hv
 refine enter Tryz.func68 Tryz.call68 rfl Tryz.ntmps68 rfl (fun w0 => ?_)
 refine go 3 ?_
 refine o_box _ rfl rfl rfl (fun g2 => ?_)
 refine go 1 ?_
 refine o_alloc he rfl (fun g4 => ?_)
 refine go 8 ?_
 refine o_v rfl (v_get2 m2 (key_string he) he he (s) rfl rfl hz hb) ?_
 refine go 14 ?_
 refine cb rfl (fun h16 p16 => ?_) (fun h16 p16 => ?_)
 ·have hN := hfn (by simpa using h16)
  refine go 3 ?_
  refine o_val rfl (v_build (pl := [(0, 1), (1, 1), (2, 1), (3, 1), (4, 1), (5, 1), (6, 1), (7, 1), (8, 6)]) he he rfl rfl) ?_
  refine go 1 ?_
  refine o_stw _ he rfl rfl rfl rfl rfl rfl ?_
  refine go 5 ?_
  refine fin2 rfl ⟨_, _, _, rfl, m0, .inr ⟨_, he, rfl, rfl⟩⟩ rfl ?_
  refine sx_drop ?_
  refine sx_drop ?_
  exact q_k (PartIs.none hN)
 ·obtain ⟨i, hi, rfl, hF⟩ := hfs (by simpa using h16)
  refine go 7 ?_
  obtain ⟨b21, o21, w21, e21, c21, r21⟩ := RdA.at_ hA (i := i) hi
  obtain ⟨q21, rfl, B21, d21, rfl, hB21, hd21, hm21⟩ := r21
  refine o_v rfl (v_idx he rfl rfl e21 (i) rfl hi) ?_
  refine o_v rfl (v_ldIa he rfl c21 rfl) ?_
  refine go 1 ?_
  refine o_stw _ he rfl rfl rfl rfl rfl rfl ?_
  refine go 4 ?_
  refine fin2 rfl ⟨_, _, _, rfl, m0, .inr ⟨_, he, rfl, rfl⟩⟩ rfl ?_
  refine sx_drop ?_
  refine sx_drop ?_
  exact q_k (PartIs.of hF ⟨_, rfl, B21, d21, rfl, hB21, hd21, hm21⟩)

theorem ordered_Part (I : IMap) (v : Value) (l : List Part) (hv : RdS I v l) (f : FuncId) (nm : Part → ByteArray) (hp : ∀ x vs, Enc.rd I vs x → FnV Tryz.prog f #[.agg vs.toArray] I (.string (nm x))) :
    FnV Tryz.prog 211 #[v, .func (.func f) #[] #[]] I (.bool (ordF nm l)) := by
 obtain ⟨A, c0, rfl, hA, hc, hm⟩ := hv
 refine enter Tryz.func211 Tryz.call211 rfl Tryz.ntmps211 rfl (fun w0 => ?_)
 refine go 12 ?_
 refine c_loop (α := Nat) 1 (fun i => I)
  (fun i => [(0, .slice A l.length c0), (1, .func (.func f) #[] #[]), (5, .int .i64 (i : Int))])
  (fun i => [])
  (fun i => 1 ≤ i ∧ (i ≤ l.length ∨ i = 1) ∧ allP (ordAt nm) l i = true)
  (fun i => l.length - i) ⟨by omega, .inr rfl, ord_start (nm := nm) l⟩ rfl sb rfl ?_
 intro i ⟨h1, hi, hn⟩
 refine go 9 ?_
 refine cb rfl (fun h9 p9 => ?_) (fun h9 p9 => ?_)
 ·have hlt : i < l.length := by omega
  refine go 5 ?_
  refine d_startH T.mixed ?_
  refine d_tv 0 rfl rfl (by kernel_rfl) rfl .slnil rfl (v_move rfl) ?_
  refine d_tv 1 rfl rfl (by kernel_rfl) rfl .slnil rfl (v_move rfl) ?_
  refine d_tv 2 rfl rfl (by kernel_rfl) rfl .slnil rfl (v_move rfl) ?_
  refine d_tv 3 rfl rfl (by kernel_rfl) rfl .slnil rfl (v_sub rfl rfl ⟨by omega, by omega⟩) ?_
  obtain ⟨b16, o16, w16, e16, c16, r16⟩ := RdA.at_ hA (i := i - 1) (by omega)
  refine d_tv 4 rfl rfl (by kernel_rfl) rfl .slnil rfl (v_idx he rfl rfl e16 (i - 1) (by omega) (by omega)) ?_
  refine d_tv 5 rfl rfl (by kernel_rfl) rfl .slnil rfl (v_ldIa he rfl c16 (Enc.len r16)) ?_
  refine d_tv 7 rfl rfl (by kernel_rfl) rfl .slnil rfl (v_move rfl) ?_
  refine d_tv 8 rfl rfl (by kernel_rfl) rfl .slnil rfl (v_move rfl) ?_
  refine d_tv 9 rfl rfl (by kernel_rfl) rfl .slnil rfl (v_move rfl) ?_
  obtain ⟨b22, o22, w22, e22, c22, r22⟩ := RdA.at_ hA (i := i) hlt
  refine d_tv 10 rfl rfl (by kernel_rfl) rfl .slnil rfl (v_idx he rfl rfl e22 (i) (by omega) hlt) ?_
  refine d_tv 11 rfl rfl (by kernel_rfl) rfl .slnil rfl (v_ldIa he rfl c22 (Enc.len r22)) ?_
  refine d_one 6 (by kernel_rfl) rfl ?_
  refine o_callV (hp _ _ r16) rfl rfl ?_
  refine d_on (fun _ m => m.keeps .slnil) ?_
  refine d_one 12 (by kernel_rfl) rfl ?_
  refine o_callV (hp _ _ r22) rfl rfl ?_
  refine d_on (fun _ m => m.keeps .slnil) ?_
  refine d_tv 13 rfl rfl (by kernel_rfl) rfl .slnil rfl (v_sgeq rfl rfl) ?_
  refine d_done (by kernel_rfl) ?_
  refine go 1 ?_
  refine cb rfl (fun h25 p25 => ?_) (fun h25 p25 => ?_)
  ·refine go 11 ?_
   refine fin1 rfl rfl ?_
   exact q_v (congrArg Value.bool (ord_not h1 hlt (by simpa using h25)).symm)
  ·refine go 9 ?_
   exact q_next (i + 1) ⟨by omega, .inl (by omega), ord_succ h1 hlt hn (by simpa using h25)⟩ (by omega) rfl sb rfl
 ·refine go 11 ?_
  refine fin1 rfl rfl ?_
  exact q_v (congrArg Value.bool (show ordF nm l = true from allP_le (by omega) hn).symm)

theorem ordered_Prp (I : IMap) (v : Value) (l : List Prp) (hv : RdS I v l) (f : FuncId) (nm : Prp → ByteArray) (hp : ∀ x vs, Enc.rd I vs x → FnV Tryz.prog f #[.agg vs.toArray] I (.string (nm x))) :
    FnV Tryz.prog 261 #[v, .func (.func f) #[] #[]] I (.bool (ordF nm l)) := by
 obtain ⟨A, c0, rfl, hA, hc, hm⟩ := hv
 refine enter Tryz.func261 Tryz.call261 rfl Tryz.ntmps261 rfl (fun w0 => ?_)
 refine go 12 ?_
 refine c_loop (α := Nat) 1 (fun i => I)
  (fun i => [(0, .slice A l.length c0), (1, .func (.func f) #[] #[]), (5, .int .i64 (i : Int))])
  (fun i => [])
  (fun i => 1 ≤ i ∧ (i ≤ l.length ∨ i = 1) ∧ allP (ordAt nm) l i = true)
  (fun i => l.length - i) ⟨by omega, .inr rfl, ord_start (nm := nm) l⟩ rfl sb rfl ?_
 intro i ⟨h1, hi, hn⟩
 refine go 9 ?_
 refine cb rfl (fun h9 p9 => ?_) (fun h9 p9 => ?_)
 ·have hlt : i < l.length := by omega
  refine go 5 ?_
  refine d_startH T.mixed ?_
  refine d_tv 0 rfl rfl (by kernel_rfl) rfl .slnil rfl (v_move rfl) ?_
  refine d_tv 1 rfl rfl (by kernel_rfl) rfl .slnil rfl (v_move rfl) ?_
  refine d_tv 2 rfl rfl (by kernel_rfl) rfl .slnil rfl (v_move rfl) ?_
  refine d_tv 3 rfl rfl (by kernel_rfl) rfl .slnil rfl (v_sub rfl rfl ⟨by omega, by omega⟩) ?_
  obtain ⟨b16, o16, w16, e16, c16, r16⟩ := RdA.at_ hA (i := i - 1) (by omega)
  refine d_tv 4 rfl rfl (by kernel_rfl) rfl .slnil rfl (v_idx he rfl rfl e16 (i - 1) (by omega) (by omega)) ?_
  refine d_tv 5 rfl rfl (by kernel_rfl) rfl .slnil rfl (v_ldIa he rfl c16 (Enc.len r16)) ?_
  refine d_tv 7 rfl rfl (by kernel_rfl) rfl .slnil rfl (v_move rfl) ?_
  refine d_tv 8 rfl rfl (by kernel_rfl) rfl .slnil rfl (v_move rfl) ?_
  refine d_tv 9 rfl rfl (by kernel_rfl) rfl .slnil rfl (v_move rfl) ?_
  obtain ⟨b22, o22, w22, e22, c22, r22⟩ := RdA.at_ hA (i := i) hlt
  refine d_tv 10 rfl rfl (by kernel_rfl) rfl .slnil rfl (v_idx he rfl rfl e22 (i) (by omega) hlt) ?_
  refine d_tv 11 rfl rfl (by kernel_rfl) rfl .slnil rfl (v_ldIa he rfl c22 (Enc.len r22)) ?_
  refine d_one 6 (by kernel_rfl) rfl ?_
  refine o_callV (hp _ _ r16) rfl rfl ?_
  refine d_on (fun _ m => m.keeps .slnil) ?_
  refine d_one 12 (by kernel_rfl) rfl ?_
  refine o_callV (hp _ _ r22) rfl rfl ?_
  refine d_on (fun _ m => m.keeps .slnil) ?_
  refine d_tv 13 rfl rfl (by kernel_rfl) rfl .slnil rfl (v_sgeq rfl rfl) ?_
  refine d_done (by kernel_rfl) ?_
  refine go 1 ?_
  refine cb rfl (fun h25 p25 => ?_) (fun h25 p25 => ?_)
  ·refine go 11 ?_
   refine fin1 rfl rfl ?_
   exact q_v (congrArg Value.bool (ord_not h1 hlt (by simpa using h25)).symm)
  ·refine go 9 ?_
   exact q_next (i + 1) ⟨by omega, .inl (by omega), ord_succ h1 hlt hn (by simpa using h25)⟩ (by omega) rfl sb rfl
 ·refine go 11 ?_
  refine fin1 rfl rfl ?_
  exact q_v (congrArg Value.bool (show ordF nm l = true from allP_le (by omega) hn).symm)

theorem right1 (I : IMap) (x : Ivl) :
    FnV Tryz.prog 259 #[.agg x.cells.toArray] I (.bool (lifeOk x)) := by
 refine enter Tryz.func259 Tryz.call259 rfl Tryz.ntmps259 rfl (fun w0 => ?_)
 refine go 3 ?_
 refine o_box _ rfl rfl rfl (fun g1 => ?_)
 refine go 9 ?_
 refine sxb 6 rfl (fun h6 p6 => ?_) (fun h6 p6 => ?_)
 ·refine go 7 ?_
  refine sxb 13 rfl (fun h13 p13 => ?_) (fun h13 p13 => ?_)
  ·refine go 8 ?_
   refine fin1 rfl rfl ?_
   exact q_v (congrArg Value.bool (by simp only [lifeOk, h6, h13, bS]))
  ·refine go 8 ?_
   refine fin1 rfl rfl ?_
   exact q_v (congrArg Value.bool (by simp only [lifeOk, h6, h13, bS]))
 ·refine go 15 ?_
  refine fin1 rfl rfl ?_
  exact q_v (congrArg Value.bool (by simp only [lifeOk, h6, bS]))

theorem right2 (I : IMap) (x : Prp) (hs : Sm x.key) :
    FnV Tryz.prog 260 #[.agg x.cells.toArray] I (.bool (propOk x)) := by
 refine enter Tryz.func260 Tryz.call260 rfl Tryz.ntmps260 rfl (fun w0 => ?_)
 refine go 3 ?_
 refine o_box _ rfl rfl rfl (fun g1 => ?_)
 refine go 8 ?_
 refine o_callV (lexName _ _ hs) rfl rfl ?_
 refine go 1 ?_
 refine sxb 6 rfl (fun h6 p6 => ?_) (fun h6 p6 => ?_)
 ·refine go 5 ?_
  refine sxb 11 rfl (fun h11 p11 => ?_) (fun h11 p11 => ?_)
  ·refine go 9 ?_
   refine fin1 rfl rfl ?_
   exact q_v (congrArg Value.bool (by simp only [propOk, h6, h11, bS]))
  ·refine go 9 ?_
   refine fin1 rfl rfl ?_
   exact q_v (congrArg Value.bool (by simp only [propOk, h6, h11, bS]))
 ·refine go 14 ?_
  refine fin1 rfl rfl ?_
  exact q_v (congrArg Value.bool (by simp only [propOk, h6, bS]))

theorem right3 (I : IMap) (x : Prp) (vs : List Value) (h : Enc.rd I vs x) :
    FnV Tryz.prog 262 #[.agg vs.toArray] I (.string x.key) := by
 obtain rfl := h
 refine enter Tryz.func262 Tryz.call262 rfl Tryz.ntmps262 rfl (fun w0 => ?_)
 refine go 3 ?_
 refine o_box _ rfl rfl rfl (fun g1 => ?_)
 refine go 11 ?_
 refine fin1 rfl rfl ?_
 exact q_v rfl

theorem valid1 (I : IMap) (x : Part) (vs : List Value) (h : Enc.rd I vs x) :
    FnV Tryz.prog 212 #[.agg vs.toArray] I (.string x.name) := by
 obtain ⟨q, rfl, B, d, rfl, hB, hd, hm⟩ := h
 refine enter Tryz.func212 Tryz.call212 rfl Tryz.ntmps212 rfl (fun w0 => ?_)
 refine go 3 ?_
 refine o_box _ rfl rfl rfl (fun g1 => ?_)
 refine go 11 ?_
 refine fin1 rfl rfl ?_
 exact q_v rfl

theorem apply11 (I : IMap) (x : Part) (vs : List Value) (h : Enc.rd I vs x) :
    FnV Tryz.prog 147 #[.agg vs.toArray] I (.string x.name) := by
 obtain ⟨q, rfl, B, d, rfl, hB, hd, hm⟩ := h
 refine enter Tryz.func147 Tryz.call147 rfl Tryz.ntmps147 rfl (fun w0 => ?_)
 refine go 3 ?_
 refine o_box _ rfl rfl rfl (fun g1 => ?_)
 refine go 11 ?_
 refine fin1 rfl rfl ?_
 exact q_v rfl

theorem apply5 (I : IMap) (x : Prp) (vs : List Value) (h : Enc.rd I vs x) :
    FnV Tryz.prog 155 #[.agg vs.toArray] I (.string x.key) := by
 obtain rfl := h
 refine enter Tryz.func155 Tryz.call155 rfl Tryz.ntmps155 rfl (fun w0 => ?_)
 refine go 3 ?_
 refine o_box _ rfl rfl rfl (fun g1 => ?_)
 refine go 11 ?_
 refine fin1 rfl rfl ?_
 exact q_v rfl

theorem flRight (I : IMap) (v : Value) (l : List Kind) (hv : RdS I v l) (p : Part) (D : Option Addr) (d : Nat) (hD : RdS I (.slice D p.props.length d) p.props) (hs : SmP p) :
    FnV Tryz.prog 213 #[.agg #[v], .agg (p.cells (.slice D p.props.length d)).toArray] I (.bool (rightP l p)) := by
 have hDA : RdA I D p.props := (by obtain ⟨_, _, e, h, _⟩ := hD; cases e; exact h)
 have hDl : p.props.length ≤ d ∧ d ≤ 9223372036854775807 := (by obtain ⟨_, _, e, h, h1, h2⟩ := hD; cases e; exact ⟨h1, h2⟩)
 refine enter Tryz.func213 Tryz.call213 rfl Tryz.ntmps213 rfl (fun w0 => ?_)
 refine go 3 ?_
 refine o_box _ rfl rfl rfl (fun g2 => ?_)
 refine go 1 ?_
 refine o_box _ rfl rfl rfl (fun g3 => ?_)
 refine go 20 ?_
 refine o_callE (catFind I _ l hv p.kind) rfl rfl (fun v15 q15 => ?_)
 obtain ⟨vs, rfl, ss, rfl, hsl⟩ := q15
 refine go 4 ?_
 refine o_alloc he rfl (fun g7 => ?_)
 refine go 1 ?_
 refine o_stw _ he rfl rfl rfl rfl rfl (by simp [Kind.cells, hsl.one]; exact ⟨rfl, rfl⟩) ?_
 refine go 4 ?_
 refine c_cut (I' := I) (L' := [(2, .pointer (some ⟨g2, 0, none⟩)), (3, .pointer (some ⟨g3, 0, none⟩)), (5, .func (.func 259) #[] #[]), (6, .func (.func 260) #[] #[]), (48, .bool (partBad l p))]) (H' := [.blk g3 48 (p.cells (.slice D p.props.length d)), .blk g2 24 [v]]) ?_ ?_
 ·refine go 4 ?_
  refine sxb 20 rfl (fun h20 p20 => ?_) (fun h20 p20 => ?_)
  ·refine go 30 ?_
   refine sx_drop ?_
   exact q_cut ⟨rfl, rfl, rfl, rfl, (congrArg (fun b => some (Value.bool b)) (by simp only [partBad, h20, bS])), trivial⟩ rfl rfl
  ·refine go 3 ?_
   refine o_yes rfl rfl h20 (o_callV (lexName _ _ hs.1) rfl rfl ?_)
   refine go 3 ?_
   refine sxb 26 rfl (fun h26 p26 => ?_) (fun h26 p26 => ?_)
   ·refine go 24 ?_
    refine sx_drop ?_
    exact q_cut ⟨rfl, rfl, rfl, rfl, (congrArg (fun b => some (Value.bool b)) (by simp only [partBad, h20, h26, bS])), trivial⟩ rfl rfl
   ·refine go 5 ?_
    refine sxb 31 rfl (fun h31 p31 => ?_) (fun h31 p31 => ?_)
    ·refine go 19 ?_
     refine sx_drop ?_
     exact q_cut ⟨rfl, rfl, rfl, rfl, (congrArg (fun b => some (Value.bool b)) (by simp only [partBad, h20, h26, h31, bS])), trivial⟩ rfl rfl
    ·refine go 7 ?_
     refine sxb 38 rfl (fun h38 p38 => ?_) (fun h38 p38 => ?_)
     ·refine go 12 ?_
      refine sx_drop ?_
      exact q_cut ⟨rfl, rfl, rfl, rfl, (congrArg (fun b => some (Value.bool b)) (by simp only [partBad, h20, h26, h31, h38, bS])), trivial⟩ rfl rfl
     ·refine go 5 ?_
      refine sxb 43 rfl (fun h43 p43 => ?_) (fun h43 p43 => ?_)
      ·refine go 7 ?_
       refine sx_drop ?_
       exact q_cut ⟨rfl, rfl, rfl, rfl, (congrArg (fun b => some (Value.bool b)) (by simp only [partBad, h20, h26, h31, h38, h43, bS])), trivial⟩ rfl rfl
      ·refine go 7 ?_
       refine sx_drop ?_
       exact q_cut ⟨rfl, rfl, rfl, rfl, (congrArg (fun b => some (Value.bool b)) (by simp only [partBad, h20, h26, h31, h38, h43, bS])), trivial⟩ rfl rfl
 ·refine cb rfl (fun h48 p48 => ?_) (fun h48 p48 => ?_)
  ·refine go 7 ?_
   refine fin1 rfl rfl ?_
   exact q_v (congrArg Value.bool (by simp only [rightP, h48]; rfl))
  ·refine go 12 ?_
   refine c_loop (α := Nat) 0 (fun i => I)
    (fun i => [(2, .pointer (some ⟨g2, 0, none⟩)), (3, .pointer (some ⟨g3, 0, none⟩)), (5, .func (.func 259) #[] #[]), (6, .func (.func 260) #[] #[]), (50, .slice D p.props.length d), (51, .int .i64 (p.props.length : Int)), (52, .int .i64 (i : Int))])
    (fun i => [.blk g3 48 (p.cells (.slice D p.props.length d)), .blk g2 24 [v]])
    (fun i => i ≤ p.props.length ∧ allP (fun _ q => propOk q) p.props i = true)
    (fun i => p.props.length - i) ⟨Nat.zero_le _, rfl⟩ rfl sb rfl ?_
   intro i ⟨hi, hn⟩
   refine go 6 ?_
   refine cb rfl (fun h53 p53 => ?_) (fun h53 p53 => ?_)
   ·have hlt : i < p.props.length := by omega
    refine go 6 ?_
    obtain ⟨b54, o54, w54, e54, c54, r54⟩ := RdA.at_ hDA (i := i) hlt
    obtain rfl := r54
    refine o_v rfl (v_idx he rfl rfl e54 (i) (by omega) hlt) ?_
    refine o_v rfl (v_ldIa he rfl c54 rfl) ?_
    refine go 1 ?_
    refine o_alloc he rfl (fun g10 => ?_)
    refine go 1 ?_
    refine o_stw _ he rfl rfl rfl rfl rfl rfl ?_
    refine go 7 ?_
    refine o_callV (right2 _ p.props[i] (hs.2 _ (List.getElem_mem hlt))) rfl rfl ?_
    refine go 3 ?_
    refine cb rfl (fun h59 p59 => ?_) (fun h59 p59 => ?_)
    ·refine go 11 ?_
     refine fin1 rfl rfl ?_
     exact q_v (congrArg Value.bool (by simp only [rightP, h48, allP_not (f := fun _ q => propOk q) hlt (by simpa using h59), bS]))
    ·refine go 8 ?_
     refine sx_drop ?_
     exact q_next (i + 1) ⟨by omega, allP_succ hn hlt (by simpa using h59)⟩ (by omega) rfl sb rfl
   ·have hAll : allP (fun _ q => propOk q) p.props p.props.length = true := (show i = p.props.length by omega) ▸ hn
    refine go 10 ?_
    refine o_callV (ordered_Prp _ _ p.props hD _ Prp.key (fun x vs hr => right3 _ x vs hr)) rfl rfl ?_
    refine go 1 ?_
    refine sxb 64 rfl (fun h64 p64 => ?_) (fun h64 p64 => ?_)
    ·refine go 3 ?_
     refine o_cons (o_yes rfl rfl h64 (o_val rfl (v_ldp (p.life.km.cells) m0 he rfl rfl rfl) ?_))
     refine go 1 ?_
     refine o_yes rfl rfl h64 (o_callV (right1 _ p.life.km) rfl rfl ?_)
     refine go 2 ?_
     refine sxb 71 rfl (fun h71 p71 => ?_) (fun h71 p71 => ?_)
     ·refine go 3 ?_
      refine o_cons (o_yes rfl rfl h71 (o_val rfl (v_ldp (p.life.cycles.cells) m0 he rfl rfl rfl) ?_))
      refine go 1 ?_
      refine o_yes rfl rfl h71 (o_callV (right1 _ p.life.cycles) rfl rfl ?_)
      refine go 2 ?_
      refine sxb 78 rfl (fun h78 p78 => ?_) (fun h78 p78 => ?_)
      ·refine go 3 ?_
       refine o_cons (o_yes rfl rfl h78 (o_val rfl (v_ldp (p.life.damage.cells) m0 he rfl rfl rfl) ?_))
       refine go 1 ?_
       refine o_yes rfl rfl h78 (o_callV (right1 _ p.life.damage) rfl rfl ?_)
       refine go 5 ?_
       refine fin1 rfl rfl ?_
       exact q_v (congrArg Value.bool (by simp only [rightP, h48, hAll, h53, h64, h71, h78, bS]))
      ·refine go 10 ?_
       refine fin1 rfl rfl ?_
       exact q_v (congrArg Value.bool (by simp only [rightP, h48, hAll, h53, h64, h71, h78, bS]))
     ·refine go 17 ?_
      refine fin1 rfl rfl ?_
      exact q_v (congrArg Value.bool (by simp only [rightP, h48, hAll, h53, h64, h71, bS]))
    ·refine go 24 ?_
     refine fin1 rfl rfl ?_
     exact q_v (congrArg Value.bool (by simp only [rightP, h48, hAll, h53, h64, bS]))

theorem eqS_seat (p q : ByteArray × ByteArray) : eqV Tryz.prog 9 278 (enc2 p) (enc2 q) = some (decide (p = q)) := by
  have e : eqV Tryz.prog 9 278 (enc2 p) (enc2 q) = some (decide (p.1 = q.1) && (decide (p.2 = q.2) && true)) := by kernel_rfl
  rw [e]
  obtain ⟨a, b⟩ := p
  obtain ⟨c, d⟩ := q
  simp

theorem flValid (I : IMap) (vc : Value) (c : List Kind) (hvc : RdS I vc c) (hsc : SmC c) (v : Value) (l : List Part) (hv : RdS I v l) (hsf : SmF l) :
    FnV Tryz.prog 144 #[.agg #[vc], .agg #[v]] I (.bool (validS c l)) := by
 have hv0 := hv
 obtain ⟨A, c0, rfl, hA, hc, hm⟩ := hv
 refine enter Tryz.func144 Tryz.call144 rfl Tryz.ntmps144 rfl (fun w0 => ?_)
 refine go 3 ?_
 refine o_box _ rfl rfl rfl (fun g2 => ?_)
 refine go 1 ?_
 refine o_box _ rfl rfl rfl (fun g3 => ?_)
 refine go 5 ?_
 refine c_cut (I' := I) (L' := [(2, .pointer (some ⟨g2, 0, none⟩)), (3, .pointer (some ⟨g3, 0, none⟩)), (26, .bool (bad0S c l))]) (H' := [.blk g3 53 [.slice A l.length c0], .blk g2 24 [vc]]) ?_ ?_
 ·refine go 3 ?_
  refine o_callV (catValid _ _ c hvc hsc) rfl rfl ?_
  refine go 2 ?_
  refine sxb 15 rfl (fun h15 p15 => ?_) (fun h15 p15 => ?_)
  ·refine go 13 ?_
   exact q_cut ⟨rfl, rfl, (congrArg (fun b => some (Value.bool b)) (by simp only [bad0S, h15, bS])), trivial⟩ rfl rfl
  ·refine go 6 ?_
   refine sxb 21 rfl (fun h21 p21 => ?_) (fun h21 p21 => ?_)
   ·refine go 7 ?_
    exact q_cut ⟨rfl, rfl, (congrArg (fun b => some (Value.bool b)) (by simp only [bad0S, h15, h21, bS])), trivial⟩ rfl rfl
   ·refine go 3 ?_
    refine o_yes rfl rfl h21 (o_callV (ordered_Part _ _ l hv0 _ Part.name (fun x vs hr => valid1 _ x vs hr)) rfl rfl ?_)
    refine go 4 ?_
    exact q_cut ⟨rfl, rfl, (congrArg (fun b => some (Value.bool b)) (by simp only [bad0S, h15, h21, bS])), trivial⟩ rfl rfl
 ·refine cb rfl (fun h26 p26 => ?_) (fun h26 p26 => ?_)
  ·refine go 7 ?_
   refine fin1 rfl rfl ?_
   exact q_v (congrArg Value.bool (by simp only [validS, h26]; rfl))
  ·refine go 6 ?_
   refine o_callX0 (flOf _ _ l hv0) rfl rfl (fun v28 s28 q28 => ?_)
   obtain ⟨m28, kvs, rfl, rfl, hIx, _⟩ := q28
   refine go 1 ?_
   refine o_alloc he rfl (fun g5 => ?_)
   refine go 1 ?_
   refine o_stw _ he rfl rfl rfl rfl rfl rfl ?_
   refine go 5 ?_
   refine o_map0 (enc2) he rfl (fun r29 => ?_)
   refine go 13 ?_
   refine bring4 ?_
   refine bring4 ?_
   refine bring3 ?_
   refine bring4 ?_
   refine bring4 ?_
   refine c_loop (α := Nat) 0 (fun i => I)
    (fun i => [(2, .pointer (some ⟨g2, 0, none⟩)), (3, .pointer (some ⟨g3, 0, none⟩)), (5, .pointer (some ⟨g5, 0, none⟩)), (6, .map (some r29)), (31, .slice A l.length c0), (32, .int .i64 (l.length : Int)), (33, .int .i64 (i : Int))])
    (fun i => [.mp r29 (emap enc2 (kvsOf seatOf (fun _ => .bool true) (seated (l.take i)))), .mp m28 (emap Value.string kvs), .blk g5 118 [.slice A l.length c0, .map (some m28)], .blk g3 53 [.slice A l.length c0], .blk g2 24 [vc]])
    (fun i => i ≤ l.length ∧ allP (partFine c l) l i = true)
    (fun i => l.length - i) ⟨Nat.zero_le _, rfl⟩ rfl sb rfl ?_
   intro i ⟨hi, hn⟩
   refine go 6 ?_
   refine cb rfl (fun h34 p34 => ?_) (fun h34 p34 => ?_)
   ·have hlt : i < l.length := by omega
    refine go 6 ?_
    obtain ⟨b35, o35, w35, e35, c35, r35⟩ := RdA.at_ hA (i := i) hlt
    obtain ⟨q35, rfl, B35, d35, rfl, hB35, hd35, hm35⟩ := r35
    refine o_v rfl (v_idx he rfl rfl e35 (i) (by omega) hlt) ?_
    refine o_v rfl (v_ldIa he rfl c35 rfl) ?_
    refine go 1 ?_
    refine o_alloc he rfl (fun g8 => ?_)
    refine go 1 ?_
    refine o_stw _ he rfl rfl rfl rfl rfl rfl ?_
    refine go 4 ?_
    refine c_cut (I' := I) (L' := [(2, .pointer (some ⟨g2, 0, none⟩)), (3, .pointer (some ⟨g3, 0, none⟩)), (5, .pointer (some ⟨g5, 0, none⟩)), (6, .map (some r29)), (31, .slice A l.length c0), (32, .int .i64 (l.length : Int)), (33, .int .i64 (i : Int)), (8, .pointer (some ⟨g8, 0, none⟩)), (49, .bool (bad1P c l[i]))]) (H' := [.blk g8 48 (l[i].cells (.slice B35 l[i].props.length d35)), .mp r29 (emap enc2 (kvsOf seatOf (fun _ => .bool true) (seated (l.take i)))), .mp m28 (emap Value.string kvs), .blk g5 118 [.slice A l.length c0, .map (some m28)], .blk g3 53 [.slice A l.length c0], .blk g2 24 [vc]]) ?_ ?_
    ·refine go 4 ?_
     refine o_callV (flRight _ _ c hvc l[i] B35 d35 ⟨_, _, rfl, hB35, hd35, hm35⟩ (hsf _ (List.getElem_mem hlt))) rfl rfl ?_
     refine go 2 ?_
     refine sxb 41 rfl (fun h41 p41 => ?_) (fun h41 p41 => ?_)
     ·refine go 10 ?_
      exact q_cut ⟨rfl, rfl, rfl, rfl, rfl, rfl, rfl, rfl, (congrArg (fun b => some (Value.bool b)) (by simp only [bad1P, h34, h41, bS])), trivial⟩ rfl rfl
     ·refine go 6 ?_
      refine o_cons (o_yes rfl rfl h41 (o_val rfl (v_bneq he rfl rfl) ?_))
      refine go 3 ?_
      exact q_cut ⟨rfl, rfl, rfl, rfl, rfl, rfl, rfl, rfl, (congrArg (fun b => some (Value.bool b)) (by simp only [bad1P, h34, h41, bS])), trivial⟩ rfl rfl
    ·refine cb rfl (fun h49 p49 => ?_) (fun h49 p49 => ?_)
     ·refine go 12 ?_
      refine fin1 rfl rfl ?_
      exact q_v (congrArg Value.bool (by simp only [validS, allP_not hlt (show partFine c l (l.take i) l[i] = false by simp only [partFine, h49]; rfl), bS]))
     ·refine go 10 ?_
      refine cb rfl (fun h52 p52 => ?_) (fun h52 p52 => ?_)
      ·refine go 9 ?_
       refine sx_drop ?_
       exact q_next (i + 1) ⟨by omega, allP_succ hn hlt (by simp only [partFine, h49, h52, bS])⟩ (by omega) rfl sb (by rw [seated_take hlt p52])
      ·refine go 8 ?_
       refine bring2 ?_
       refine o_callK (flGet _ _ l hv0 m28 kvs hIx l[i].into) rfl rfl (fun v57 q57 => ?_)
       obtain ⟨vs, rfl, s57, rfl, hs57⟩ := q57
       refine go 4 ?_
       refine o_alloc he rfl (fun g9 => ?_)
       refine go 1 ?_
       refine o_stw _ he rfl rfl rfl rfl rfl (Enc.one (α := Part) (I := I) (x := (findP l l[i].into).getD zPart) ⟨s57, rfl, hs57⟩) ?_
       refine go 10 ?_
       refine o_val rfl (v_build (pl := [(0, 1), (1, 1)]) he he rfl rfl) ?_
       refine go 1 ?_
       refine o_alloc he rfl (fun g11 => ?_)
       refine go 1 ?_
       refine o_stw _ he rfl rfl rfl rfl rfl rfl ?_
       refine go 4 ?_
       refine c_cut (I' := I) (L' := [(2, .pointer (some ⟨g2, 0, none⟩)), (3, .pointer (some ⟨g3, 0, none⟩)), (5, .pointer (some ⟨g5, 0, none⟩)), (6, .map (some r29)), (31, .slice A l.length c0), (32, .int .i64 (l.length : Int)), (33, .int .i64 (i : Int)), (8, .pointer (some ⟨g8, 0, none⟩)), (11, .pointer (some ⟨g11, 0, none⟩)), (90, .bool (bad2P c l (l.take i) l[i]))]) (H' := [.blk g11 278 [.string l[i].into, .string l[i].slot], .blk g8 48 (l[i].cells (.slice B35 l[i].props.length d35)), .mp r29 (emap enc2 (kvsOf seatOf (fun _ => .bool true) (seated (l.take i)))), .mp m28 (emap Value.string kvs), .blk g5 118 [.slice A l.length c0, .map (some m28)], .blk g3 53 [.slice A l.length c0], .blk g2 24 [vc]]) ?_ ?_
       ·refine go 4 ?_
        refine sxb 67 rfl (fun h67 p67 => ?_) (fun h67 p67 => ?_)
        ·refine go 25 ?_
         refine bring1 ?_
         refine sx_drop ?_
         refine bring6 ?_
         refine bring6 ?_
         refine bring6 ?_
         refine bring4 ?_
         refine bring6 ?_
         refine bring6 ?_
         refine bring6 ?_
         exact q_cut ⟨rfl, rfl, rfl, rfl, rfl, rfl, rfl, rfl, rfl, (congrArg (fun b => some (Value.bool b)) (by simp only [bad2P, h49, h52, h67, bS])), trivial⟩ rfl rfl
        ·refine go 4 ?_
         refine sxb 71 rfl (fun h71 p71 => ?_) (fun h71 p71 => ?_)
         ·refine go 21 ?_
          refine bring1 ?_
          refine sx_drop ?_
          refine bring6 ?_
          refine bring6 ?_
          refine bring6 ?_
          refine bring4 ?_
          refine bring6 ?_
          refine bring6 ?_
          refine bring6 ?_
          exact q_cut ⟨rfl, rfl, rfl, rfl, rfl, rfl, rfl, rfl, rfl, (congrArg (fun b => some (Value.bool b)) (by simp only [bad2P, h49, h52, h67, h71, bS])), trivial⟩ rfl rfl
         ·refine go 4 ?_
          refine sxb 75 rfl (fun h75 p75 => ?_) (fun h75 p75 => ?_)
          ·refine go 17 ?_
           refine bring1 ?_
           refine sx_drop ?_
           refine bring6 ?_
           refine bring6 ?_
           refine bring6 ?_
           refine bring4 ?_
           refine bring6 ?_
           refine bring6 ?_
           refine bring6 ?_
           exact q_cut ⟨rfl, rfl, rfl, rfl, rfl, rfl, rfl, rfl, rfl, (congrArg (fun b => some (Value.bool b)) (by simp only [bad2P, h49, h52, h67, h71, h75, bS])), trivial⟩ rfl rfl
          ·refine go 2 ?_
           refine o_cons (o_yes rfl rfl h75 (o_val rfl (v_get m4 (key_pair T.sp_278 eqS_seat) he he (seatOf l[i]) rfl rfl (kvs_hit1 seatOf _ _)) ?_))
           refine go 2 ?_
           refine sxb 80 rfl (fun h80 p80 => ?_) (fun h80 p80 => ?_)
           ·refine go 12 ?_
            refine bring1 ?_
            refine sx_drop ?_
            refine bring6 ?_
            refine bring6 ?_
            refine bring6 ?_
            refine bring4 ?_
            refine bring6 ?_
            refine bring6 ?_
            refine bring6 ?_
            exact q_cut ⟨rfl, rfl, rfl, rfl, rfl, rfl, rfl, rfl, rfl, (congrArg (fun b => some (Value.bool b)) (by simp only [bad2P, h49, h52, h67, h71, h75, h80, bS])), trivial⟩ rfl rfl
           ·refine o_cons (o_yes rfl rfl h80 (o_val rfl (v_ldw m7 he rfl rfl) ?_))
            refine go 7 ?_
            refine o_yes rfl rfl h80 (o_callV (catTakes _ _ c hvc ((findP l l[i].into).getD zPart).kind l[i].slot l[i].kind) rfl rfl ?_)
            refine go 4 ?_
            refine bring1 ?_
            refine sx_drop ?_
            refine bring6 ?_
            refine bring6 ?_
            refine bring6 ?_
            refine bring4 ?_
            refine bring6 ?_
            refine bring6 ?_
            refine bring6 ?_
            exact q_cut ⟨rfl, rfl, rfl, rfl, rfl, rfl, rfl, rfl, rfl, (congrArg (fun b => some (Value.bool b)) (by simp only [bad2P, h49, h52, h67, h71, h75, h80, bS])), trivial⟩ rfl rfl
       ·refine cb rfl (fun h90 p90 => ?_) (fun h90 p90 => ?_)
        ·refine go 12 ?_
         refine fin1 rfl rfl ?_
         exact q_v (congrArg Value.bool (by simp only [validS, allP_not hlt (show partFine c l (l.take i) l[i] = false by simp only [partFine, h52, h90]; simp), bS]))
        ·refine go 6 ?_
         have h90n : hit seatOf (seated (l.take i)) (seatOf l[i]) = false := by revert h90; simp only [bad2P]; cases hit seatOf (seated (l.take i)) (seatOf l[i]) <;> simp
         refine bring2 ?_
         refine o_mapPut (kvsOf seatOf (fun _ => .bool true) (seated (l.take (i + 1)))) (key_pair T.sp_278 eqS_seat) he (seatOf l[i]) rfl rfl rfl ((kvs_put seatOf (fun _ => .bool true) (seated (l.take i)) l[i] (hit_none h90n)).trans (by rw [seated_take' hlt p52])) ?_
         refine go 8 ?_
         refine bring1 ?_
         refine sx_drop ?_
         refine bring1 ?_
         refine sx_drop ?_
         exact q_next (i + 1) ⟨by omega, allP_succ hn hlt (by simp only [partFine, h49, h90, bS])⟩ (by omega) rfl sb rfl
   ·refine go 11 ?_
    refine fin1 rfl rfl ?_
    have e : i = l.length := (by omega)
    subst e
    exact q_v (congrArg Value.bool (by simp only [validS, h26, hn, bS]))

theorem bsearch_Part (I : IMap) (v : Value) (l : List Part) (hv : RdS I v l) (hl : l.length ≤ 1000000) (s : ByteArray) (f : FuncId) (cs : List Value) (nm : Part → ByteArray) (hp : ∀ x vs, Enc.rd I vs x → FnV Tryz.prog f ([Value.agg vs.toArray, Value.string s] ++ cs).toArray I (.int .i64 (cmpS (nm x) s))) (hs : Srt nm l) :
    FnV Tryz.prog 214 #[v, .string s, .func (.func f) #[] cs.toArray] I (.tuple #[.int .i64 (posF nm l s : Nat), .bool (atF nm l s)]) := by
 obtain ⟨A, c0, rfl, hA, hc, hm⟩ := hv
 refine enter Tryz.func214 Tryz.call214 rfl Tryz.ntmps214 rfl (fun w0 => ?_)
 refine go 22 ?_
 refine c_loop2 ((0 : Nat)) (l.length) (fun i j => I)
  (fun i j => [(0, .slice A l.length c0), (1, .string s), (2, .func (.func f) #[] cs.toArray), (8, .int .i64 (l.length : Int)), (9, .int .i64 (i : Int)), (10, .int .i64 (j : Int))])
  (fun i j => [])
  (fun i j => i ≤ j ∧ j ≤ l.length ∧ (∀ q x, q < i → l[q]? = some x → sLt (nm x) s = true) ∧ (∀ q x, j ≤ q → l[q]? = some x → sLt (nm x) s = false))
  (fun i j => j - i) ⟨Nat.zero_le _, Nat.le_refl _, fun q x h => absurd h (Nat.not_lt_zero q), fun q x h hx => by rw [List.getElem?_eq_none h] at hx; cases hx⟩ rfl sb rfl ?_
 intro i j ⟨hij, hj, hlo, hhi⟩
 refine go 8 ?_
 refine cb rfl (fun h17 p17 => ?_) (fun h17 p17 => ?_)
 ·have hlt : (i + j) / 2 < l.length := by omega
  refine go 8 ?_
  refine o_v rfl (v_conv he he rfl (m := (i : Int) + (j : Int)) (wrap_u64 _ (by omega) (by omega))) ?_
  refine o_v rfl (v_shr1 rfl (by decide)) ?_
  refine o_v rfl (v_conv he he rfl (m := (((i + j) / 2 : Nat) : Int)) (by rw [IntKind.wrap_i64]; omega)) ?_
  refine go 8 ?_
  obtain ⟨b27, o27, w27, e27, c27, r27⟩ := RdA.at_ hA (i := (i + j) / 2) hlt
  refine o_v rfl (v_idx he rfl rfl e27 ((i + j) / 2) (by omega) hlt) ?_
  refine o_v rfl (v_ldIa he rfl c27 (Enc.len r27)) ?_
  refine go 2 ?_
  refine o_callV (hp _ _ r27) rfl rfl ?_
  refine go 3 ?_
  refine cb rfl (fun h31 p31 => ?_) (fun h31 p31 => ?_)
  ·refine go 7 ?_
   exact q_next2 ((i + j) / 2 + 1) (j) ⟨by omega, hj, bs_lo hs hlt (cmpS_neg.1 p31), hhi⟩ (by omega) rfl sb rfl
  ·refine go 6 ?_
   exact q_next2 (i) ((i + j) / 2) ⟨by omega, by omega, hlo, bs_hi hs hlt (by simpa [cmpS_neg] using p31)⟩ (by omega) rfl sb rfl
 ·have hpos : posF nm l s = i := pos_eq (by omega) hlo (fun q x hq hx => hhi q x (by omega) hx)
  refine go 12 ?_
  refine sxb 39 rfl (fun h39 p39 => ?_) (fun h39 p39 => ?_)
  ·have hlt : i < l.length := by omega
   refine go 3 ?_
   obtain ⟨b43, o43, w43, e43, c43, r43⟩ := RdA.at_ hA (i := i) hlt
   refine o_cons (o_yes rfl rfl h39 (o_val rfl (v_idx he rfl rfl e43 (i) (by omega) hlt) ?_))
   refine o_cons (o_yes rfl rfl h39 (o_val rfl (v_ldIa he rfl c43 (Enc.len r43)) ?_))
   refine go 2 ?_
   refine o_yes rfl rfl h39 (o_callV (hp _ _ r43) rfl rfl ?_)
   refine go 7 ?_
   refine fin2 rfl rfl rfl ?_
   exact q_v (by rw [hpos, at_of hpos hlt]; simp only [cmpS_zero])
  ·refine go 14 ?_
   refine fin2 rfl rfl rfl ?_
   exact q_v (by rw [hpos, at_no hpos (by omega)])

theorem put1_Part (I : IMap) (x : Part) (vs : List Value) (h : Enc.rd I vs x) (s : ByteArray) (f : FuncId) (nm : Part → ByteArray) (hp : FnV Tryz.prog f #[.agg vs.toArray] I (.string (nm x))) (g : Nat) (hg : ICells I g 0 [.func (.func f) #[] #[]]) :
    FnV Tryz.prog 215 #[.agg vs.toArray, .string s, .pointer (some ⟨g, 0, none⟩)] I (.int .i64 (cmpS (nm x) s)) := by
 have hl := Enc.len h
 refine enter Tryz.func215 Tryz.call215 rfl Tryz.ntmps215 rfl (fun w0 => ?_)
 refine go 3 ?_
 refine o_box _ rfl rfl rfl (fun g3 => ?_)
 refine go 5 ?_
 refine o_v rfl (v_ldI he rfl (hg 0 _ rfl)) ?_
 refine o_v rfl (v_ldw m0 he rfl hl) ?_
 refine go 1 ?_
 refine o_callV (hp) rfl rfl ?_
 refine go 2 ?_
 refine o_callV (compare_string _ _ _) rfl rfl ?_
 refine go 4 ?_
 refine fin1 rfl rfl ?_
 exact q_v rfl

theorem bsearch_Prp (I : IMap) (v : Value) (l : List Prp) (hv : RdS I v l) (hl : l.length ≤ 1000000) (s : ByteArray) (f : FuncId) (cs : List Value) (nm : Prp → ByteArray) (hp : ∀ x vs, Enc.rd I vs x → FnV Tryz.prog f ([Value.agg vs.toArray, Value.string s] ++ cs).toArray I (.int .i64 (cmpS (nm x) s))) (hs : Srt nm l) :
    FnV Tryz.prog 221 #[v, .string s, .func (.func f) #[] cs.toArray] I (.tuple #[.int .i64 (posF nm l s : Nat), .bool (atF nm l s)]) := by
 obtain ⟨A, c0, rfl, hA, hc, hm⟩ := hv
 refine enter Tryz.func221 Tryz.call221 rfl Tryz.ntmps221 rfl (fun w0 => ?_)
 refine go 22 ?_
 refine c_loop2 ((0 : Nat)) (l.length) (fun i j => I)
  (fun i j => [(0, .slice A l.length c0), (1, .string s), (2, .func (.func f) #[] cs.toArray), (8, .int .i64 (l.length : Int)), (9, .int .i64 (i : Int)), (10, .int .i64 (j : Int))])
  (fun i j => [])
  (fun i j => i ≤ j ∧ j ≤ l.length ∧ (∀ q x, q < i → l[q]? = some x → sLt (nm x) s = true) ∧ (∀ q x, j ≤ q → l[q]? = some x → sLt (nm x) s = false))
  (fun i j => j - i) ⟨Nat.zero_le _, Nat.le_refl _, fun q x h => absurd h (Nat.not_lt_zero q), fun q x h hx => by rw [List.getElem?_eq_none h] at hx; cases hx⟩ rfl sb rfl ?_
 intro i j ⟨hij, hj, hlo, hhi⟩
 refine go 8 ?_
 refine cb rfl (fun h17 p17 => ?_) (fun h17 p17 => ?_)
 ·have hlt : (i + j) / 2 < l.length := by omega
  refine go 8 ?_
  refine o_v rfl (v_conv he he rfl (m := (i : Int) + (j : Int)) (wrap_u64 _ (by omega) (by omega))) ?_
  refine o_v rfl (v_shr1 rfl (by decide)) ?_
  refine o_v rfl (v_conv he he rfl (m := (((i + j) / 2 : Nat) : Int)) (by rw [IntKind.wrap_i64]; omega)) ?_
  refine go 8 ?_
  obtain ⟨b27, o27, w27, e27, c27, r27⟩ := RdA.at_ hA (i := (i + j) / 2) hlt
  refine o_v rfl (v_idx he rfl rfl e27 ((i + j) / 2) (by omega) hlt) ?_
  refine o_v rfl (v_ldIa he rfl c27 (Enc.len r27)) ?_
  refine go 2 ?_
  refine o_callV (hp _ _ r27) rfl rfl ?_
  refine go 3 ?_
  refine cb rfl (fun h31 p31 => ?_) (fun h31 p31 => ?_)
  ·refine go 7 ?_
   exact q_next2 ((i + j) / 2 + 1) (j) ⟨by omega, hj, bs_lo hs hlt (cmpS_neg.1 p31), hhi⟩ (by omega) rfl sb rfl
  ·refine go 6 ?_
   exact q_next2 (i) ((i + j) / 2) ⟨by omega, by omega, hlo, bs_hi hs hlt (by simpa [cmpS_neg] using p31)⟩ (by omega) rfl sb rfl
 ·have hpos : posF nm l s = i := pos_eq (by omega) hlo (fun q x hq hx => hhi q x (by omega) hx)
  refine go 12 ?_
  refine sxb 39 rfl (fun h39 p39 => ?_) (fun h39 p39 => ?_)
  ·have hlt : i < l.length := by omega
   refine go 3 ?_
   obtain ⟨b43, o43, w43, e43, c43, r43⟩ := RdA.at_ hA (i := i) hlt
   refine o_cons (o_yes rfl rfl h39 (o_val rfl (v_idx he rfl rfl e43 (i) (by omega) hlt) ?_))
   refine o_cons (o_yes rfl rfl h39 (o_val rfl (v_ldIa he rfl c43 (Enc.len r43)) ?_))
   refine go 2 ?_
   refine o_yes rfl rfl h39 (o_callV (hp _ _ r43) rfl rfl ?_)
   refine go 7 ?_
   refine fin2 rfl rfl rfl ?_
   exact q_v (by rw [hpos, at_of hpos hlt]; simp only [cmpS_zero])
  ·refine go 14 ?_
   refine fin2 rfl rfl rfl ?_
   exact q_v (by rw [hpos, at_no hpos (by omega)])

theorem put1_Prp (I : IMap) (x : Prp) (vs : List Value) (h : Enc.rd I vs x) (s : ByteArray) (f : FuncId) (nm : Prp → ByteArray) (hp : FnV Tryz.prog f #[.agg vs.toArray] I (.string (nm x))) (g : Nat) (hg : ICells I g 0 [.func (.func f) #[] #[]]) :
    FnV Tryz.prog 222 #[.agg vs.toArray, .string s, .pointer (some ⟨g, 0, none⟩)] I (.int .i64 (cmpS (nm x) s)) := by
 have hl := Enc.len h
 refine enter Tryz.func222 Tryz.call222 rfl Tryz.ntmps222 rfl (fun w0 => ?_)
 refine go 3 ?_
 refine o_box _ rfl rfl rfl (fun g3 => ?_)
 refine go 5 ?_
 refine o_v rfl (v_ldI he rfl (hg 0 _ rfl)) ?_
 refine o_v rfl (v_ldw m0 he rfl hl) ?_
 refine go 1 ?_
 refine o_callV (hp) rfl rfl ?_
 refine go 2 ?_
 refine o_callV (compare_string _ _ _) rfl rfl ?_
 refine go 4 ?_
 refine fin1 rfl rfl ?_
 exact q_v rfl

theorem clone_Part (I : IMap) (v : Value) (l : List Part) (hv : RdS I v l) (hl : l.length ≤ 1000000) :
    FnX Tryz.prog 94 #[v] I [] (fun u r => ∃ xss, r = .row u 48 14 l.length xss.flatten ∧ FlatC I xss l) := by
 have hv0 := hv
 obtain ⟨A, c0, rfl, hA, hc, hm⟩ := hv
 refine enter Tryz.func94 Tryz.call94 rfl Tryz.ntmps94 rfl (fun w0 => ?_)
 refine go 9 ?_
 refine o_v rfl (v_seqnil he rfl) ?_
 refine go 2 ?_
 refine cb rfl (fun h4 p4 => ?_) (fun h4 p4 => ?_)
 ·obtain rfl : l = [] := List.eq_nil_of_length_eq_zero (by rcases Nat.eq_zero_or_pos l.length with h | h; exact h; obtain ⟨_, _, e, _⟩ := hA h; subst e; cases h4)
  refine sx_nilrow 48 14 ?_
  refine go 7 ?_
  refine fin1 rfl rfl ?_
  exact q_x ⟨[], rfl, .nil⟩
 ·refine go 5 ?_
  refine o_buildSlice he he rfl rfl rfl rfl rfl rfl rfl (fun v5 => ?_)
  refine go 2 ?_
  refine o_appendR (hv0) rfl he he rfl rfl rfl rfl (by omega) (by omega) rfl (fun v7 x7 f7 => ?_)
  refine go 4 ?_
  refine fin1 rfl rfl ?_
  exact q_x (by obtain ⟨xss, rfl, hx⟩ := FlatC.of f7; exact ⟨xss, by rw [Nat.zero_add]; rfl, hx⟩)

theorem clone_Prp (I : IMap) (v : Value) (l : List Prp) (hv : RdS I v l) (hl : l.length ≤ 1000000) :
    FnX Tryz.prog 223 #[v] I [] (fun u r => ∃ xss, r = .row u 231 2 l.length xss.flatten ∧ FlatC I xss l) := by
 have hv0 := hv
 obtain ⟨A, c0, rfl, hA, hc, hm⟩ := hv
 refine enter Tryz.func223 Tryz.call223 rfl Tryz.ntmps223 rfl (fun w0 => ?_)
 refine go 9 ?_
 refine o_v rfl (v_seqnil he rfl) ?_
 refine go 2 ?_
 refine cb rfl (fun h4 p4 => ?_) (fun h4 p4 => ?_)
 ·obtain rfl : l = [] := List.eq_nil_of_length_eq_zero (by rcases Nat.eq_zero_or_pos l.length with h | h; exact h; obtain ⟨_, _, e, _⟩ := hA h; subst e; cases h4)
  refine sx_nilrow 231 2 ?_
  refine go 7 ?_
  refine fin1 rfl rfl ?_
  exact q_x ⟨[], rfl, .nil⟩
 ·refine go 5 ?_
  refine o_buildSlice he he rfl rfl rfl rfl rfl rfl rfl (fun v5 => ?_)
  refine go 2 ?_
  refine o_appendR (hv0) rfl he he rfl rfl rfl rfl (by omega) (by omega) rfl (fun v7 x7 f7 => ?_)
  refine go 4 ?_
  refine fin1 rfl rfl ?_
  exact q_x (by obtain ⟨xss, rfl, hx⟩ := FlatC.of f7; exact ⟨xss, by rw [Nat.zero_add]; rfl, hx⟩)

theorem clone_Evt (I : IMap) (v : Value) (l : List Evt) (hv : RdS I v l) (hl : l.length ≤ 1000000) :
    FnX Tryz.prog 88 #[v] I [] (fun u r => ∃ xss, r = .row u 96 14 l.length xss.flatten ∧ FlatC I xss l) := by
 have hv0 := hv
 obtain ⟨A, c0, rfl, hA, hc, hm⟩ := hv
 refine enter Tryz.func88 Tryz.call88 rfl Tryz.ntmps88 rfl (fun w0 => ?_)
 refine go 9 ?_
 refine o_v rfl (v_seqnil he rfl) ?_
 refine go 2 ?_
 refine cb rfl (fun h4 p4 => ?_) (fun h4 p4 => ?_)
 ·obtain rfl : l = [] := List.eq_nil_of_length_eq_zero (by rcases Nat.eq_zero_or_pos l.length with h | h; exact h; obtain ⟨_, _, e, _⟩ := hA h; subst e; cases h4)
  refine sx_nilrow 96 14 ?_
  refine go 7 ?_
  refine fin1 rfl rfl ?_
  exact q_x ⟨[], rfl, .nil⟩
 ·refine go 5 ?_
  refine o_buildSlice he he rfl rfl rfl rfl rfl rfl rfl (fun v5 => ?_)
  refine go 2 ?_
  refine o_appendR (hv0) rfl he he rfl rfl rfl rfl (by omega) (by omega) rfl (fun v7 x7 f7 => ?_)
  refine go 4 ?_
  refine fin1 rfl rfl ?_
  exact q_x (by obtain ⟨xss, rfl, hx⟩ := FlatC.of f7; exact ⟨xss, by rw [Nat.zero_add]; rfl, hx⟩)

theorem ext_overlaps_Part (args : Array Value) (w : World) : (callFunc 263 args).run Tryz.prog w = ((Extern.SlicesOverlaps.overlaps #[51, 51] #[4] args).run Tryz.prog w).andThen fun v w' => .ok (.value v) w' := by
  have h1 : Extern.findNext Tryz.f263 = none := by kernel_rfl
  have h2 : Extern.find Tryz.f263 = some (Extern.SlicesOverlaps.overlaps #[51, 51] #[4]) := by kernel_rfl
  have h3 : (Tryz.f263.name == "runtime.NumGoroutine") = false := by kernel_rfl
  have h4 : Tryz.f263.body.isNone = true := rfl
  simp only [callFunc, Sem.run_bind, run_program, Result.andThen_ok, Tryz.func263, h3, h4, h1, h2]
  simp
theorem overlaps_Part (I : IMap) (b g la ca lb cb o : Nat) (c : List Value) (cs : List Value) (tt : Nat) (B : Option Addr) (hB : B = some ⟨g, o, none⟩) (hb : I b = some (.cells c.toArray tt (0, 0))) (hcs : cs.length ≠ 0) :
    FnK Tryz.prog 263 #[.slice (some ⟨b, 0, none⟩) la ca, .slice B lb cb] I (.blk g 48 cs) (fun u => u = .bool false) := by
  subst hB
  refine ⟨fun w m => ?_⟩
  unfold After
  have hg : w.heap[g]? = some (.cells cs.toArray 48 (0, 0)) := m.blk
  have hbw := m.con b _ hb
  have hne : b ≠ g := by
    rintro rfl
    have := (m.priv _ (List.mem_cons_self ..) b rfl).1
    rw [hb] at this; cases this
  rw [ext_overlaps_Part, Lib.run_overlaps_apart (P := Tryz.prog) w 51 4 48 he 14 (fun w => (tyK_spec he w).2) ⟨b, 0, none⟩ ⟨g, o, none⟩ la ca lb cb hne tt 48 c.length cs.length (by simp [World.shape?, hbw]) (by simp [World.shape?, hg]) hcs (by simp [World.frozen?, hbw]) (by simp [World.frozen?, hbw])]
  exact ⟨_, I, [_], rfl, m, rfl, rfl, rfl⟩

theorem insertNil_Part (I : IMap) (y : Value) (x : Part) (hy : RdS I y [x]) :
    FnX Tryz.prog 216 #[.slice none 0 0, .int .i64 0, y] I [] (fun u r => ∃ zss, r = .row u 48 14 1 zss.flatten ∧ FlatC I zss [x]) := by
 have hy0 := hy
 obtain ⟨Y, yc, rfl, hA, hc, hm⟩ := hy
 refine enter Tryz.func216 Tryz.call216 rfl Tryz.ntmps216 rfl (fun w0 => ?_)
 refine sx_nilrow 48 14 ?_
 refine go 9 ?_
 refine o_v rfl (v_slice_lo he rfl rfl 0 rfl (Nat.le_refl _)) ?_
 refine go 16 ?_
 refine c_false rfl ?_
 refine go 17 ?_
 refine c_true rfl ?_
 refine go 5 ?_
 refine o_appendR (hy0) rfl he he rfl rfl rfl rfl (by simp) (by simp) rfl (fun v25 x25 f25 => ?_)
 refine go 5 ?_
 refine fin1 rfl rfl ?_
 exact q_x (by obtain ⟨xss, rfl, hx⟩ := FlatC.of f25; exact ⟨xss, rfl, hx⟩)

theorem insertBlk_Part (I : IMap) (l : List Part) (xss rest : List (List Value)) (g cap i b yc : Nat) (hx : FlatC I xss l) (hR : Uk 14 rest) (hcap : l.length + rest.length = cap) (hmax : cap ≤ maxLen) (hl : l.length ≤ 1000000) (hi : i ≤ l.length) (x : Part) (c c2 : List Value) (hb : I b = some (.cells (c ++ c2).toArray 48 (0, 0))) (hc : Enc.rd I c x) (hyc : 1 ≤ yc) (hyc2 : yc ≤ 9223372036854775807) :
    FnX Tryz.prog 216 #[.slice (some ⟨g, 0, none⟩) l.length cap, .int .i64 (i : Nat), .slice (some ⟨b, 0, none⟩) 1 yc] I [(.blk g 48 (xss ++ rest).flatten)] (fun u r => ∃ zss, r = .row u 48 14 (l.length + 1) zss.flatten ∧ FlatC I zss (l.take i ++ x :: l.drop i)) := by
 have hU : Uk 14 xss := hx.uk
 have hlen := hx.len
 have hV1 : Uk 14 [c] := (fun d hd => by rw [List.mem_singleton.1 hd]; exact Enc.len hc)
 have hcI : ICells I b 0 c := (fun j u hu => ⟨_, _, _, hb, by rw [Nat.zero_add]; simpa using (List.getElem?_append_left (List.getElem?_eq_some_iff.1 hu).1).trans hu⟩)
 have hY : RdS I (.slice (some ⟨b, 0, none⟩) 1 yc) [x] := ⟨_, yc, rfl, fun _ => ⟨b, 0, rfl, fun q z hq => by cases q with | zero => (cases hq; exact ⟨c, by simpa using hcI, hc⟩) | succ q => simp at hq⟩, hyc, hyc2⟩
 refine enter Tryz.func216 Tryz.call216 rfl Tryz.ntmps216 rfl (fun w0 => ?_)
 refine go 9 ?_
 refine o_v rfl (v_slice_lo he rfl rfl i rfl hi) ?_
 refine go 16 ?_
 refine c_false rfl ?_
 refine go 17 ?_
 refine cb rfl (fun h22 p22 => ?_) (fun h22 p22 => ?_)
 ·obtain rfl : i = l.length := by omega
  refine go 5 ?_
  refine sx_unrow hU hR hlen hcap hmax ?_
  refine o_appendR (hY) rfl he he rfl rfl rfl rfl (by simp; omega) (by simp; omega) rfl (fun v25 x25 f25 => ?_)
  refine go 5 ?_
  refine fin1 rfl rfl ?_
  exact q_x (by obtain ⟨zss, rfl, hz⟩ := FlatC.of f25; exact ⟨xss ++ zss, by rw [List.flatten_append]; rfl, by rw [List.take_length, List.drop_length]; exact hx.append hz⟩)
 ·refine go 9 ?_
  refine o_v rfl (v_cap he rfl) ?_
  refine go 3 ?_
  refine cb rfl (fun h31 p31 => ?_) (fun h31 p31 => ?_)
  ·refine go 4 ?_
   refine o_v rfl (v_slice_hi he rfl rfl i rfl (by omega)) ?_
   refine go 4 ?_
   refine o_v rfl (OV.cast (u := .int .i64 ((l.length + 1 - i : Nat) : Int)) (v_sub rfl rfl ⟨by omega, by omega⟩) (congrArg (Value.int .i64) (by omega))) ?_
   refine go 1 ?_
   refine o_appendMake (xss.take i) he he he rfl rfl rfl rfl (hU.append hR) (by rw [List.length_take]; omega) (hU.take i) (fun _ => ⟨rfl, by rw [List.take_append_of_le_length (by omega)]⟩) (by omega) (by omega) (by omega) (by unfold maxLen; omega) rfl (fun g40 r40 hr40 => ?_)
   refine go 7 ?_
   refine o_v rfl (v_slice_lo he rfl rfl i rfl (by omega)) ?_
   refine go 2 ?_
   have hU1 : Uk 14 (xss.take i ++ List.replicate (l.length + 1 - i + r40) _) := (hU.take i).append (Uk.rep (c := [.string ⟨#[]⟩, .string ⟨#[]⟩, .string ⟨#[]⟩, .string ⟨#[]⟩, .int .i64 0, .int .i64 0, .bool false, .slice none 0 0, .int .i64 0, .int .i64 0, .int .i64 0, .int .i64 0, .int .i64 0, .int .i64 0]) rfl _)
   refine o_copy [c] i he rfl rfl (by simp; omega) hU1 hV1 (by simpa using Enc.one hc) (fun _ => cutA_some (by omega)) (fun _ => ⟨b, 0, rfl, fun w mm j u hu => (hcI j u (by simpa using hu)).at_ mm.con⟩) (by simp; omega) rfl ?_
   refine go 3 ?_
   refine d_start1 T.mixed ?_
   refine d_tv 0 rfl rfl (by kernel_rfl) rfl (.cons _ (.refl _)) rfl (v_move rfl) ?_
   refine d_tv 1 rfl rfl (by kernel_rfl) rfl (.cons _ (.refl _)) rfl (v_move rfl) ?_
   refine d_tv 2 rfl rfl (by kernel_rfl) rfl (.cons _ (.refl _)) rfl (v_move rfl) ?_
   refine d_tv 3 rfl rfl (by kernel_rfl) rfl (.cons _ (.refl _)) rfl (v_add rfl rfl ⟨by omega, by omega⟩) ?_
   refine d_tv 4 rfl rfl (by kernel_rfl) rfl (.cons _ (.refl _)) rfl (v_slice_lo he rfl rfl (i + 1) (by omega) (by omega)) ?_
   refine d_tv 5 rfl rfl (by kernel_rfl) rfl (.cons _ (.refl _)) rfl (v_move rfl) ?_
   refine d_tv 6 rfl rfl (by kernel_rfl) rfl (.cons _ (.refl _)) rfl (v_move rfl) ?_
   refine d_tv 7 rfl rfl (by kernel_rfl) rfl (.cons _ (.refl _)) rfl (v_slice_lo he rfl rfl i rfl (by omega)) ?_
   refine d_one 8 (by kernel_rfl) rfl ?_
   have hU2 := ((hU1.take i).append (hV1.append (hU1.drop (i + [c].length))))
   refine o_copy (xss.drop i) (i + 1) he rfl rfl (by simp; omega) hU2 (hU.drop i) (hx.drop i).one (fun _ => cutA_some (by omega)) (fun h => ⟨g, i * 14, cutA_some (by simp at h; omega), fun w mm j u hu => src_blk (o := i) (m := l.length - i) m1 (hU.append hR) w mm j u (by rw [List.drop_append_of_le_length (by omega), List.take_append_of_le_length (by simp; omega), List.take_of_length_le (by simp; omega)]; exact hu)⟩) (by simp; omega) rfl ?_
   refine d_on (fun _ m => m.keeps (.cons _ (.refl _))) ?_
   refine d_done (by kernel_rfl) ?_
   refine go 9 ?_
   refine fin1 rfl rfl ?_
   refine bring1 ?_
   refine sx_drop ?_
   refine sx_blk_eq (ins_grow hlen hi (by omega)) ?_
   refine sx_unrow (m := i + (l.length + 1 - i)) (cap := i + (l.length + 1 - i) + r40) ((hU.take i).append (fun d hd => by rcases List.mem_cons.1 hd with rfl | hd; exact Enc.len hc; exact hU.drop i d hd)) (Uk.rep rfl _) (by simp <;> omega) (by simp <;> omega) (by omega) ?_
   exact q_x (by exact ⟨_, by congr 1 <;> omega, (hx.take i).append (.cons hc (hx.drop i))⟩)
  ·have hr1 : 0 < rest.length := by omega
   refine go 8 ?_
   refine o_v rfl (v_slice_hi he rfl rfl (l.length + 1) (by omega) (by omega)) ?_
   refine go 11 ?_
   refine o_v rfl (v_slice_lo he rfl rfl (i + 1) (by omega) (by omega)) ?_
   refine go 1 ?_
   refine o_callK (overlaps_Part I b g 1 yc _ _ _ (c ++ c2) _ 48 _ (cutA_some (k := 14) (show i + 1 < cap by omega)) hb (by rw [flat_len (hU.append hR), List.length_append]; omega)) rfl rfl (fun v67 q67 => ?_)
   obtain rfl := q67
   refine go 3 ?_
   refine c_true rfl ?_
   refine go 1 ?_
   refine d_start1 T.mixed ?_
   refine d_tv 0 rfl rfl (by kernel_rfl) rfl (.cons _ .slnil) rfl (v_move rfl) ?_
   refine d_tv 1 rfl rfl (by kernel_rfl) rfl (.cons _ .slnil) rfl (v_move rfl) ?_
   refine d_tv 2 rfl rfl (by kernel_rfl) rfl (.cons _ .slnil) rfl (v_move rfl) ?_
   refine d_tv 3 rfl rfl (by kernel_rfl) rfl (.cons _ .slnil) rfl (v_add rfl rfl ⟨by omega, by omega⟩) ?_
   refine d_tv 4 rfl rfl (by kernel_rfl) rfl (.cons _ .slnil) rfl (v_slice_lo he rfl rfl (i + 1) (by omega) (by omega)) ?_
   refine d_tv 5 rfl rfl (by kernel_rfl) rfl (.cons _ .slnil) rfl (v_move rfl) ?_
   refine d_tv 6 rfl rfl (by kernel_rfl) rfl (.cons _ .slnil) rfl (v_move rfl) ?_
   refine d_tv 7 rfl rfl (by kernel_rfl) rfl (.cons _ .slnil) rfl (v_slice_lo he rfl rfl i rfl (by omega)) ?_
   refine d_one 8 (by kernel_rfl) rfl ?_
   refine o_copy (((xss ++ rest).drop i).take (l.length - i)) (i + 1) he rfl rfl (by simp; omega) (hU.append hR) (((hU.append hR).drop i).take _) (by rw [List.drop_append_of_le_length (by omega), List.take_append_of_le_length (by simp; omega)]; exact ((hx.drop i).take _).one) (fun _ => cutA_some (by omega)) (fun h => ⟨g, i * 14, cutA_some (by omega), fun w mm j u hu => src_blk (o := i) m0 (hU.append hR) w mm j u hu⟩) (by simp; omega) rfl ?_
   refine d_on (fun _ m => m.keeps (.cons _ .slnil)) ?_
   refine d_done (by kernel_rfl) ?_
   refine go 5 ?_
   refine o_v rfl (v_slice_lo he rfl rfl i rfl (by omega)) ?_
   refine go 2 ?_
   have hU3 := (((hU.append hR).take (i + 1)).append ((((hU.append hR).drop i).take (l.length - i)).append ((hU.append hR).drop (i + 1 + (((xss ++ rest).drop i).take (l.length - i)).length))))
   refine o_copy [c] i he rfl rfl (by simp; omega) hU3 hV1 (by simpa using Enc.one hc) (fun _ => cutA_some (by omega)) (fun _ => ⟨b, 0, rfl, fun w mm j u hu => (hcI j u (by simpa using hu)).at_ mm.con⟩) (by simp; omega) rfl ?_
   refine go 10 ?_
   refine fin1 rfl rfl ?_
   refine sx_blk_eq (ins_place hlen hi hr1) ?_
   refine sx_unrow (m := l.length + 1) (cap := cap) ((hU.take i).append (fun d hd => by rcases List.mem_cons.1 hd with rfl | hd; exact Enc.len hc; exact hU.drop i d hd)) (hR.drop 1) (by simp <;> omega) (by simp <;> omega) hmax ?_
   exact q_x (by exact ⟨_, by congr 1 <;> omega, (hx.take i).append (.cons hc (hx.drop i))⟩)

theorem ext_overlaps_Prp (args : Array Value) (w : World) : (callFunc 269 args).run Tryz.prog w = ((Extern.SlicesOverlaps.overlaps #[42, 42] #[4] args).run Tryz.prog w).andThen fun v w' => .ok (.value v) w' := by
  have h1 : Extern.findNext Tryz.f269 = none := by kernel_rfl
  have h2 : Extern.find Tryz.f269 = some (Extern.SlicesOverlaps.overlaps #[42, 42] #[4]) := by kernel_rfl
  have h3 : (Tryz.f269.name == "runtime.NumGoroutine") = false := by kernel_rfl
  have h4 : Tryz.f269.body.isNone = true := rfl
  simp only [callFunc, Sem.run_bind, run_program, Result.andThen_ok, Tryz.func269, h3, h4, h1, h2]
  simp
theorem overlaps_Prp (I : IMap) (b g la ca lb cb o : Nat) (c : List Value) (cs : List Value) (tt : Nat) (B : Option Addr) (hB : B = some ⟨g, o, none⟩) (hb : I b = some (.cells c.toArray tt (0, 0))) (hcs : cs.length ≠ 0) :
    FnK Tryz.prog 269 #[.slice (some ⟨b, 0, none⟩) la ca, .slice B lb cb] I (.blk g 231 cs) (fun u => u = .bool false) := by
  subst hB
  refine ⟨fun w m => ?_⟩
  unfold After
  have hg : w.heap[g]? = some (.cells cs.toArray 231 (0, 0)) := m.blk
  have hbw := m.con b _ hb
  have hne : b ≠ g := by
    rintro rfl
    have := (m.priv _ (List.mem_cons_self ..) b rfl).1
    rw [hb] at this; cases this
  rw [ext_overlaps_Prp, Lib.run_overlaps_apart (P := Tryz.prog) w 42 4 231 he 2 (fun w => (tyK_spec he w).2) ⟨b, 0, none⟩ ⟨g, o, none⟩ la ca lb cb hne tt 231 c.length cs.length (by simp [World.shape?, hbw]) (by simp [World.shape?, hg]) hcs (by simp [World.frozen?, hbw]) (by simp [World.frozen?, hbw])]
  exact ⟨_, I, [_], rfl, m, rfl, rfl, rfl⟩

theorem insertNil_Prp (I : IMap) (y : Value) (x : Prp) (hy : RdS I y [x]) :
    FnX Tryz.prog 224 #[.slice none 0 0, .int .i64 0, y] I [] (fun u r => ∃ zss, r = .row u 231 2 1 zss.flatten ∧ FlatC I zss [x]) := by
 have hy0 := hy
 obtain ⟨Y, yc, rfl, hA, hc, hm⟩ := hy
 refine enter Tryz.func224 Tryz.call224 rfl Tryz.ntmps224 rfl (fun w0 => ?_)
 refine sx_nilrow 231 2 ?_
 refine go 9 ?_
 refine o_v rfl (v_slice_lo he rfl rfl 0 rfl (Nat.le_refl _)) ?_
 refine go 16 ?_
 refine c_false rfl ?_
 refine go 17 ?_
 refine c_true rfl ?_
 refine go 5 ?_
 refine o_appendR (hy0) rfl he he rfl rfl rfl rfl (by simp) (by simp) rfl (fun v25 x25 f25 => ?_)
 refine go 5 ?_
 refine fin1 rfl rfl ?_
 exact q_x (by obtain ⟨xss, rfl, hx⟩ := FlatC.of f25; exact ⟨xss, rfl, hx⟩)

theorem insertBlk_Prp (I : IMap) (l : List Prp) (xss rest : List (List Value)) (g cap i b yc : Nat) (hx : FlatC I xss l) (hR : Uk 2 rest) (hcap : l.length + rest.length = cap) (hmax : cap ≤ maxLen) (hl : l.length ≤ 1000000) (hi : i ≤ l.length) (x : Prp) (c c2 : List Value) (hb : I b = some (.cells (c ++ c2).toArray 231 (0, 0))) (hc : Enc.rd I c x) (hyc : 1 ≤ yc) (hyc2 : yc ≤ 9223372036854775807) :
    FnX Tryz.prog 224 #[.slice (some ⟨g, 0, none⟩) l.length cap, .int .i64 (i : Nat), .slice (some ⟨b, 0, none⟩) 1 yc] I [(.blk g 231 (xss ++ rest).flatten)] (fun u r => ∃ zss, r = .row u 231 2 (l.length + 1) zss.flatten ∧ FlatC I zss (l.take i ++ x :: l.drop i)) := by
 have hU : Uk 2 xss := hx.uk
 have hlen := hx.len
 have hV1 : Uk 2 [c] := (fun d hd => by rw [List.mem_singleton.1 hd]; exact Enc.len hc)
 have hcI : ICells I b 0 c := (fun j u hu => ⟨_, _, _, hb, by rw [Nat.zero_add]; simpa using (List.getElem?_append_left (List.getElem?_eq_some_iff.1 hu).1).trans hu⟩)
 have hY : RdS I (.slice (some ⟨b, 0, none⟩) 1 yc) [x] := ⟨_, yc, rfl, fun _ => ⟨b, 0, rfl, fun q z hq => by cases q with | zero => (cases hq; exact ⟨c, by simpa using hcI, hc⟩) | succ q => simp at hq⟩, hyc, hyc2⟩
 refine enter Tryz.func224 Tryz.call224 rfl Tryz.ntmps224 rfl (fun w0 => ?_)
 refine go 9 ?_
 refine o_v rfl (v_slice_lo he rfl rfl i rfl hi) ?_
 refine go 16 ?_
 refine c_false rfl ?_
 refine go 17 ?_
 refine cb rfl (fun h22 p22 => ?_) (fun h22 p22 => ?_)
 ·obtain rfl : i = l.length := by omega
  refine go 5 ?_
  refine sx_unrow hU hR hlen hcap hmax ?_
  refine o_appendR (hY) rfl he he rfl rfl rfl rfl (by simp; omega) (by simp; omega) rfl (fun v25 x25 f25 => ?_)
  refine go 5 ?_
  refine fin1 rfl rfl ?_
  exact q_x (by obtain ⟨zss, rfl, hz⟩ := FlatC.of f25; exact ⟨xss ++ zss, by rw [List.flatten_append]; rfl, by rw [List.take_length, List.drop_length]; exact hx.append hz⟩)
 ·refine go 9 ?_
  refine o_v rfl (v_cap he rfl) ?_
  refine go 3 ?_
  refine cb rfl (fun h31 p31 => ?_) (fun h31 p31 => ?_)
  ·refine go 4 ?_
   refine o_v rfl (v_slice_hi he rfl rfl i rfl (by omega)) ?_
   refine go 4 ?_
   refine o_v rfl (OV.cast (u := .int .i64 ((l.length + 1 - i : Nat) : Int)) (v_sub rfl rfl ⟨by omega, by omega⟩) (congrArg (Value.int .i64) (by omega))) ?_
   refine go 1 ?_
   refine o_appendMake (xss.take i) he he he rfl rfl rfl rfl (hU.append hR) (by rw [List.length_take]; omega) (hU.take i) (fun _ => ⟨rfl, by rw [List.take_append_of_le_length (by omega)]⟩) (by omega) (by omega) (by omega) (by unfold maxLen; omega) rfl (fun g40 r40 hr40 => ?_)
   refine go 7 ?_
   refine o_v rfl (v_slice_lo he rfl rfl i rfl (by omega)) ?_
   refine go 2 ?_
   have hU1 : Uk 2 (xss.take i ++ List.replicate (l.length + 1 - i + r40) _) := (hU.take i).append (Uk.rep (c := [.string ⟨#[]⟩, .string ⟨#[]⟩]) rfl _)
   refine o_copy [c] i he rfl rfl (by simp; omega) hU1 hV1 (by simpa using Enc.one hc) (fun _ => cutA_some (by omega)) (fun _ => ⟨b, 0, rfl, fun w mm j u hu => (hcI j u (by simpa using hu)).at_ mm.con⟩) (by simp; omega) rfl ?_
   refine go 3 ?_
   refine d_start1 T.mixed ?_
   refine d_tv 0 rfl rfl (by kernel_rfl) rfl (.cons _ (.refl _)) rfl (v_move rfl) ?_
   refine d_tv 1 rfl rfl (by kernel_rfl) rfl (.cons _ (.refl _)) rfl (v_move rfl) ?_
   refine d_tv 2 rfl rfl (by kernel_rfl) rfl (.cons _ (.refl _)) rfl (v_move rfl) ?_
   refine d_tv 3 rfl rfl (by kernel_rfl) rfl (.cons _ (.refl _)) rfl (v_add rfl rfl ⟨by omega, by omega⟩) ?_
   refine d_tv 4 rfl rfl (by kernel_rfl) rfl (.cons _ (.refl _)) rfl (v_slice_lo he rfl rfl (i + 1) (by omega) (by omega)) ?_
   refine d_tv 5 rfl rfl (by kernel_rfl) rfl (.cons _ (.refl _)) rfl (v_move rfl) ?_
   refine d_tv 6 rfl rfl (by kernel_rfl) rfl (.cons _ (.refl _)) rfl (v_move rfl) ?_
   refine d_tv 7 rfl rfl (by kernel_rfl) rfl (.cons _ (.refl _)) rfl (v_slice_lo he rfl rfl i rfl (by omega)) ?_
   refine d_one 8 (by kernel_rfl) rfl ?_
   have hU2 := ((hU1.take i).append (hV1.append (hU1.drop (i + [c].length))))
   refine o_copy (xss.drop i) (i + 1) he rfl rfl (by simp; omega) hU2 (hU.drop i) (hx.drop i).one (fun _ => cutA_some (by omega)) (fun h => ⟨g, i * 2, cutA_some (by simp at h; omega), fun w mm j u hu => src_blk (o := i) (m := l.length - i) m1 (hU.append hR) w mm j u (by rw [List.drop_append_of_le_length (by omega), List.take_append_of_le_length (by simp; omega), List.take_of_length_le (by simp; omega)]; exact hu)⟩) (by simp; omega) rfl ?_
   refine d_on (fun _ m => m.keeps (.cons _ (.refl _))) ?_
   refine d_done (by kernel_rfl) ?_
   refine go 9 ?_
   refine fin1 rfl rfl ?_
   refine bring1 ?_
   refine sx_drop ?_
   refine sx_blk_eq (ins_grow hlen hi (by omega)) ?_
   refine sx_unrow (m := i + (l.length + 1 - i)) (cap := i + (l.length + 1 - i) + r40) ((hU.take i).append (fun d hd => by rcases List.mem_cons.1 hd with rfl | hd; exact Enc.len hc; exact hU.drop i d hd)) (Uk.rep rfl _) (by simp <;> omega) (by simp <;> omega) (by omega) ?_
   exact q_x (by exact ⟨_, by congr 1 <;> omega, (hx.take i).append (.cons hc (hx.drop i))⟩)
  ·have hr1 : 0 < rest.length := by omega
   refine go 8 ?_
   refine o_v rfl (v_slice_hi he rfl rfl (l.length + 1) (by omega) (by omega)) ?_
   refine go 11 ?_
   refine o_v rfl (v_slice_lo he rfl rfl (i + 1) (by omega) (by omega)) ?_
   refine go 1 ?_
   refine o_callK (overlaps_Prp I b g 1 yc _ _ _ (c ++ c2) _ 231 _ (cutA_some (k := 2) (show i + 1 < cap by omega)) hb (by rw [flat_len (hU.append hR), List.length_append]; omega)) rfl rfl (fun v67 q67 => ?_)
   obtain rfl := q67
   refine go 3 ?_
   refine c_true rfl ?_
   refine go 1 ?_
   refine d_start1 T.mixed ?_
   refine d_tv 0 rfl rfl (by kernel_rfl) rfl (.cons _ .slnil) rfl (v_move rfl) ?_
   refine d_tv 1 rfl rfl (by kernel_rfl) rfl (.cons _ .slnil) rfl (v_move rfl) ?_
   refine d_tv 2 rfl rfl (by kernel_rfl) rfl (.cons _ .slnil) rfl (v_move rfl) ?_
   refine d_tv 3 rfl rfl (by kernel_rfl) rfl (.cons _ .slnil) rfl (v_add rfl rfl ⟨by omega, by omega⟩) ?_
   refine d_tv 4 rfl rfl (by kernel_rfl) rfl (.cons _ .slnil) rfl (v_slice_lo he rfl rfl (i + 1) (by omega) (by omega)) ?_
   refine d_tv 5 rfl rfl (by kernel_rfl) rfl (.cons _ .slnil) rfl (v_move rfl) ?_
   refine d_tv 6 rfl rfl (by kernel_rfl) rfl (.cons _ .slnil) rfl (v_move rfl) ?_
   refine d_tv 7 rfl rfl (by kernel_rfl) rfl (.cons _ .slnil) rfl (v_slice_lo he rfl rfl i rfl (by omega)) ?_
   refine d_one 8 (by kernel_rfl) rfl ?_
   refine o_copy (((xss ++ rest).drop i).take (l.length - i)) (i + 1) he rfl rfl (by simp; omega) (hU.append hR) (((hU.append hR).drop i).take _) (by rw [List.drop_append_of_le_length (by omega), List.take_append_of_le_length (by simp; omega)]; exact ((hx.drop i).take _).one) (fun _ => cutA_some (by omega)) (fun h => ⟨g, i * 2, cutA_some (by omega), fun w mm j u hu => src_blk (o := i) m0 (hU.append hR) w mm j u hu⟩) (by simp; omega) rfl ?_
   refine d_on (fun _ m => m.keeps (.cons _ .slnil)) ?_
   refine d_done (by kernel_rfl) ?_
   refine go 5 ?_
   refine o_v rfl (v_slice_lo he rfl rfl i rfl (by omega)) ?_
   refine go 2 ?_
   have hU3 := (((hU.append hR).take (i + 1)).append ((((hU.append hR).drop i).take (l.length - i)).append ((hU.append hR).drop (i + 1 + (((xss ++ rest).drop i).take (l.length - i)).length))))
   refine o_copy [c] i he rfl rfl (by simp; omega) hU3 hV1 (by simpa using Enc.one hc) (fun _ => cutA_some (by omega)) (fun _ => ⟨b, 0, rfl, fun w mm j u hu => (hcI j u (by simpa using hu)).at_ mm.con⟩) (by simp; omega) rfl ?_
   refine go 10 ?_
   refine fin1 rfl rfl ?_
   refine sx_blk_eq (ins_place hlen hi hr1) ?_
   refine sx_unrow (m := l.length + 1) (cap := cap) ((hU.take i).append (fun d hd => by rcases List.mem_cons.1 hd with rfl | hd; exact Enc.len hc; exact hU.drop i d hd)) (hR.drop 1) (by simp <;> omega) (by simp <;> omega) hmax ?_
   exact q_x (by exact ⟨_, by congr 1 <;> omega, (hx.take i).append (.cons hc (hx.drop i))⟩)

theorem insert_Part (I : IMap) (v : Value) (l : List Part) (xss : List (List Value)) (i b yc : Nat) (hx : FlatC I xss l) (hl : l.length ≤ 1000000) (hi : i ≤ l.length) (x : Part) (c c2 : List Value) (hb : I b = some (.cells (c ++ c2).toArray 48 (0, 0))) (hc : Enc.rd I c x) (hyc : 1 ≤ yc) (hyc2 : yc ≤ 9223372036854775807) :
    FnX Tryz.prog 216 #[v, .int .i64 (i : Nat), .slice (some ⟨b, 0, none⟩) 1 yc] I [.row v 48 14 l.length xss.flatten] (fun u r => ∃ zss, r = .row u 48 14 (l.length + 1) zss.flatten ∧ FlatC I zss (l.take i ++ x :: l.drop i)) :=
  FnX.of_row (args := fun v => [v, .int .i64 (i : Nat), .slice (some ⟨b, 0, none⟩) 1 yc]) hx.uk hx.len (fun h0 => by
    obtain rfl := List.eq_nil_of_length_eq_zero h0
    obtain rfl : i = 0 := by simp at hi; omega
    have hcI : ICells I b 0 c := (fun j u hu => ⟨_, _, _, hb, by rw [Nat.zero_add]; simpa using (List.getElem?_append_left (List.getElem?_eq_some_iff.1 hu).1).trans hu⟩)
    exact insertNil_Part I _ x ⟨_, yc, rfl, fun _ => ⟨b, 0, rfl, fun q z hq => by cases q with | zero => (cases hq; exact ⟨c, by simpa using hcI, hc⟩) | succ q => simp at hq⟩, hyc, hyc2⟩)
    (fun g cap rest h1 h2 h3 => insertBlk_Part I l xss rest g cap i b yc hx h1 h2 h3 hl hi x c c2 hb hc hyc hyc2)

theorem put_Part (I : IMap) (v : Value) (l : List Part) (hv : RdS I v l) (hl : l.length ≤ 1000000) (x : Part) (B : Option Addr) (d : Nat) (hr : Enc.rd I (x.cells (.slice B x.props.length d)) x) (f : FuncId) (nm : Part → ByteArray) (hp : ∀ J, ILe I J → ∀ y vs, Enc.rd J vs y → FnV Tryz.prog f #[.agg vs.toArray] J (.string (nm y))) (hs : Srt nm l) :
    FnI Tryz.prog 146 #[v, .agg (x.cells (.slice B x.props.length d)).toArray, .func (.func f) #[] #[]] I (fun u J => RdS J u (putL nm l x)) := by
 refine enter Tryz.func146 Tryz.call146 rfl Tryz.ntmps146 rfl (fun w0 => ?_)
 refine go 3 ?_
 refine o_box _ rfl rfl rfl (fun g4 => ?_)
 refine go 1 ?_
 refine o_box _ rfl rfl rfl (fun g5 => ?_)
 refine go 9 ?_
 refine o_callV (hp _ (ILe.refl _) x _ hr) rfl rfl ?_
 refine sx_pub (fun Ig5 jg5 cg5 => ?_)
 have hv := hv.le jg5
 have hr := Enc.mono jg5 hr
 refine o_v rfl (v_makeFunc rfl rfl) ?_
 refine go 1 ?_
 refine o_callV (bsearch_Part Ig5 v l hv hl (nm x) _ [.pointer (some ⟨g5, 0, none⟩)] nm (fun y vs hr => put1_Part _ y vs hr (nm x) f nm (hp _ jg5 y vs hr) g5 cg5) hs) rfl rfl ?_
 refine go 11 ?_
 refine o_callX0 (clone_Part _ v l hv hl) rfl rfl (fun v20 s20 q20 => ?_)
 obtain ⟨xss, rfl, hx⟩ := q20
 refine go 9 ?_
 refine cb rfl (fun h21 p21 => ?_) (fun h21 p21 => ?_)
 ·have hlt := atF_lt h21
  refine sx_row hx.uk hx.len (fun h0 _ => absurd hlt (by omega)) (fun g20 cap20 rest20 e20 hr20 hc20 hm20 => ?_)
  subst e20
  refine go 5 ?_
  refine o_v rfl (v_idx he rfl rfl rfl (posF nm l (nm x)) (by omega) hlt) ?_
  refine go 1 ?_
  refine o_stc _ (posF nm l (nm x)) (hx.uk.append hr20) he rfl rfl rfl rfl (Enc.one hr) (Nat.zero_add _) (by rw [List.length_append, hx.len]; omega) ?_
  refine sx_blk_eq (List.set_append_left _ _ (by rw [hx.len]; exact hlt)) ?_
  refine sx_unrow (m := l.length) (cap := cap20) (hx.uk.set rfl _) hr20 (by simp [hx.len]) hc20 hm20 ?_
  refine go 10 ?_
  refine fin1 rfl rfl ?_
  refine sx_pubrow (l := l.set (posF nm l (nm x)) x) rfl (by simp) ((hx.set hr _).flat) (fun I9 j9 R9 => ?_)
  exact q_i (by simp only [putL, h21, if_true]; exact R9)
 ·refine go 8 ?_
  refine o_buildSlice he he rfl rfl rfl rfl rfl rfl rfl (fun v30 => ?_)
  refine sx_row (xss := [x.cells (.slice B x.props.length d)]) (fun d hd => by rw [List.mem_singleton.1 hd]; rfl) rfl (fun h => absurd h (by decide)) (fun b30 cap30 rest30 e30 hr30 hc30 hm30 => ?_)
  subst e30
  refine sx_pubB (fun I30 j30 B30 => ?_)
  have hx := hx.le j30
  have hv := hv.le j30
  have hr := Enc.mono j30 hr
  refine go 1 ?_
  refine o_callX1 (insert_Part _ _ l xss (posF nm l (nm x)) b30 cap30 hx hl (pos_le _ _ _) x _ rest30.flatten B30 hr (by omega) (by unfold maxLen at hm30; omega)) rfl rfl (fun v31 s31 q31 => ?_)
  obtain ⟨zss, rfl, hz⟩ := q31
  refine go 4 ?_
  refine fin1 rfl rfl ?_
  refine sx_pubrow (l := l.take (posF nm l (nm x)) ++ x :: l.drop (posF nm l (nm x))) rfl (by have := pos_le nm l (nm x); simp; omega) hz.flat (fun I9 j9 R9 => ?_)
  exact q_i (by simp only [putL, h21]; exact R9)

theorem insert_Prp (I : IMap) (v : Value) (l : List Prp) (xss : List (List Value)) (i b yc : Nat) (hx : FlatC I xss l) (hl : l.length ≤ 1000000) (hi : i ≤ l.length) (x : Prp) (c c2 : List Value) (hb : I b = some (.cells (c ++ c2).toArray 231 (0, 0))) (hc : Enc.rd I c x) (hyc : 1 ≤ yc) (hyc2 : yc ≤ 9223372036854775807) :
    FnX Tryz.prog 224 #[v, .int .i64 (i : Nat), .slice (some ⟨b, 0, none⟩) 1 yc] I [.row v 231 2 l.length xss.flatten] (fun u r => ∃ zss, r = .row u 231 2 (l.length + 1) zss.flatten ∧ FlatC I zss (l.take i ++ x :: l.drop i)) :=
  FnX.of_row (args := fun v => [v, .int .i64 (i : Nat), .slice (some ⟨b, 0, none⟩) 1 yc]) hx.uk hx.len (fun h0 => by
    obtain rfl := List.eq_nil_of_length_eq_zero h0
    obtain rfl : i = 0 := by simp at hi; omega
    have hcI : ICells I b 0 c := (fun j u hu => ⟨_, _, _, hb, by rw [Nat.zero_add]; simpa using (List.getElem?_append_left (List.getElem?_eq_some_iff.1 hu).1).trans hu⟩)
    exact insertNil_Prp I _ x ⟨_, yc, rfl, fun _ => ⟨b, 0, rfl, fun q z hq => by cases q with | zero => (cases hq; exact ⟨c, by simpa using hcI, hc⟩) | succ q => simp at hq⟩, hyc, hyc2⟩)
    (fun g cap rest h1 h2 h3 => insertBlk_Prp I l xss rest g cap i b yc hx h1 h2 h3 hl hi x c c2 hb hc hyc hyc2)

theorem put_Prp (I : IMap) (v : Value) (l : List Prp) (hv : RdS I v l) (hl : l.length ≤ 1000000) (x : Prp)  (hr : Enc.rd I (x.cells) x) (f : FuncId) (nm : Prp → ByteArray) (hp : ∀ J, ILe I J → ∀ y vs, Enc.rd J vs y → FnV Tryz.prog f #[.agg vs.toArray] J (.string (nm y))) (hs : Srt nm l) :
    FnI Tryz.prog 154 #[v, .agg (x.cells).toArray, .func (.func f) #[] #[]] I (fun u J => RdS J u (putL nm l x)) := by
 refine enter Tryz.func154 Tryz.call154 rfl Tryz.ntmps154 rfl (fun w0 => ?_)
 refine go 3 ?_
 refine o_box _ rfl rfl rfl (fun g4 => ?_)
 refine go 1 ?_
 refine o_box _ rfl rfl rfl (fun g5 => ?_)
 refine go 9 ?_
 refine o_callV (hp _ (ILe.refl _) x _ hr) rfl rfl ?_
 refine sx_pub (fun Ig5 jg5 cg5 => ?_)
 have hv := hv.le jg5
 have hr := Enc.mono jg5 hr
 refine o_v rfl (v_makeFunc rfl rfl) ?_
 refine go 1 ?_
 refine o_callV (bsearch_Prp Ig5 v l hv hl (nm x) _ [.pointer (some ⟨g5, 0, none⟩)] nm (fun y vs hr => put1_Prp _ y vs hr (nm x) f nm (hp _ jg5 y vs hr) g5 cg5) hs) rfl rfl ?_
 refine go 11 ?_
 refine o_callX0 (clone_Prp _ v l hv hl) rfl rfl (fun v20 s20 q20 => ?_)
 obtain ⟨xss, rfl, hx⟩ := q20
 refine go 9 ?_
 refine cb rfl (fun h21 p21 => ?_) (fun h21 p21 => ?_)
 ·have hlt := atF_lt h21
  refine sx_row hx.uk hx.len (fun h0 _ => absurd hlt (by omega)) (fun g20 cap20 rest20 e20 hr20 hc20 hm20 => ?_)
  subst e20
  refine go 5 ?_
  refine o_v rfl (v_idx he rfl rfl rfl (posF nm l (nm x)) (by omega) hlt) ?_
  refine go 1 ?_
  refine o_stc _ (posF nm l (nm x)) (hx.uk.append hr20) he rfl rfl rfl rfl (Enc.one hr) (Nat.zero_add _) (by rw [List.length_append, hx.len]; omega) ?_
  refine sx_blk_eq (List.set_append_left _ _ (by rw [hx.len]; exact hlt)) ?_
  refine sx_unrow (m := l.length) (cap := cap20) (hx.uk.set rfl _) hr20 (by simp [hx.len]) hc20 hm20 ?_
  refine go 10 ?_
  refine fin1 rfl rfl ?_
  refine sx_pubrow (l := l.set (posF nm l (nm x)) x) rfl (by simp) ((hx.set hr _).flat) (fun I9 j9 R9 => ?_)
  exact q_i (by simp only [putL, h21, if_true]; exact R9)
 ·refine go 8 ?_
  refine o_buildSlice he he rfl rfl rfl rfl rfl rfl rfl (fun v30 => ?_)
  refine sx_row (xss := [x.cells]) (fun d hd => by rw [List.mem_singleton.1 hd]; rfl) rfl (fun h => absurd h (by decide)) (fun b30 cap30 rest30 e30 hr30 hc30 hm30 => ?_)
  subst e30
  refine sx_pubB (fun I30 j30 B30 => ?_)
  have hx := hx.le j30
  have hv := hv.le j30
  have hr := Enc.mono j30 hr
  refine go 1 ?_
  refine o_callX1 (insert_Prp _ _ l xss (posF nm l (nm x)) b30 cap30 hx hl (pos_le _ _ _) x _ rest30.flatten B30 hr (by omega) (by unfold maxLen at hm30; omega)) rfl rfl (fun v31 s31 q31 => ?_)
  obtain ⟨zss, rfl, hz⟩ := q31
  refine go 4 ?_
  refine fin1 rfl rfl ?_
  refine sx_pubrow (l := l.take (posF nm l (nm x)) ++ x :: l.drop (posF nm l (nm x))) rfl (by have := pos_le nm l (nm x); simp; omega) hz.flat (fun I9 j9 R9 => ?_)
  exact q_i (by simp only [putL, h21]; exact R9)

end Go.Proofs.YtdapmfkbpnjkmaaGreat

/- Walks, printed by a program out of the code of the functions: each theorem is a contract of one function. -/
namespace Go.Proofs.YtdapmfkbpnjkmaaGreat
open Go Go.Sx
set_option linter.all false
set_option maxRecDepth 20000
set_option maxHeartbeats 4000000
instance T.pl_231 : Has (plK Tryz.prog 231) [(0, 1), (1, 1)] := ⟨by kernel_rfl⟩
instance T.pl_46 : Has (plK Tryz.prog 46) [(0, 2), (2, 2), (4, 2)] := ⟨by kernel_rfl⟩
instance T.pl_53 : Has (plK Tryz.prog 53) [(0, 1)] := ⟨by kernel_rfl⟩
instance T.ty_46 : Has (tyK Tryz.prog 46) (true, 6) := ⟨by kernel_rfl⟩
instance T.zero_46 : Has (zeroK Tryz.prog 46) [.int .i64 0, .int .i64 0, .int .i64 0, .int .i64 0, .int .i64 0, .int .i64 0] := ⟨by kernel_rfl⟩
instance T.zero_53 : Has (zeroK Tryz.prog 53) [.slice none 0 0] := ⟨by kernel_rfl⟩
theorem apply1 (I : IMap) (v : Value) (l : List Part) (hv : RdS I v l) (hl : l.length ≤ 1000000) (x : Part) (B : Option Addr) (d : Nat) (hr : Enc.rd I (x.cells (.slice B x.props.length d)) x) (g4 : Nat) (c4 : ICells I g4 0 [v]) (hs : Srt Part.name l) :
    FnI Tryz.prog 145 #[.agg (x.cells (.slice B x.props.length d)).toArray, .pointer (some ⟨g4, 0, none⟩)] I (fun u J => ∃ w, u = .tuple #[.agg #[w], .int .i64 0] ∧ RdS J w (putL Part.name l x)) := by
 refine enter Tryz.func145 Tryz.call145 rfl Tryz.ntmps145 rfl (fun w0 => ?_)
 refine go 3 ?_
 refine o_box _ rfl rfl rfl (fun g2 => ?_)
 refine go 1 ?_
 refine o_alloc he rfl (fun g3 => ?_)
 refine go 6 ?_
 refine o_v rfl (v_ldI he rfl (c4 0 _ rfl)) ?_
 refine go 2 ?_
 refine o_call (put_Part _ v l hv hl x B d hr _ Part.name (fun J hJ y vs hr => apply11 J y vs hr) hs) rfl rfl (fun v8 I8 j8 q8 => ?_)
 obtain ⟨B8, d8, rfl, h8⟩ := q8
 refine go 1 ?_
 refine o_val rfl (v_build (pl := [(0, 1)]) he he rfl rfl) ?_
 refine go 1 ?_
 refine o_stw _ he rfl rfl rfl rfl rfl rfl ?_
 refine go 4 ?_
 refine fin2 rfl ⟨_, _, _, rfl, m0, .inr ⟨_, he, rfl, rfl⟩⟩ rfl ?_
 exact q_i ⟨_, rfl, B8, d8, rfl, h8⟩

theorem apply2 (I : IMap) (n : Int) :
    FnV Tryz.prog 148 #[.int .i64 n] I (.tuple #[.agg #[.slice none 0 0], .int .i64 n]) := by
 refine enter Tryz.func148 Tryz.call148 rfl Tryz.ntmps148 rfl (fun w0 => ?_)
 refine go 3 ?_
 refine o_alloc he rfl (fun g2 => ?_)
 refine go 6 ?_
 refine o_val rfl (v_build (pl := [(0, 1)]) he he rfl rfl) ?_
 refine go 2 ?_
 refine o_stw _ he rfl rfl rfl rfl rfl rfl ?_
 refine go 4 ?_
 refine fin2 rfl ⟨_, _, _, rfl, m0, .inr ⟨_, he, rfl, rfl⟩⟩ rfl ?_
 exact q_v rfl

theorem apply3 (I : IMap) (v : Value) (l : List Part) (hv : RdS I v l) (g4 : Nat) (c4 : ICells I g4 0 [v]) (f : FuncId) (cs : List Value) (p : Part → Bool) (hp : ∀ x ∈ l, ∀ vs, Enc.rd I vs x → FnV Tryz.prog f ([Value.agg vs.toArray] ++ cs).toArray I (.bool (p x))) :
    FnV Tryz.prog 150 #[.func (.func f) #[] cs.toArray, .pointer (some ⟨g4, 0, none⟩)] I (.bool (l.any p)) := by
 refine enter Tryz.func150 Tryz.call150 rfl Tryz.ntmps150 rfl (fun w0 => ?_)
 refine go 8 ?_
 refine o_v rfl (v_ldI he rfl (c4 0 _ rfl)) ?_
 refine go 2 ?_
 refine o_callV (containsFunc_Part _ v l hv f cs p hp) rfl rfl ?_
 refine go 4 ?_
 refine fin1 rfl rfl ?_
 exact q_v rfl

theorem apply4 (I : IMap) (x : Part) (vs : List Value) (h : Enc.rd I vs x) (g : Nat) (e : Evt) (cg : ICells I g 0 e.cells) :
    FnV Tryz.prog 153 #[.agg vs.toArray, .pointer (some ⟨g, 0, none⟩)] I (.bool (decide (x.into = e.into) && decide (x.slot = e.slot))) := by
 obtain ⟨ps, rfl, hps⟩ := h
 refine enter Tryz.func153 Tryz.call153 rfl Tryz.ntmps153 rfl (fun w0 => ?_)
 refine go 3 ?_
 refine o_box _ rfl rfl rfl (fun g2 => ?_)
 refine go 8 ?_
 refine o_v rfl (v_ldI he rfl (cg 4 _ rfl)) ?_
 refine go 2 ?_
 refine sxb 9 rfl (fun h9 p9 => ?_) (fun h9 p9 => ?_)
 ·refine go 3 ?_
  refine o_cons (o_yes rfl rfl h9 (o_val rfl (v_ldI he rfl (cg 5 _ rfl)) ?_))
  refine go 6 ?_
  refine fin1 rfl rfl ?_
  exact q_v (congrArg Value.bool (by simp only [h9, bS]))
 ·refine go 10 ?_
  refine fin1 rfl rfl ?_
  exact q_v (congrArg Value.bool (by simp only [h9, bS]))

theorem apply6 (I : IMap) (x : Part) (vs : List Value) (h : Enc.rd I vs x) (g : Nat) (q : Part) (s : Value) (cg : ICells I g 0 (q.cells s)) :
    FnV Tryz.prog 156 #[.agg vs.toArray, .pointer (some ⟨g, 0, none⟩)] I (.bool (decide (x.into = q.name))) := by
 obtain ⟨ps, rfl, hps⟩ := h
 refine enter Tryz.func156 Tryz.call156 rfl Tryz.ntmps156 rfl (fun w0 => ?_)
 refine go 3 ?_
 refine o_box _ rfl rfl rfl (fun g2 => ?_)
 refine go 8 ?_
 refine o_v rfl (v_ldI he rfl (cg 0 _ rfl)) ?_
 refine go 5 ?_
 refine fin1 rfl rfl ?_
 exact q_v rfl

theorem flApply (I : IMap) (vc : Value) (c : List Kind) (hvc : RdS I vc c) (hsc : SmC c) (v : Value) (l : List Part) (hv : RdS I v l) (hsf : SmF l) (e : Evt) (hse : SmE e) :
    FnI Tryz.prog 91 #[.agg #[vc], .agg #[v], .agg e.cells.toArray] I (fun u J => StIs J (applyF c l e) u) := by
 have hv0 := hv
 obtain ⟨A, c0, rfl, hA, hc, hm⟩ := hv
 refine enter Tryz.func91 Tryz.call91 rfl Tryz.ntmps91 rfl (fun w0 => ?_)
 refine go 3 ?_
 refine o_box _ rfl rfl rfl (fun g3 => ?_)
 refine go 1 ?_
 refine o_box _ rfl rfl rfl (fun g4 => ?_)
 refine go 1 ?_
 refine o_box _ rfl rfl rfl (fun g5 => ?_)
 refine go 1 ?_
 refine o_alloc he rfl (fun g6 => ?_)
 refine go 5 ?_
 refine c_cut (I' := I) (L' := [(3, .pointer (some ⟨g3, 0, none⟩)), (4, .pointer (some ⟨g4, 0, none⟩)), (5, .pointer (some ⟨g5, 0, none⟩)), (6, .pointer (some ⟨g6, 0, none⟩)), (28, .bool (!validS c l || !validE e))]) (H' := [.blk g6 53 [.slice none 0 0], .blk g5 96 e.cells, .blk g4 53 [.slice A l.length c0], .blk g3 24 [vc]]) ?_ ?_
 ·refine go 4 ?_
  refine o_callV (flValid _ vc c hvc hsc _ l hv0 hsf) rfl rfl ?_
  refine go 2 ?_
  refine sxb 24 rfl (fun h24 p24 => ?_) (fun h24 p24 => ?_)
  ·refine go 6 ?_
   exact q_cut ⟨rfl, rfl, rfl, rfl, (congrArg (fun b => some (Value.bool b)) (by simp only [h24, bS])), trivial⟩ rfl rfl
  ·refine go 2 ?_
   refine o_yes rfl rfl h24 (o_callV (evValid _ e hse) rfl rfl ?_)
   refine go 4 ?_
   exact q_cut ⟨rfl, rfl, rfl, rfl, (congrArg (fun b => some (Value.bool b)) (by simp only [h24, bS])), trivial⟩ rfl rfl
 ·refine cb rfl (fun h28 p28 => ?_) (fun h28 p28 => ?_)
  ·refine go 3 ?_
   refine o_val rfl (v_build (pl := [(0, 1)]) he he rfl rfl) ?_
   refine go 1 ?_
   refine o_stw _ he rfl rfl rfl rfl rfl rfl ?_
   refine go 5 ?_
   refine fin2 rfl ⟨_, _, _, rfl, m0, .inr ⟨_, he, rfl, rfl⟩⟩ rfl ?_
   exact q_i (StIs.fail (by simp only [applyF, h28, if_true]))
  ·have hV : validS c l = true ∧ validE e = true := by revert h28; simp
   obtain ⟨hsrt, hlen⟩ := validS_ord hV.1
   have hl6 : l.length ≤ 1000000 := by omega
   refine go 6 ?_
   refine o_callX0 (flOf _ _ l hv0) rfl rfl (fun v31 s31 q31 => ?_)
   obtain ⟨m31, kvs, rfl, rfl, hIx, _⟩ := q31
   refine go 1 ?_
   refine o_alloc he rfl (fun g8 => ?_)
   refine go 1 ?_
   refine o_stw _ he rfl rfl rfl rfl rfl rfl ?_
   refine go 4 ?_
   refine bring4 ?_
   refine sx_pub (fun Ig4 jg4 cg4 => ?_)
   have hvc := hvc.le jg4
   have hv0 := hv0.le jg4
   refine o_v rfl (v_makeFunc rfl rfl) ?_
   refine go 14 ?_
   refine bring1 ?_
   refine o_callK (flGet _ _ l hv0 m31 kvs hIx e.part) rfl rfl (fun v37 q37 => ?_)
   obtain ⟨vs11, rfl, s11, rfl, hs11⟩ := q37
   refine go 4 ?_
   refine o_alloc he rfl (fun g11 => ?_)
   refine go 1 ?_
   refine o_stw _ he rfl rfl rfl rfl rfl (Enc.one (α := Part) (I := Ig4) (x := partP l e) ⟨s11, rfl, hs11⟩) ?_
   refine go 11 ?_
   refine cb rfl (fun h42 p42 => ?_) (fun h42 p42 => ?_)
   ·refine go 6 ?_
    refine cb rfl (fun h43 p43 => ?_) (fun h43 p43 => ?_)
    ·refine go 4 ?_
     refine o_callV (apply2 _ 3) rfl rfl ?_
     refine go 3 ?_
     refine bring3 ?_
     refine o_stw _ he rfl rfl rfl rfl rfl rfl ?_
     refine go 6 ?_
     refine fin2 rfl ⟨_, _, _, rfl, m0, .inr ⟨_, he, rfl, rfl⟩⟩ rfl ?_
     exact q_i (StIs.fail (by simp only [applyF, h28, p42, applyMake, h43, Bool.true_eq_false, decide_true, decide_false, Int.reduceEq, reduceIte, if_true, if_false, Bool.false_eq_true, not_true, not_false_eq_true, bS]))
    ·refine go 9 ?_
     refine o_callE (catFind _ vc c hvc e.kind) rfl rfl (fun v52 q52 => ?_)
     obtain ⟨vs13, rfl, s13, rfl, hs13⟩ := q52
     refine go 4 ?_
     refine o_alloc he rfl (fun g13 => ?_)
     refine go 1 ?_
     refine o_stw _ he rfl rfl rfl rfl rfl (Enc.one (α := Kind) (I := Ig4) (x := (findK c e.kind).getD zKind) ⟨s13, rfl, hs13⟩) ?_
     refine go 9 ?_
     refine cb rfl (fun h56 p56 => ?_) (fun h56 p56 => ?_)
     ·refine go 4 ?_
      refine o_callV (apply2 _ 4) rfl rfl ?_
      refine go 3 ?_
      refine bring4 ?_
      refine o_stw _ he rfl rfl rfl rfl rfl rfl ?_
      refine go 6 ?_
      refine fin2 rfl ⟨_, _, _, rfl, m0, .inr ⟨_, he, rfl, rfl⟩⟩ rfl ?_
      exact q_i (StIs.fail (by simp only [applyF, h28, p42, applyMake, h43, p56, Bool.true_eq_false, decide_true, decide_false, Int.reduceEq, reduceIte, if_true, if_false, Bool.false_eq_true, not_true, not_false_eq_true, bS]))
     ·refine go 6 ?_
      refine o_v rfl (v_ldI he rfl (cg4 0 _ rfl)) ?_
      refine go 4 ?_
      refine cb rfl (fun h64 p64 => ?_) (fun h64 p64 => ?_)
      ·refine go 4 ?_
       refine o_callV (apply2 _ 7) rfl rfl ?_
       refine go 3 ?_
       refine bring4 ?_
       refine o_stw _ he rfl rfl rfl rfl rfl rfl ?_
       refine go 6 ?_
       refine fin2 rfl ⟨_, _, _, rfl, m0, .inr ⟨_, he, rfl, rfl⟩⟩ rfl ?_
       exact q_i (StIs.fail (by simp only [applyF, h28, p42, applyMake, h43, p56, p64, Bool.true_eq_false, Bool.true_eq_false, decide_true, decide_false, Int.reduceEq, reduceIte, if_true, if_false, Bool.false_eq_true, not_true, not_false_eq_true, bS]))
      ·refine go 14 ?_
       refine o_val rfl (v_build (pl := [(0, 1), (1, 1), (2, 1), (3, 1), (4, 1), (5, 1), (6, 1), (7, 1), (8, 6)]) he he rfl rfl) ?_
       refine go 1 ?_
       refine o_call (apply1 _ _ l hv0 hl6 (newP e) none 0 ⟨_, rfl, RdS.nil'⟩ g4 cg4 hsrt) rfl rfl (fun v79 I79 j79 q79 => ?_)
       obtain ⟨w79, rfl, ⟨B79, d79, rfl, hw79⟩⟩ := q79
       refine go 3 ?_
       refine bring4 ?_
       refine o_stw _ he rfl rfl rfl rfl rfl rfl ?_
       refine go 5 ?_
       refine fin2 rfl ⟨_, _, _, rfl, m0, .inr ⟨_, he, rfl, rfl⟩⟩ rfl ?_
       exact q_i (StIs.put (by simp only [applyF, h28, p42, applyMake, h43, p56, p64, Bool.true_eq_false, Bool.true_eq_false, decide_true, decide_false, Int.reduceEq, reduceIte, if_true, if_false, Bool.false_eq_true, not_true, not_false_eq_true, bS]) ⟨B79, d79, rfl, hw79⟩)
   ·refine go 7 ?_
    refine o_alloc he rfl (fun g15 => ?_)
    refine go 1 ?_
    refine o_stw _ he rfl rfl rfl rfl rfl (Enc.one (α := Part) (I := Ig4) (x := partP l e) ⟨s11, rfl, hs11⟩) ?_
    refine go 4 ?_
    refine c_cutx (α := Value) (Ix := (fun s15 => Ig4)) (Lx := (fun s15 => [(3, .pointer (some ⟨g3, 0, none⟩)), (4, .pointer (some ⟨g4, 0, none⟩)), (5, .pointer (some ⟨g5, 0, none⟩)), (6, .pointer (some ⟨g6, 0, none⟩)), (9, .func (.func 145) #[] #[.pointer (some ⟨g4, 0, none⟩)]), (10, .func (.func 148) #[] #[]), (11, .pointer (some ⟨g11, 0, none⟩)), (12, .bool (findP l e.part).isSome), (15, .pointer (some ⟨g15, 0, none⟩)), (16, .bool (otherO l e).isSome)])) (Hx := (fun s15 => [.blk g15 48 ((otherP l e).cells s15), .blk g11 48 ((partP l e).cells s11), .blk g6 53 [.slice none 0 0], .blk g5 96 e.cells, .blk g3 24 [vc]])) (p := (fun s15 => RdS Ig4 s15 (otherP l e).props)) ?_ ?_
    ·refine go 7 ?_
     refine cb rfl (fun h86 p86 => ?_) (fun h86 p86 => ?_)
     ·refine go 5 ?_
      refine bring2 ?_
      refine o_callK (flGet _ _ l hv0 m31 kvs hIx e.into) rfl rfl (fun v91 q91 => ?_)
      obtain ⟨vs15, rfl, s15, rfl, hs15⟩ := q91
      refine go 4 ?_
      refine bring1 ?_
      refine o_stw _ he rfl rfl rfl rfl rfl (Enc.one (α := Part) (I := Ig4) (x := (findP l e.into).getD zPart) ⟨s15, rfl, hs15⟩) ?_
      refine go 3 ?_
      refine bring1 ?_
      refine sx_drop ?_
      refine bring2 ?_
      refine sx_drop ?_
      exact q_cutx s15 (by simp only [otherP, otherO, p86, if_true]; exact hs15) ⟨rfl, rfl, rfl, rfl, rfl, rfl, rfl, rfl, rfl, (by simp only [otherO, p86, if_true, if_false]; rfl), trivial⟩ (by simp only [otherP, otherO, p86, if_true, if_false]; rfl) rfl
     ·refine go 2 ?_
      refine bring2 ?_
      refine sx_drop ?_
      refine bring2 ?_
      refine sx_drop ?_
      exact q_cutx s11 (by simp only [otherP, otherO, p86, if_false]; exact hs11) ⟨rfl, rfl, rfl, rfl, rfl, rfl, rfl, rfl, rfl, (by simp only [otherO, p86, if_true, if_false]; rfl), trivial⟩ (by simp only [otherP, otherO, p86, if_true, if_false]; rfl) rfl
    ·intro s15 hs15
     refine go 6 ?_
     refine sxb 96 rfl (fun h96 p96 => ?_) (fun h96 p96 => ?_)
     ·refine go 5 ?_
      refine c_true rfl ?_
      refine go 4 ?_
      refine o_callV (apply2 _ 2) rfl rfl ?_
      refine go 3 ?_
      refine bring2 ?_
      refine o_stw _ he rfl rfl rfl rfl rfl rfl ?_
      refine go 5 ?_
      refine fin2 rfl ⟨_, _, _, rfl, m0, .inr ⟨_, he, rfl, rfl⟩⟩ rfl ?_
      exact q_i (StIs.fail (by simp only [applyF, h28, p42, applyRest, h96, Bool.true_eq_false, decide_true, decide_false, Int.reduceEq, reduceIte, if_true, if_false, Bool.false_eq_true, not_true, not_false_eq_true, bS]))
     ·refine go 5 ?_
      refine cb rfl (fun h99 p99 => ?_) (fun h99 p99 => ?_)
      ·refine go 4 ?_
       refine o_callV (apply2 _ 2) rfl rfl ?_
       refine go 3 ?_
       refine bring2 ?_
       refine o_stw _ he rfl rfl rfl rfl rfl rfl ?_
       refine go 5 ?_
       refine fin2 rfl ⟨_, _, _, rfl, m0, .inr ⟨_, he, rfl, rfl⟩⟩ rfl ?_
       exact q_i (StIs.fail (by simp only [applyF, h28, p42, applyRest, h96, h99, Bool.true_eq_false, decide_true, decide_false, Int.reduceEq, reduceIte, if_true, if_false, Bool.false_eq_true, not_true, not_false_eq_true, bS]))
      ·have hmem : partP l e ∈ l := partP_mem (by simpa using h96)
       refine go 8 ?_
       refine sxb 106 rfl (fun h106 p106 => ?_) (fun h106 p106 => ?_)
       ·refine go 5 ?_
        refine c_true rfl ?_
        refine go 4 ?_
        refine o_callV (apply2 _ 5) rfl rfl ?_
        refine go 3 ?_
        refine bring2 ?_
        refine o_stw _ he rfl rfl rfl rfl rfl rfl ?_
        refine go 5 ?_
        refine fin2 rfl ⟨_, _, _, rfl, m0, .inr ⟨_, he, rfl, rfl⟩⟩ rfl ?_
        exact q_i (StIs.fail (by simp only [applyF, h28, p42, applyRest, h96, h99, h106, Bool.true_eq_false, decide_true, decide_false, Int.reduceEq, reduceIte, if_true, if_false, Bool.false_eq_true, not_true, not_false_eq_true, bS]))
       ·refine go 5 ?_
        refine cb rfl (fun h109 p109 => ?_) (fun h109 p109 => ?_)
        ·refine go 4 ?_
         refine o_callV (apply2 _ 5) rfl rfl ?_
         refine go 3 ?_
         refine bring2 ?_
         refine o_stw _ he rfl rfl rfl rfl rfl rfl ?_
         refine go 5 ?_
         refine fin2 rfl ⟨_, _, _, rfl, m0, .inr ⟨_, he, rfl, rfl⟩⟩ rfl ?_
         exact q_i (StIs.fail (by simp only [applyF, h28, p42, applyRest, h96, h99, h106, h109, Bool.true_eq_false, decide_true, decide_false, Int.reduceEq, reduceIte, if_true, if_false, Bool.false_eq_true, not_true, not_false_eq_true, bS]))
        ·refine go 4 ?_
         refine o_v rfl (v_makeFunc rfl rfl) ?_
         refine go 9 ?_
         refine o_callE (catFind _ vc c hvc (partP l e).kind) rfl rfl (fun v119 q119 => ?_)
         obtain ⟨vs18, rfl, s18, rfl, hs18⟩ := q119
         refine go 4 ?_
         refine o_alloc he rfl (fun g18 => ?_)
         refine go 1 ?_
         refine o_stw _ he rfl rfl rfl rfl rfl (Enc.one (α := Kind) (I := Ig4) (x := kindP c l e) ⟨s18, rfl, hs18⟩) ?_
         refine go 4 ?_
         refine c_cutx3 (Ix := (fun J p2 s2 => J)) (Lx := (fun J p2 s2 => [(6, .pointer (some ⟨g6, 0, none⟩)), (9, .func (.func 145) #[] #[.pointer (some ⟨g4, 0, none⟩)]), (11, .pointer (some ⟨g11, 0, none⟩))])) (Hx := (fun J p2 s2 => [.blk g11 48 (p2.cells s2), .blk g6 53 [.slice none 0 0]])) (p := (fun J p2 s2 => ILe Ig4 J ∧ RdS J s2 p2.props ∧ applyF c l e = putR l p2)) ?_ ?_
         ·refine go 13 ?_
          refine cb rfl (fun h124 p124 => ?_) (fun h124 p124 => ?_)
          ·refine go 7 ?_
           refine sxb 129 rfl (fun h129 p129 => ?_) (fun h129 p129 => ?_)
           ·refine go 13 ?_
            refine c_true rfl ?_
            refine go 4 ?_
            refine o_callV (apply2 _ 4) rfl rfl ?_
            refine go 3 ?_
            refine bring3 ?_
            refine o_stw _ he rfl rfl rfl rfl rfl rfl ?_
            refine go 8 ?_
            refine fin2 rfl ⟨_, _, _, rfl, m0, .inr ⟨_, he, rfl, rfl⟩⟩ rfl ?_
            exact q_i (StIs.fail (by simp only [applyF, h28, p42, applyRest, applyOp, applyFit, applyRemove, applyRun, applyNote, applyScrap, seatTaken, holdsAny, kindP, noted, p28, p42, p96, p99, p106, p109, p124, p129, h96, h99, h106, h109, h124, h129, Bool.true_eq_false, decide_true, decide_false, Int.reduceEq, reduceIte, if_true, if_false, Bool.false_eq_true, not_true, not_false_eq_true, bS]))
           ·refine go 8 ?_
            refine o_yes rfl rfl h129 (o_callV (catTakes _ vc c hvc (otherP l e).kind e.slot (partP l e).kind) rfl rfl ?_)
            refine go 5 ?_
            refine cb rfl (fun h126 p126 => ?_) (fun h126 p126 => ?_)
            ·refine go 4 ?_
             refine o_callV (apply2 _ 4) rfl rfl ?_
             refine go 3 ?_
             refine bring3 ?_
             refine o_stw _ he rfl rfl rfl rfl rfl rfl ?_
             refine go 8 ?_
             refine fin2 rfl ⟨_, _, _, rfl, m0, .inr ⟨_, he, rfl, rfl⟩⟩ rfl ?_
             exact q_i (StIs.fail (by simp only [applyF, h28, p42, applyRest, applyOp, applyFit, applyRemove, applyRun, applyNote, applyScrap, seatTaken, holdsAny, kindP, noted, p28, p42, p96, p99, p106, p109, p124, p129, p126, h96, h99, h106, h109, h124, h129, h126, Bool.true_eq_false, decide_true, decide_false, Int.reduceEq, reduceIte, if_true, if_false, Bool.false_eq_true, not_true, not_false_eq_true, bS]))
            ·refine go 8 ?_
             refine cb rfl (fun h144 p144 => ?_) (fun h144 p144 => ?_)
             ·refine go 4 ?_
              refine o_callV (apply2 _ 5) rfl rfl ?_
              refine go 3 ?_
              refine bring3 ?_
              refine o_stw _ he rfl rfl rfl rfl rfl rfl ?_
              refine go 8 ?_
              refine fin2 rfl ⟨_, _, _, rfl, m0, .inr ⟨_, he, rfl, rfl⟩⟩ rfl ?_
              exact q_i (StIs.fail (by simp only [applyF, h28, p42, applyRest, applyOp, applyFit, applyRemove, applyRun, applyNote, applyScrap, seatTaken, holdsAny, kindP, noted, p28, p42, p96, p99, p106, p109, p124, p129, p126, p144, h96, h99, h106, h109, h124, h129, h126, h144, Bool.true_eq_false, decide_true, decide_false, Int.reduceEq, reduceIte, if_true, if_false, Bool.false_eq_true, not_true, not_false_eq_true, bS]))
             ·refine go 3 ?_
              refine bring4 ?_
              refine sx_pub (fun Ig5 jg5 cg5 => ?_)
              have hvc := hvc.le jg5
              have hv0 := hv0.le jg5
              have cg4 := cg4.le jg5
              have hs11 := hs11.le jg5
              have hs18 := hs18.le jg5
              refine o_v rfl (v_makeFunc rfl rfl) ?_
              refine go 1 ?_
              refine o_callV (apply3 _ _ l hv0 g4 cg4 _ [.pointer (some ⟨g5, 0, none⟩)] (fun x => decide (x.into = e.into) && decide (x.slot = e.slot)) (fun x hx vs hr => apply4 _ x vs hr g5 e cg5)) rfl rfl ?_
              refine go 3 ?_
              refine cb rfl (fun h152 p152 => ?_) (fun h152 p152 => ?_)
              ·refine go 4 ?_
               refine o_callV (apply2 _ 6) rfl rfl ?_
               refine go 3 ?_
               refine bring3 ?_
               refine o_stw _ he rfl rfl rfl rfl rfl rfl ?_
               refine go 8 ?_
               refine fin2 rfl ⟨_, _, _, rfl, m0, .inr ⟨_, he, rfl, rfl⟩⟩ rfl ?_
               exact q_i (StIs.fail (by simp only [applyF, h28, p42, applyRest, applyOp, applyFit, applyRemove, applyRun, applyNote, applyScrap, seatTaken, holdsAny, kindP, noted, p28, p42, p96, p99, p106, p109, p124, p129, p126, p144, p152, h96, h99, h106, h109, h124, h129, h126, h144, h152, Bool.true_eq_false, decide_true, decide_false, Int.reduceEq, reduceIte, if_true, if_false, Bool.false_eq_true, not_true, not_false_eq_true, bS]))
              ·refine go 3 ?_
               refine bring2 ?_
               refine d_start1 T.mixed ?_
               refine d_tv 0 rfl rfl (by kernel_rfl) rfl (.cons _ (.refl _)) rfl (v_fieldAddr he rfl) ?_
               refine d_tv 1 rfl rfl (by kernel_rfl) rfl (.cons _ (.refl _)) rfl (v_ldI he rfl (cg5 4 _ rfl)) ?_
               refine d_tv 2 rfl rfl (by kernel_rfl) rfl (.cons _ (.refl _)) rfl (v_fieldAddr he rfl) ?_
               refine d_tv 3 rfl rfl (by kernel_rfl) rfl (.cons _ (.refl _)) rfl (v_ldI he rfl (cg5 5 _ rfl)) ?_
               refine d_tv 4 rfl rfl (by kernel_rfl) rfl (.cons _ (.refl _)) rfl (v_fieldAddr he rfl) ?_
               refine d_one 5 (by kernel_rfl) rfl ?_
               refine o_st1 he rfl rfl rfl rfl ?_
               refine d_on (fun _ m => m.keeps (.cons _ (.refl _))) ?_
               refine d_tv 6 rfl rfl (by kernel_rfl) rfl (.cons _ (.refl _)) rfl (v_fieldAddr he rfl) ?_
               refine d_one 7 (by kernel_rfl) rfl ?_
               refine o_st1 he rfl rfl rfl rfl ?_
               refine d_on (fun _ m => m.keeps (.cons _ (.refl _))) ?_
               refine d_done (by kernel_rfl) ?_
               refine go 2 ?_
               refine bring1 ?_
               refine sx_drop ?_
               refine bring1 ?_
               refine sx_drop ?_
               refine bring2 ?_
               refine sx_drop ?_
               exact q_cutx3 (_) ({ partP l e with into := e.into, slot := e.slot }) (_) ⟨jg5, hs11, by simp only [applyF, h28, p42, applyRest, h96, h99, h106, h109, applyOp, applyFit, applyRemove, applyRun, applyNote, applyScrap, seatTaken, holdsAny, kindP, noted, overhauled, p28, p42, p96, p99, p106, p109, p124, p129, p126, p144, p152, h96, h99, h106, h109, h124, h129, h126, h144, h152, Bool.true_eq_false, decide_true, decide_false, Int.reduceEq, reduceIte, if_true, if_false, Bool.false_eq_true, not_true, not_false_eq_true, bS]⟩ sb rfl rfl
          ·refine go 6 ?_
           refine cb rfl (fun h166 p166 => ?_) (fun h166 p166 => ?_)
           ·refine go 8 ?_
            refine cb rfl (fun h170 p170 => ?_) (fun h170 p170 => ?_)
            ·refine go 4 ?_
             refine o_callV (apply2 _ 5) rfl rfl ?_
             refine go 3 ?_
             refine bring3 ?_
             refine o_stw _ he rfl rfl rfl rfl rfl rfl ?_
             refine go 7 ?_
             refine fin2 rfl ⟨_, _, _, rfl, m0, .inr ⟨_, he, rfl, rfl⟩⟩ rfl ?_
             exact q_i (StIs.fail (by simp only [applyF, h28, p42, applyRest, applyOp, applyFit, applyRemove, applyRun, applyNote, applyScrap, seatTaken, holdsAny, kindP, noted, p28, p42, p96, p99, p106, p109, p124, p166, p170, h96, h99, h106, h109, h124, h166, h170, Bool.true_eq_false, decide_true, decide_false, Int.reduceEq, reduceIte, if_true, if_false, Bool.false_eq_true, not_true, not_false_eq_true, bS]))
            ·refine go 5 ?_
             refine bring2 ?_
             refine o_st1 he rfl rfl rfl rfl ?_
             refine go 2 ?_
             refine o_st1 he rfl rfl rfl rfl ?_
             refine go 3 ?_
             refine bring1 ?_
             refine sx_drop ?_
             refine bring1 ?_
             refine sx_drop ?_
             refine bring2 ?_
             refine sx_drop ?_
             refine bring2 ?_
             refine sx_drop ?_
             exact q_cutx3 (_) ({ partP l e with into := nil8, slot := nil8 }) (_) ⟨ILe.refl _, hs11, by simp only [applyF, h28, p42, applyRest, h96, h99, h106, h109, applyOp, applyFit, applyRemove, applyRun, applyNote, applyScrap, seatTaken, holdsAny, kindP, noted, overhauled, p28, p42, p96, p99, p106, p109, p124, p166, p170, h96, h99, h106, h109, h124, h166, h170, Bool.true_eq_false, decide_true, decide_false, Int.reduceEq, reduceIte, if_true, if_false, Bool.false_eq_true, not_true, not_false_eq_true, bS]⟩ sb rfl rfl
           ·refine go 6 ?_
            refine cb rfl (fun h177 p177 => ?_) (fun h177 p177 => ?_)
            ·refine go 7 ?_
             refine cb rfl (fun h181 p181 => ?_) (fun h181 p181 => ?_)
             ·refine go 4 ?_
              refine o_callV (apply2 _ 4) rfl rfl ?_
              refine go 3 ?_
              refine bring3 ?_
              refine o_stw _ he rfl rfl rfl rfl rfl rfl ?_
              refine go 6 ?_
              refine fin2 rfl ⟨_, _, _, rfl, m0, .inr ⟨_, he, rfl, rfl⟩⟩ rfl ?_
              exact q_i (StIs.fail (by simp only [applyF, h28, p42, applyRest, applyOp, applyFit, applyRemove, applyRun, applyNote, applyScrap, seatTaken, holdsAny, kindP, noted, p28, p42, p96, p99, p106, p109, p124, p166, p177, p181, h96, h99, h106, h109, h124, h166, h177, h181, Bool.true_eq_false, decide_true, decide_false, Int.reduceEq, reduceIte, if_true, if_false, Bool.false_eq_true, not_true, not_false_eq_true, bS]))
             ·refine go 3 ?_
              refine sx_drop ?_
              refine sx_drop ?_
              refine bring2 ?_
              refine sx_drop ?_
              refine bring2 ?_
              refine sx_drop ?_
              exact q_cutx3 (_) (partP l e) (_) ⟨ILe.refl _, hs11, by simp only [applyF, h28, p42, applyRest, h96, h99, h106, h109, applyOp, applyFit, applyRemove, applyRun, applyNote, applyScrap, seatTaken, holdsAny, kindP, noted, overhauled, p28, p42, p96, p99, p106, p109, p124, p166, p177, p181, h96, h99, h106, h109, h124, h166, h177, h181, Bool.true_eq_false, decide_true, decide_false, Int.reduceEq, reduceIte, if_true, if_false, Bool.false_eq_true, not_true, not_false_eq_true, bS]⟩ sb rfl rfl
            ·refine go 6 ?_
             refine cb rfl (fun h186 p186 => ?_) (fun h186 p186 => ?_)
             ·refine go 5 ?_
              refine o_v rfl (v_imax rfl rfl) ?_
              refine go 1 ?_
              refine o_val rfl (v_build (pl := [(0, 2), (2, 2), (4, 2)]) he he rfl rfl) ?_
              refine go 2 ?_
              refine bring2 ?_
              refine o_st1 he rfl rfl rfl rfl ?_
              refine go 2 ?_
              refine o_st _ _ he rfl rfl rfl rfl rfl rfl rfl ?_
              refine go 3 ?_
              refine bring1 ?_
              refine sx_drop ?_
              refine bring1 ?_
              refine sx_drop ?_
              refine bring2 ?_
              refine sx_drop ?_
              refine bring2 ?_
              refine sx_drop ?_
              exact q_cutx3 (_) (overhauled e (partP l e)) (_) ⟨ILe.refl _, hs11, by simp only [applyF, h28, p42, applyRest, h96, h99, h106, h109, applyOp, applyFit, applyRemove, applyRun, applyNote, applyScrap, seatTaken, holdsAny, kindP, noted, overhauled, p28, p42, p96, p99, p106, p109, p124, p166, p177, p186, h96, h99, h106, h109, h124, h166, h177, h186, Bool.true_eq_false, decide_true, decide_false, Int.reduceEq, reduceIte, if_true, if_false, Bool.false_eq_true, not_true, not_false_eq_true, bS]⟩ sb rfl rfl
             ·refine go 6 ?_
              refine cb rfl (fun h196 p196 => ?_) (fun h196 p196 => ?_)
              ·refine go 9 ?_
               refine o_val rfl (v_build (pl := [(0, 1), (1, 1)]) he he rfl rfl) ?_
               refine go 1 ?_
               refine o_call (put_Prp _ s11 (partP l e).props hs11 (by have := (validS_part hV.1 hmem).2; omega) ⟨e.key, e.value⟩ rfl _ Prp.key (fun J hJ y vs hr => apply5 J y vs hr) (validS_part hV.1 hmem).1) rfl rfl (fun v205 I205 j205 q205 => ?_)
               obtain ⟨B205, d205, rfl, h205⟩ := q205
               refine go 2 ?_
               refine bring2 ?_
               refine o_st1 he rfl rfl rfl rfl ?_
               refine go 10 ?_
               refine cb rfl (fun h210 p210 => ?_) (fun h210 p210 => ?_)
               ·refine go 4 ?_
                refine o_callV (apply2 _ 7) rfl rfl ?_
                refine go 3 ?_
                refine bring3 ?_
                refine o_stw _ he rfl rfl rfl rfl rfl rfl ?_
                refine go 6 ?_
                refine fin2 rfl ⟨_, _, _, rfl, m0, .inr ⟨_, he, rfl, rfl⟩⟩ rfl ?_
                exact q_i (StIs.fail (by simp only [applyF, h28, p42, applyRest, applyOp, applyFit, applyRemove, applyRun, applyNote, applyScrap, seatTaken, holdsAny, kindP, noted, p28, p42, p96, p99, p106, p109, p124, p166, p177, p186, p196, p210, h96, h99, h106, h109, h124, h166, h177, h186, h196, h210, Bool.true_eq_false, decide_true, decide_false, Int.reduceEq, reduceIte, if_true, if_false, Bool.false_eq_true, not_true, not_false_eq_true, bS]))
               ·refine go 3 ?_
                refine bring1 ?_
                refine sx_drop ?_
                refine bring1 ?_
                refine sx_drop ?_
                refine bring2 ?_
                refine sx_drop ?_
                refine bring2 ?_
                refine sx_drop ?_
                exact q_cutx3 (_) (noted e (partP l e)) (_) ⟨j205, ⟨B205, d205, rfl, h205⟩, by simp only [applyF, h28, p42, applyRest, h96, h99, h106, h109, applyOp, applyFit, applyRemove, applyRun, applyNote, applyScrap, seatTaken, holdsAny, kindP, noted, overhauled, p28, p42, p96, p99, p106, p109, p124, p166, p177, p186, p196, p210, h96, h99, h106, h109, h124, h166, h177, h186, h196, h210, Bool.true_eq_false, decide_true, decide_false, Int.reduceEq, reduceIte, if_true, if_false, Bool.false_eq_true, not_true, not_false_eq_true, bS]⟩ sb rfl rfl
              ·refine go 6 ?_
               refine cb rfl (fun h215 p215 => ?_) (fun h215 p215 => ?_)
               ·refine go 7 ?_
                refine sxb 220 rfl (fun h220 p220 => ?_) (fun h220 p220 => ?_)
                ·refine go 6 ?_
                 refine c_true rfl ?_
                 refine go 4 ?_
                 refine o_callV (apply2 _ 5) rfl rfl ?_
                 refine go 3 ?_
                 refine bring3 ?_
                 refine o_stw _ he rfl rfl rfl rfl rfl rfl ?_
                 refine go 7 ?_
                 refine fin2 rfl ⟨_, _, _, rfl, m0, .inr ⟨_, he, rfl, rfl⟩⟩ rfl ?_
                 exact q_i (StIs.fail (by simp only [applyF, h28, p42, applyRest, applyOp, applyFit, applyRemove, applyRun, applyNote, applyScrap, seatTaken, holdsAny, kindP, noted, p28, p42, p96, p99, p106, p109, p124, p166, p177, p186, p196, p215, p220, h96, h99, h106, h109, h124, h166, h177, h186, h196, h215, h220, Bool.true_eq_false, decide_true, decide_false, Int.reduceEq, reduceIte, if_true, if_false, Bool.false_eq_true, not_true, not_false_eq_true, bS]))
                ·refine go 1 ?_
                 refine o_cons (o_yes rfl rfl h220 (o_val rfl (v_makeFunc rfl rfl) ?_))
                 refine go 1 ?_
                 refine o_yes rfl rfl h220 (o_lendB m2 (fun I2 hI2 c2 => apply3 I2 _ l (hv0.le hI2) g4 (cg4.le hI2) _ [.pointer (some ⟨g11, 0, none⟩)] (fun x => decide (x.into = (partP l e).name)) (fun x hx vs hr => apply6 I2 x vs hr g11 _ _ c2)) rfl rfl ?_)
                 refine go 3 ?_
                 refine cb rfl (fun h224 p224 => ?_) (fun h224 p224 => ?_)
                 ·refine go 4 ?_
                  refine o_callV (apply2 _ 5) rfl rfl ?_
                  refine go 3 ?_
                  refine bring3 ?_
                  refine o_stw _ he rfl rfl rfl rfl rfl rfl ?_
                  refine go 7 ?_
                  refine fin2 rfl ⟨_, _, _, rfl, m0, .inr ⟨_, he, rfl, rfl⟩⟩ rfl ?_
                  exact q_i (StIs.fail (by simp only [applyF, h28, p42, applyRest, applyOp, applyFit, applyRemove, applyRun, applyNote, applyScrap, seatTaken, holdsAny, kindP, noted, p28, p42, p96, p99, p106, p109, p124, p166, p177, p186, p196, p215, p220, p224, h96, h99, h106, h109, h124, h166, h177, h186, h196, h215, h220, h224, Bool.true_eq_false, decide_true, decide_false, Int.reduceEq, reduceIte, if_true, if_false, Bool.false_eq_true, not_true, not_false_eq_true, bS]))
                 ·refine go 5 ?_
                  refine bring2 ?_
                  refine o_st1 he rfl rfl rfl rfl ?_
                  refine go 3 ?_
                  refine bring1 ?_
                  refine sx_drop ?_
                  refine bring1 ?_
                  refine sx_drop ?_
                  refine bring2 ?_
                  refine sx_drop ?_
                  refine bring2 ?_
                  refine sx_drop ?_
                  exact q_cutx3 (_) ({ partP l e with scrapped := true }) (_) ⟨ILe.refl _, hs11, by simp only [applyF, h28, p42, applyRest, h96, h99, h106, h109, applyOp, applyFit, applyRemove, applyRun, applyNote, applyScrap, seatTaken, holdsAny, kindP, noted, overhauled, p28, p42, p96, p99, p106, p109, p124, p166, p177, p186, p196, p215, p220, p224, h96, h99, h106, h109, h124, h166, h177, h186, h196, h215, h220, h224, Bool.true_eq_false, decide_true, decide_false, Int.reduceEq, reduceIte, if_true, if_false, Bool.false_eq_true, not_true, not_false_eq_true, bS]⟩ sb rfl rfl
               ·refine go 3 ?_
                refine sx_drop ?_
                refine sx_drop ?_
                refine bring2 ?_
                refine sx_drop ?_
                refine bring2 ?_
                refine sx_drop ?_
                exact q_cutx3 (_) (partP l e) (_) ⟨ILe.refl _, hs11, by simp only [applyF, h28, p42, applyRest, h96, h99, h106, h109, applyOp, applyFit, applyRemove, applyRun, applyNote, applyScrap, seatTaken, holdsAny, kindP, noted, overhauled, p28, p42, p96, p99, p106, p109, p124, p166, p177, p186, p196, p215, h96, h99, h106, h109, h124, h166, h177, h186, h196, h215, Bool.true_eq_false, decide_true, decide_false, Int.reduceEq, reduceIte, if_true, if_false, Bool.false_eq_true, not_true, not_false_eq_true, bS]⟩ sb rfl rfl
         ·rintro J p2 s2 ⟨hJ, ⟨B2, d2, rfl, hB2⟩, hA⟩
          refine go 5 ?_
          refine o_call (apply1 _ _ l (hv0.le hJ) hl6 p2 B2 d2 ⟨_, rfl, B2, d2, rfl, hB2⟩ g4 (cg4.le hJ) hsrt) rfl rfl (fun v232 I232 j232 q232 => ?_)
          obtain ⟨w232, rfl, ⟨B232, d232, rfl, hw232⟩⟩ := q232
          refine go 3 ?_
          refine bring1 ?_
          refine o_stw _ he rfl rfl rfl rfl rfl rfl ?_
          refine go 4 ?_
          refine fin2 rfl ⟨_, _, _, rfl, m0, .inr ⟨_, he, rfl, rfl⟩⟩ rfl ?_
          exact q_i (StIs.put hA ⟨B232, d232, rfl, hw232⟩)

end Go.Proofs.YtdapmfkbpnjkmaaGreat

/- Walks, printed by a program out of the code of the functions: each theorem is a contract of one function. -/
namespace Go.Proofs.YtdapmfkbpnjkmaaGreat
open Go Go.Sx
set_option linter.all false
set_option maxRecDepth 20000
set_option maxHeartbeats 4000000
theorem swapRange (I : IMap) (l : List Evt) (N : Nat) (hN : l.length = N) (g a b n : Nat) (f : FuncId) (h : a + n ≤ b) (hb : b + n ≤ l.length) (hl : l.length ≤ 1000000) :
    FnM Tryz.prog 354 #[.slice (some ⟨g, 0, none⟩) N N, .int .i64 ((a : Nat) : Int), .int .i64 ((b : Nat) : Int), .int .i64 ((n : Nat) : Int), .func (.func f) #[] #[]] I (.blk g 96 (evCh (l)).flatten) (.blk g 96 (evCh (swpN l a b n)).flatten) := by
 refine enter Tryz.func354 Tryz.call354 rfl Tryz.ntmps354 rfl (fun w0 => ?_)
 refine go 6 ?_
 refine c_loop (α := Nat) 0 (fun i => I)
  (fun i => [(0, .slice (some ⟨g, 0, none⟩) N N), (1, .int .i64 ((a : Nat) : Int)), (2, .int .i64 ((b : Nat) : Int)), (3, .int .i64 ((n : Nat) : Int)), (10, .int .i64 ((i : Nat) : Int))])
  (fun i => [.blk g 96 (evCh (swpN l a b i)).flatten])
  (fun i => i ≤ n)
  (fun i => n - i) (Nat.zero_le _) rfl sb rfl ?_
 intro i hi
 refine go 8 ?_
 refine cb rfl (fun h13 p13 => ?_) (fun h13 p13 => ?_)
 ·have hlt : i < n := by omega
  have hm := swpN_len l a b i
  have h1 : a + i < (swpN l a b i).length := by omega
  have h2 : b + i < (swpN l a b i).length := by omega
  refine go 4 ?_
  refine d_start1 T.mixed ?_
  refine d_tv 0 rfl rfl (by kernel_rfl) rfl (.cons _ .slnil) rfl (v_move rfl) ?_
  refine d_tv 1 rfl rfl (by kernel_rfl) rfl (.cons _ .slnil) rfl (v_move rfl) ?_
  refine d_tv 2 rfl rfl (by kernel_rfl) rfl (.cons _ .slnil) rfl (v_move rfl) ?_
  refine d_tv 3 rfl rfl (by kernel_rfl) rfl (.cons _ .slnil) rfl (v_add rfl rfl ⟨by omega, by omega⟩) ?_
  refine d_tv 4 rfl rfl (by kernel_rfl) rfl (.cons _ .slnil) rfl (v_move rfl) ?_
  refine d_tv 5 rfl rfl (by kernel_rfl) rfl (.cons _ .slnil) rfl (v_move rfl) ?_
  refine d_tv 6 rfl rfl (by kernel_rfl) rfl (.cons _ .slnil) rfl (v_move rfl) ?_
  refine d_tv 7 rfl rfl (by kernel_rfl) rfl (.cons _ .slnil) rfl (v_add rfl rfl ⟨by omega, by omega⟩) ?_
  refine d_tv 8 rfl rfl (by kernel_rfl) rfl (.cons _ .slnil) rfl (v_move rfl) ?_
  refine d_tv 9 rfl rfl (by kernel_rfl) rfl (.cons _ .slnil) rfl (v_move rfl) ?_
  refine d_tv 10 rfl rfl (by kernel_rfl) rfl (.cons _ .slnil) rfl (v_move rfl) ?_
  refine d_tv 11 rfl rfl (by kernel_rfl) rfl (.cons _ .slnil) rfl (v_add rfl rfl ⟨by omega, by omega⟩) ?_
  refine d_tv 12 rfl rfl (by kernel_rfl) rfl (.cons _ .slnil) rfl (v_idx he rfl rfl rfl (b + i) (by omega) (by omega)) ?_
  refine d_tv 14 rfl rfl (by kernel_rfl) rfl (.cons _ .slnil) rfl (v_move rfl) ?_
  refine d_tv 15 rfl rfl (by kernel_rfl) rfl (.cons _ .slnil) rfl (v_move rfl) ?_
  refine d_tv 16 rfl rfl (by kernel_rfl) rfl (.cons _ .slnil) rfl (v_move rfl) ?_
  refine d_tv 17 rfl rfl (by kernel_rfl) rfl (.cons _ .slnil) rfl (v_add rfl rfl ⟨by omega, by omega⟩) ?_
  refine d_tv 18 rfl rfl (by kernel_rfl) rfl (.cons _ .slnil) rfl (v_idx he rfl rfl rfl (a + i) (by omega) (by omega)) ?_
  refine d_two 13 19 (by kernel_rfl) rfl rfl ?_ ?_
  ·refine o_val rfl (v_ldc m0 (evCh_ukE _) he rfl (b + i) (by omega) (evCh_at h2)) ?_
   refine d_on (fun _ m => m.keeps (.cons _ .slnil)) ?_
   refine d_one 19 (by kernel_rfl) rfl ?_
   refine o_val rfl (v_ldc m0 (evCh_ukE _) he rfl (a + i) (by omega) (evCh_at h1)) ?_
   refine d_on (fun _ m => m.keeps (.cons _ .slnil)) ?_
   refine d_tv 20 rfl rfl (by kernel_rfl) rfl (.cons _ .slnil) rfl (v_idx he rfl rfl rfl (a + i) (by omega) (by omega)) ?_
   refine d_one 21 (by kernel_rfl) rfl ?_
   refine o_stc _ (a + i) (by first | exact evCh_ukE _ | exact (evCh_ukE _).set rfl _) he rfl rfl rfl rfl rfl (by omega) (by simp [evCh_len]; omega) ?_
   refine d_on (fun _ m => m.keeps (.cons _ .slnil)) ?_
   refine d_tv 22 rfl rfl (by kernel_rfl) rfl (.cons _ .slnil) rfl (v_idx he rfl rfl rfl (b + i) (by omega) (by omega)) ?_
   refine d_one 23 (by kernel_rfl) rfl ?_
   refine o_stc _ (b + i) (by first | exact evCh_ukE _ | exact (evCh_ukE _).set rfl _) he rfl rfl rfl rfl rfl (by omega) (by simp [evCh_len]; omega) ?_
   refine d_on (fun _ m => m.keeps (.cons _ .slnil)) ?_
   refine d_done (by kernel_rfl) ?_
   refine go 8 ?_
   exact q_next (i + 1) (by omega) (by omega) rfl sb (by rw [swpN]; first | rw [← evCh_swp h1 h2] | rw [← evCh_swp' h1 h2 (by omega)])
  ·refine o_val rfl (v_ldc m0 (evCh_ukE _) he rfl (a + i) (by omega) (evCh_at h1)) ?_
   refine d_on (fun _ m => m.keeps (.cons _ .slnil)) ?_
   refine d_one 13 (by kernel_rfl) rfl ?_
   refine o_val rfl (v_ldc m0 (evCh_ukE _) he rfl (b + i) (by omega) (evCh_at h2)) ?_
   refine d_on (fun _ m => m.keeps (.cons _ .slnil)) ?_
   refine d_tv 20 rfl rfl (by kernel_rfl) rfl (.cons _ .slnil) rfl (v_idx he rfl rfl rfl (a + i) (by omega) (by omega)) ?_
   refine d_one 21 (by kernel_rfl) rfl ?_
   refine o_stc _ (a + i) (by first | exact evCh_ukE _ | exact (evCh_ukE _).set rfl _) he rfl rfl rfl rfl rfl (by omega) (by simp [evCh_len]; omega) ?_
   refine d_on (fun _ m => m.keeps (.cons _ .slnil)) ?_
   refine d_tv 22 rfl rfl (by kernel_rfl) rfl (.cons _ .slnil) rfl (v_idx he rfl rfl rfl (b + i) (by omega) (by omega)) ?_
   refine d_one 23 (by kernel_rfl) rfl ?_
   refine o_stc _ (b + i) (by first | exact evCh_ukE _ | exact (evCh_ukE _).set rfl _) he rfl rfl rfl rfl rfl (by omega) (by simp [evCh_len]; omega) ?_
   refine d_on (fun _ m => m.keeps (.cons _ .slnil)) ?_
   refine d_done (by kernel_rfl) ?_
   refine go 8 ?_
   exact q_next (i + 1) (by omega) (by omega) rfl sb (by rw [swpN]; first | rw [← evCh_swp h1 h2] | rw [← evCh_swp' h1 h2 (by omega)])
 ·refine go 4 ?_
  refine end0 rfl ?_
  obtain rfl : i = n := by omega
  exact q_m

theorem insSort (I : IMap) (l : List Evt) (N : Nat) (hN : l.length = N) (g a b : Nat) (f : FuncId) (hp : ∀ x y : Evt, FnV Tryz.prog f #[.agg (Day.ch x).toArray, .agg (Day.ch y).toArray] I (.int .i64 (cmpI (Day.day x) (Day.day y)))) (hab : a ≤ b) (hb : b ≤ l.length) (hl : l.length ≤ 1000000) :
    FnX Tryz.prog 316 #[.slice (some ⟨g, 0, none⟩) N N, .int .i64 ((a : Nat) : Int), .int .i64 ((b : Nat) : Int), .func (.func f) #[] #[]] I [.blk g 96 (evCh (l)).flatten] (fun u r => u = .tuple #[] ∧ ∃ m, r = .blk g 96 (evCh (m)).flatten ∧ Seg l m a b) := by
 refine enter Tryz.func316 Tryz.call316 rfl Tryz.ntmps316 rfl (fun w0 => ?_)
 refine go 3 ?_
 refine o_v rfl (OV.cast (u := .int .i64 ((a + 1 : Nat) : Int)) (v_add rfl rfl ⟨by omega, by omega⟩) (congrArg (Value.int .i64) (by omega))) ?_
 refine go 4 ?_
 refine c_loop2 (a + 1) (l) (fun i m => I)
  (fun i m => [(0, .slice (some ⟨g, 0, none⟩) N N), (1, .int .i64 ((a : Nat) : Int)), (2, .int .i64 ((b : Nat) : Int)), (3, .func (.func f) #[] #[]), (8, .int .i64 ((i : Nat) : Int))])
  (fun i m => [.blk g 96 (evCh (m)).flatten])
  (fun i m => a + 1 ≤ i ∧ (i ≤ b ∨ (m = l ∧ i = a + 1)) ∧ Seg l m a i)
  (fun i m => b - i) ⟨Nat.le_refl _, .inr ⟨rfl, rfl⟩, Seg.one l a⟩ rfl sb rfl ?_
 intro i m ⟨h1, h2, hs⟩
 refine go 8 ?_
 refine cb rfl (fun h14 p14 => ?_) (fun h14 p14 => ?_)
 ·have hlt : i < b := by omega
  refine go 11 ?_
  refine c_loop2 (i) (m) (fun j k => I)
   (fun j k => [(0, .slice (some ⟨g, 0, none⟩) N N), (1, .int .i64 ((a : Nat) : Int)), (2, .int .i64 ((b : Nat) : Int)), (3, .func (.func f) #[] #[]), (8, .int .i64 ((i : Nat) : Int)), (9, .int .i64 ((j : Nat) : Int))])
   (fun j k => [.blk g 96 (evCh (k)).flatten])
   (fun j k => a ≤ j ∧ j ≤ i ∧ Ins l k a i j)
   (fun j k => j) ⟨by omega, Nat.le_refl _, Ins.start hs⟩ rfl sb rfl ?_
  intro j k ⟨hj1, hj2, hk⟩
  have hkl := hk.len
  refine go 2 ?_
  refine d_startH T.mixed ?_
  refine d_tv 0 rfl rfl (by kernel_rfl) rfl (.refl _) rfl (v_move rfl) ?_
  refine d_tv 1 rfl rfl (by kernel_rfl) rfl (.refl _) rfl (v_move rfl) ?_
  refine d_tv 2 rfl rfl (by kernel_rfl) rfl (.refl _) rfl (v_gtr rfl rfl) ?_
  refine d_tv 3 rfl rfl (by kernel_rfl) rfl (.refl _) rfl (v_move rfl) ?_
  refine sxb 21 rfl (fun h21 p21 => ?_) (fun h21 p21 => ?_)
  ·have hjk : j < k.length := by omega
   have hjk1 : j - 1 < k.length := by omega
   refine d_t 4 rfl rfl (by kernel_rfl) rfl (fun _ m => m.keeps (.refl _)) (y_yes rfl rfl h21 (v_move rfl)) ?_
   refine d_t 5 rfl rfl (by kernel_rfl) rfl (fun _ m => m.keeps (.refl _)) (y_yes rfl rfl h21 (v_move rfl)) ?_
   refine d_t 6 rfl rfl (by kernel_rfl) rfl (fun _ m => m.keeps (.refl _)) (y_yes rfl rfl h21 (v_move rfl)) ?_
   refine d_t 7 rfl rfl (by kernel_rfl) rfl (fun _ m => m.keeps (.refl _)) (y_yes rfl rfl h21 (v_idx he rfl rfl rfl (j) (by omega) (by omega))) ?_
   refine d_t 8 rfl rfl (by kernel_rfl) rfl (fun _ m => m.keeps (.refl _)) (y_yes rfl rfl h21 (v_ldc m0 (evCh_ukE _) he rfl (j) (by omega) (evCh_at hjk))) ?_
   refine d_t 9 rfl rfl (by kernel_rfl) rfl (fun _ m => m.keeps (.refl _)) (y_yes rfl rfl h21 (v_move rfl)) ?_
   refine d_t 10 rfl rfl (by kernel_rfl) rfl (fun _ m => m.keeps (.refl _)) (y_yes rfl rfl h21 (v_move rfl)) ?_
   refine d_t 11 rfl rfl (by kernel_rfl) rfl (fun _ m => m.keeps (.refl _)) (y_yes rfl rfl h21 (v_sub rfl rfl ⟨by omega, by omega⟩)) ?_
   refine d_t 12 rfl rfl (by kernel_rfl) rfl (fun _ m => m.keeps (.refl _)) (y_yes rfl rfl h21 (v_idx he rfl rfl rfl (j - 1) (by omega) (by omega))) ?_
   refine d_t 13 rfl rfl (by kernel_rfl) rfl (fun _ m => m.keeps (.refl _)) (y_yes rfl rfl h21 (v_ldc m0 (evCh_ukE _) he rfl (j - 1) (by omega) (evCh_at hjk1))) ?_
   refine d_one 14 (by kernel_rfl) rfl ?_
   refine o_yes rfl rfl h21 (o_callV (hp _ _) rfl rfl ?_)
   refine d_on (fun _ m => m.keeps (.refl _)) ?_
   refine d_t 15 rfl rfl (by kernel_rfl) rfl (fun _ m => m.keeps (.refl _)) (y_yes rfl rfl h21 (v_lss rfl rfl)) ?_
   refine d_tv 16 rfl rfl (by kernel_rfl) rfl (.refl _) rfl (v_and_t h21 rfl rfl) ?_
   refine d_done (by kernel_rfl) ?_
   refine go 1 ?_
   refine cb rfl (fun h34 p34 => ?_) (fun h34 p34 => ?_)
   ·refine go 4 ?_
    refine d_start1 T.mixed ?_
    refine d_tv 0 rfl rfl (by kernel_rfl) rfl (.cons _ .slnil) rfl (v_move rfl) ?_
    refine d_tv 1 rfl rfl (by kernel_rfl) rfl (.cons _ .slnil) rfl (v_move rfl) ?_
    refine d_tv 2 rfl rfl (by kernel_rfl) rfl (.cons _ .slnil) rfl (v_move rfl) ?_
    refine d_tv 3 rfl rfl (by kernel_rfl) rfl (.cons _ .slnil) rfl (v_move rfl) ?_
    refine d_tv 4 rfl rfl (by kernel_rfl) rfl (.cons _ .slnil) rfl (v_sub rfl rfl ⟨by omega, by omega⟩) ?_
    refine d_tv 5 rfl rfl (by kernel_rfl) rfl (.cons _ .slnil) rfl (v_move rfl) ?_
    refine d_tv 6 rfl rfl (by kernel_rfl) rfl (.cons _ .slnil) rfl (v_move rfl) ?_
    refine d_tv 7 rfl rfl (by kernel_rfl) rfl (.cons _ .slnil) rfl (v_sub rfl rfl ⟨by omega, by omega⟩) ?_
    refine d_tv 8 rfl rfl (by kernel_rfl) rfl (.cons _ .slnil) rfl (v_idx he rfl rfl rfl (j - 1) (by omega) (by omega)) ?_
    refine d_tv 10 rfl rfl (by kernel_rfl) rfl (.cons _ .slnil) rfl (v_move rfl) ?_
    refine d_tv 11 rfl rfl (by kernel_rfl) rfl (.cons _ .slnil) rfl (v_move rfl) ?_
    refine d_tv 12 rfl rfl (by kernel_rfl) rfl (.cons _ .slnil) rfl (v_idx he rfl rfl rfl (j) (by omega) (by omega)) ?_
    refine d_two 9 13 (by kernel_rfl) rfl rfl ?_ ?_
    ·refine o_val rfl (v_ldc m0 (evCh_ukE _) he rfl (j - 1) (by omega) (evCh_at hjk1)) ?_
     refine d_on (fun _ m => m.keeps (.cons _ .slnil)) ?_
     refine d_one 13 (by kernel_rfl) rfl ?_
     refine o_val rfl (v_ldc m0 (evCh_ukE _) he rfl (j) (by omega) (evCh_at hjk)) ?_
     refine d_on (fun _ m => m.keeps (.cons _ .slnil)) ?_
     refine d_tv 14 rfl rfl (by kernel_rfl) rfl (.cons _ .slnil) rfl (v_idx he rfl rfl rfl (j) (by omega) (by omega)) ?_
     refine d_one 15 (by kernel_rfl) rfl ?_
     refine o_stc _ (j) (by first | exact evCh_ukE _ | exact (evCh_ukE _).set rfl _) he rfl rfl rfl rfl rfl (by omega) (by simp [evCh_len]; omega) ?_
     refine d_on (fun _ m => m.keeps (.cons _ .slnil)) ?_
     refine d_tv 16 rfl rfl (by kernel_rfl) rfl (.cons _ .slnil) rfl (v_idx he rfl rfl rfl (j - 1) (by omega) (by omega)) ?_
     refine d_one 17 (by kernel_rfl) rfl ?_
     refine o_stc _ (j - 1) (by first | exact evCh_ukE _ | exact (evCh_ukE _).set rfl _) he rfl rfl rfl rfl rfl (by omega) (by simp [evCh_len]; omega) ?_
     refine d_on (fun _ m => m.keeps (.cons _ .slnil)) ?_
     refine d_done (by kernel_rfl) ?_
     refine go 4 ?_
     refine o_v rfl (OV.cast (u := .int .i64 ((j - 1 : Nat) : Int)) (v_sub rfl rfl ⟨by omega, by omega⟩) (congrArg (Value.int .i64) (by omega))) ?_
     refine go 3 ?_
     exact q_next2 (j - 1) (swp k j (j - 1)) ⟨by omega, by omega, hk.step (by omega) (by omega) (by omega) (by have := p34; simp only [cmpI_neg] at this; rw [dayAt_eq (by omega), dayAt_eq (by omega)]; exact this)⟩ (by omega) rfl sb (by first | rw [← evCh_swp (show j < k.length by omega) (show j - 1 < k.length by omega)] | rw [← evCh_swp' (show j < k.length by omega) (show j - 1 < k.length by omega) (by omega)])
    ·refine o_val rfl (v_ldc m0 (evCh_ukE _) he rfl (j) (by omega) (evCh_at hjk)) ?_
     refine d_on (fun _ m => m.keeps (.cons _ .slnil)) ?_
     refine d_one 9 (by kernel_rfl) rfl ?_
     refine o_val rfl (v_ldc m0 (evCh_ukE _) he rfl (j - 1) (by omega) (evCh_at hjk1)) ?_
     refine d_on (fun _ m => m.keeps (.cons _ .slnil)) ?_
     refine d_tv 14 rfl rfl (by kernel_rfl) rfl (.cons _ .slnil) rfl (v_idx he rfl rfl rfl (j) (by omega) (by omega)) ?_
     refine d_one 15 (by kernel_rfl) rfl ?_
     refine o_stc _ (j) (by first | exact evCh_ukE _ | exact (evCh_ukE _).set rfl _) he rfl rfl rfl rfl rfl (by omega) (by simp [evCh_len]; omega) ?_
     refine d_on (fun _ m => m.keeps (.cons _ .slnil)) ?_
     refine d_tv 16 rfl rfl (by kernel_rfl) rfl (.cons _ .slnil) rfl (v_idx he rfl rfl rfl (j - 1) (by omega) (by omega)) ?_
     refine d_one 17 (by kernel_rfl) rfl ?_
     refine o_stc _ (j - 1) (by first | exact evCh_ukE _ | exact (evCh_ukE _).set rfl _) he rfl rfl rfl rfl rfl (by omega) (by simp [evCh_len]; omega) ?_
     refine d_on (fun _ m => m.keeps (.cons _ .slnil)) ?_
     refine d_done (by kernel_rfl) ?_
     refine go 4 ?_
     refine o_v rfl (OV.cast (u := .int .i64 ((j - 1 : Nat) : Int)) (v_sub rfl rfl ⟨by omega, by omega⟩) (congrArg (Value.int .i64) (by omega))) ?_
     refine go 3 ?_
     exact q_next2 (j - 1) (swp k j (j - 1)) ⟨by omega, by omega, hk.step (by omega) (by omega) (by omega) (by have := p34; simp only [cmpI_neg] at this; rw [dayAt_eq (by omega), dayAt_eq (by omega)]; exact this)⟩ (by omega) rfl sb (by first | rw [← evCh_swp (show j < k.length by omega) (show j - 1 < k.length by omega)] | rw [← evCh_swp' (show j < k.length by omega) (show j - 1 < k.length by omega) (by omega)])
   ·refine go 12 ?_
    exact q_next2 (i + 1) (k) ⟨by omega, .inl (by omega), hk.done (by omega) (by omega) (.inr (by have := p34; simp only [cmpI_neg] at this; rw [dayAt_eq (by omega), dayAt_eq (by omega)]; omega))⟩ (by omega) rfl sb rfl
  ·refine d_t 4 rfl rfl (by kernel_rfl) rfl (fun _ m => m.keeps (.refl _)) (y_no rfl rfl h21) ?_
   refine d_t 5 rfl rfl (by kernel_rfl) rfl (fun _ m => m.keeps (.refl _)) (y_no rfl rfl h21) ?_
   refine d_t 6 rfl rfl (by kernel_rfl) rfl (fun _ m => m.keeps (.refl _)) (y_no rfl rfl h21) ?_
   refine d_t 7 rfl rfl (by kernel_rfl) rfl (fun _ m => m.keeps (.refl _)) (y_no rfl rfl h21) ?_
   refine d_t 8 rfl rfl (by kernel_rfl) rfl (fun _ m => m.keeps (.refl _)) (y_no rfl rfl h21) ?_
   refine d_t 9 rfl rfl (by kernel_rfl) rfl (fun _ m => m.keeps (.refl _)) (y_no rfl rfl h21) ?_
   refine d_t 10 rfl rfl (by kernel_rfl) rfl (fun _ m => m.keeps (.refl _)) (y_no rfl rfl h21) ?_
   refine d_t 11 rfl rfl (by kernel_rfl) rfl (fun _ m => m.keeps (.refl _)) (y_no rfl rfl h21) ?_
   refine d_t 12 rfl rfl (by kernel_rfl) rfl (fun _ m => m.keeps (.refl _)) (y_no rfl rfl h21) ?_
   refine d_t 13 rfl rfl (by kernel_rfl) rfl (fun _ m => m.keeps (.refl _)) (y_no rfl rfl h21) ?_
   refine d_t 14 rfl rfl (by kernel_rfl) rfl (fun _ m => m.keeps (.refl _)) (y_no rfl rfl h21) ?_
   refine d_t 15 rfl rfl (by kernel_rfl) rfl (fun _ m => m.keeps (.refl _)) (y_no rfl rfl h21) ?_
   refine d_tv 16 rfl rfl (by kernel_rfl) rfl (.refl _) rfl (v_and_f h21 rfl) ?_
   refine d_done (by kernel_rfl) ?_
   refine go 1 ?_
   refine c_false rfl ?_
   refine go 12 ?_
   exact q_next2 (i + 1) (k) ⟨by omega, .inl (by omega), hk.done (by omega) (by omega) (.inl (by omega))⟩ (by omega) rfl sb rfl
 ·refine go 4 ?_
  refine end0 rfl ?_
  exact q_x (by refine ⟨rfl, m, rfl, ?_⟩; rcases h2 with h2 | ⟨rfl, h2⟩; exact (show i = b by omega) ▸ hs; exact Seg.none (by omega))

theorem rotate (I : IMap) (l : List Evt) (N : Nat) (hN : l.length = N) (g a m b : Nat) (f : FuncId) (ham : a < m) (hmb : m < b) (hb : b ≤ l.length) (hl : l.length ≤ 1000000) :
    FnX Tryz.prog 341 #[.slice (some ⟨g, 0, none⟩) N N, .int .i64 ((a : Nat) : Int), .int .i64 ((m : Nat) : Int), .int .i64 ((b : Nat) : Int), .func (.func f) #[] #[]] I [.blk g 96 (evCh (l)).flatten] (fun u r => u = .tuple #[] ∧ ∃ k, r = .blk g 96 (evCh (k)).flatten ∧ k.length = l.length ∧ ∀ q, k[q]? = rotG (l[·]?) m (m - a) (b - m) q) := by
 refine enter Tryz.func341 Tryz.call341 rfl Tryz.ntmps341 rfl (fun w0 => ?_)
 refine go 4 ?_
 refine o_v rfl (OV.cast (u := .int .i64 ((m - a : Nat) : Int)) (v_sub rfl rfl ⟨by omega, by omega⟩) (congrArg (Value.int .i64) (by omega))) ?_
 refine go 7 ?_
 refine o_v rfl (OV.cast (u := .int .i64 ((b - m : Nat) : Int)) (v_sub rfl rfl ⟨by omega, by omega⟩) (congrArg (Value.int .i64) (by omega))) ?_
 refine go 5 ?_
 refine c_loop3 (m - a) (b - m) (l) (fun i j k => I)
  (fun i j k => [(0, .slice (some ⟨g, 0, none⟩) N N), (1, .int .i64 ((a : Nat) : Int)), (2, .int .i64 ((m : Nat) : Int)), (3, .int .i64 ((b : Nat) : Int)), (4, .func (.func f) #[] #[]), (10, .int .i64 ((i : Nat) : Int)), (11, .int .i64 ((j : Nat) : Int))])
  (fun i j k => [.blk g 96 (evCh (k)).flatten])
  (fun i j k => 1 ≤ i ∧ 1 ≤ j ∧ i ≤ m ∧ m + j ≤ l.length ∧ k.length = l.length ∧ ∀ q, rotG (k[·]?) m i j q = rotG (l[·]?) m (m - a) (b - m) q)
  (fun i j k => i + j) ⟨by omega, by omega, by omega, by omega, rfl, fun q => rfl⟩ rfl sb rfl ?_
 intro i j k ⟨hi1, hj1, him, hmj, hkl, hk⟩
 refine go 8 ?_
 refine cb rfl (fun h20 p20 => ?_) (fun h20 p20 => ?_)
 ·refine go 10 ?_
  refine cb rfl (fun h23 p23 => ?_) (fun h23 p23 => ?_)
  ·refine go 5 ?_
   refine o_v rfl (OV.cast (u := .int .i64 ((m - i : Nat) : Int)) (v_sub rfl rfl ⟨by omega, by omega⟩) (congrArg (Value.int .i64) (by omega))) ?_
   refine go 4 ?_
   refine o_callM (swapRange _ k N (by omega) g (m - i) m j f (by omega) (by omega) (by omega)) rfl rfl ?_
   refine go 5 ?_
   refine o_v rfl (OV.cast (u := .int .i64 ((i - j : Nat) : Int)) (v_sub rfl rfl ⟨by omega, by omega⟩) (congrArg (Value.int .i64) (by omega))) ?_
   refine go 4 ?_
   exact q_next3 (i - j) (j) (swpN k (m - i) m j) ⟨by omega, by omega, by omega, by omega, (swpN_len _ _ _ _).trans hkl, fun q => (rot_gt (by omega) (by omega) (swpN_get _ (by omega) (by omega)) q).trans (hk q)⟩ (by omega) rfl sb rfl
  ·refine go 5 ?_
   refine o_v rfl (OV.cast (u := .int .i64 ((m - i : Nat) : Int)) (v_sub rfl rfl ⟨by omega, by omega⟩) (congrArg (Value.int .i64) (by omega))) ?_
   refine go 4 ?_
   refine o_v rfl (OV.cast (u := .int .i64 ((m + j - i : Nat) : Int)) (v_sub rfl rfl ⟨by omega, by omega⟩) (congrArg (Value.int .i64) (by omega))) ?_
   refine go 3 ?_
   refine o_callM (swapRange _ k N (by omega) g (m - i) (m + j - i) i f (by omega) (by omega) (by omega)) rfl rfl ?_
   refine go 5 ?_
   refine o_v rfl (OV.cast (u := .int .i64 ((j - i : Nat) : Int)) (v_sub rfl rfl ⟨by omega, by omega⟩) (congrArg (Value.int .i64) (by omega))) ?_
   refine go 4 ?_
   exact q_next3 (i) (j - i) (swpN k (m - i) (m + j - i) i) ⟨by omega, by omega, by omega, by omega, (swpN_len _ _ _ _).trans hkl, fun q => (rot_lt (by omega) (by omega) (swpN_get _ (by omega) (by omega)) q).trans (hk q)⟩ (by omega) rfl sb rfl
 ·obtain rfl : i = j := by have := p20; omega
  refine go 9 ?_
  refine o_v rfl (OV.cast (u := .int .i64 ((m - i : Nat) : Int)) (v_sub rfl rfl ⟨by omega, by omega⟩) (congrArg (Value.int .i64) (by omega))) ?_
  refine go 4 ?_
  refine o_callM (swapRange _ k N (by omega) g (m - i) m i f (by omega) (by omega) (by omega)) rfl rfl ?_
  refine go 1 ?_
  refine end0 rfl ?_
  exact q_x ⟨rfl, swpN k (m - i) m i, rfl, (swpN_len _ _ _ _).trans hkl, fun q => (rot_eq him (swpN_get _ (by omega) (by omega)) q).trans (hk q)⟩

theorem symMergeW (I : IMap) (N g : Nat) (f : FuncId) (hp : ∀ x y : Evt, FnV Tryz.prog f #[.agg (Day.ch x).toArray, .agg (Day.ch y).toArray] I (.int .i64 (cmpI (Day.day x) (Day.day y)))) (hN0 : N ≤ 1000000) (W : Nat) (ih : ∀ (l : List Evt) (a m b : Nat), l.length = N → b - a < W → a < m → m < b → b ≤ l.length → SrtD l a m → SrtD l m b → FnX Tryz.prog 317 #[.slice (some ⟨g, 0, none⟩) N N, .int .i64 ((a : Nat) : Int), .int .i64 ((m : Nat) : Int), .int .i64 ((b : Nat) : Int), .func (.func f) #[] #[]] I [.blk g 96 (evCh (l)).flatten] (fun u r => u = .tuple #[] ∧ ∃ m, r = .blk g 96 (evCh (m)).flatten ∧ Seg l m a b)) (l : List Evt) (a m b : Nat) (hN : l.length = N) (hW : b - a ≤ W) (ham : a < m) (hmb : m < b) (hb : b ≤ l.length) (m1 : SrtD l a m) (m2 : SrtD l m b) :
    FnX Tryz.prog 317 #[.slice (some ⟨g, 0, none⟩) N N, .int .i64 ((a : Nat) : Int), .int .i64 ((m : Nat) : Int), .int .i64 ((b : Nat) : Int), .func (.func f) #[] #[]] I [.blk g 96 (evCh (l)).flatten] (fun u r => u = .tuple #[] ∧ ∃ m, r = .blk g 96 (evCh (m)).flatten ∧ Seg l m a b) := by
 refine enter Tryz.func317 Tryz.call317 rfl Tryz.ntmps317 rfl (fun w0 => ?_)
 refine go 5 ?_
 refine o_v rfl (OV.cast (u := .int .i64 ((m - a : Nat) : Int)) (v_sub rfl rfl ⟨by omega, by omega⟩) (congrArg (Value.int .i64) (by omega))) ?_
 refine go 3 ?_
 refine cb rfl (fun h28 p28 => ?_) (fun h28 p28 => ?_)
 ·obtain rfl : m = a + 1 := by omega
  refine go 14 ?_
  refine c_loop2 (a + 1) (b) (fun i j => I)
   (fun i j => [(0, .slice (some ⟨g, 0, none⟩) N N), (1, .int .i64 ((a : Nat) : Int)), (2, .int .i64 ((a + 1 : Nat) : Int)), (3, .int .i64 ((b : Nat) : Int)), (4, .func (.func f) #[] #[]), (10, .int .i64 ((i : Nat) : Int)), (11, .int .i64 ((j : Nat) : Int))])
   (fun i j => [.blk g 96 (evCh (l)).flatten])
   (fun i j => a + 1 ≤ i ∧ i ≤ j ∧ j ≤ b ∧ (∀ q, a + 1 ≤ q → q < i → dayAt l q < dayAt l a) ∧ (∀ q, j ≤ q → q < b → dayAt l a ≤ dayAt l q))
   (fun i j => j - i) ⟨by omega, by omega, by omega, fun q _ _ => by omega, fun q _ _ => by omega⟩ rfl sb rfl ?_
  intro i j ⟨hi1, hij, hjb, hlo, hhi⟩
  refine go 8 ?_
  refine cb rfl (fun h33 p33 => ?_) (fun h33 p33 => ?_)
  ·have hh : (i + j) / 2 < l.length := by omega
   have ha0 : a < l.length := by omega
   refine go 8 ?_
   refine o_v rfl (v_conv he he rfl (m := (i : Int) + (j : Int)) (wrap_u64 _ (by omega) (by omega))) ?_
   refine o_v rfl (v_shr1 rfl (by decide)) ?_
   refine o_v rfl (v_conv he he rfl (m := (((i + j) / 2 : Nat) : Int)) (by rw [IntKind.wrap_i64]; omega)) ?_
   refine go 4 ?_
   refine d_startH T.mixed ?_
   refine d_tv 0 rfl rfl (by kernel_rfl) rfl (.refl _) rfl (v_move rfl) ?_
   refine d_tv 1 rfl rfl (by kernel_rfl) rfl (.refl _) rfl (v_move rfl) ?_
   refine d_tv 2 rfl rfl (by kernel_rfl) rfl (.refl _) rfl (v_move rfl) ?_
   refine d_tv 3 rfl rfl (by kernel_rfl) rfl (.refl _) rfl (v_idx he rfl rfl rfl ((i + j) / 2) (by omega) (by omega)) ?_
   refine d_tv 4 rfl rfl (by kernel_rfl) rfl (.refl _) rfl (v_ldc m0 (evCh_ukE _) he rfl ((i + j) / 2) (by omega) (evCh_at hh)) ?_
   refine d_tv 5 rfl rfl (by kernel_rfl) rfl (.refl _) rfl (v_move rfl) ?_
   refine d_tv 6 rfl rfl (by kernel_rfl) rfl (.refl _) rfl (v_move rfl) ?_
   refine d_tv 7 rfl rfl (by kernel_rfl) rfl (.refl _) rfl (v_idx he rfl rfl rfl (a) (by omega) (by omega)) ?_
   refine d_tv 8 rfl rfl (by kernel_rfl) rfl (.refl _) rfl (v_ldc m0 (evCh_ukE _) he rfl (a) (by omega) (evCh_at ha0)) ?_
   refine d_one 9 (by kernel_rfl) rfl ?_
   refine o_callV (hp _ _) rfl rfl ?_
   refine d_on (fun _ m => m.keeps (.refl _)) ?_
   refine d_tv 10 rfl rfl (by kernel_rfl) rfl (.refl _) rfl (v_lss rfl rfl) ?_
   refine d_done (by kernel_rfl) ?_
   refine go 1 ?_
   refine cb rfl (fun h50 p50 => ?_) (fun h50 p50 => ?_)
   ·refine go 7 ?_
    exact q_next2 ((i + j) / 2 + 1) (j) ⟨by omega, by omega, by omega, fun q q1 q2 => by have := m2.le (p := q) (q := (i + j) / 2) q1 (by omega) (by omega); have := day_lt p50; omega, hhi⟩ (by omega) rfl sb rfl
   ·refine go 6 ?_
    exact q_next2 (i) ((i + j) / 2) ⟨by omega, by omega, by omega, hlo, fun q q1 q2 => by have := m2.le (p := (i + j) / 2) (q := q) (by omega) q1 q2; have := day_ge p50; omega⟩ (by omega) rfl sb rfl
  ·obtain rfl : i = j := by omega
   refine go 13 ?_
   refine c_loop (α := Nat) 0 (fun t => I)
    (fun t => [(0, .slice (some ⟨g, 0, none⟩) N N), (1, .int .i64 ((a : Nat) : Int)), (2, .int .i64 ((a + 1 : Nat) : Int)), (3, .int .i64 ((b : Nat) : Int)), (4, .func (.func f) #[] #[]), (10, .int .i64 ((i : Nat) : Int)), (13, .int .i64 ((a + t : Nat) : Int))])
    (fun t => [.blk g 96 (evCh (bub l a t)).flatten])
    (fun t => a + t + 1 ≤ i)
    (fun t => i - t) (by omega) rfl sb rfl ?_
   intro t ht
   refine go 5 ?_
   refine o_v rfl (OV.cast (u := .int .i64 ((i - 1 : Nat) : Int)) (v_sub rfl rfl ⟨by omega, by omega⟩) (congrArg (Value.int .i64) (by omega))) ?_
   refine go 3 ?_
   refine cb rfl (fun h58 p58 => ?_) (fun h58 p58 => ?_)
   ·have hbl := bub_len l a t
    have hk1 : a + t < (bub l a t).length := by omega
    have hk2 : a + t + 1 < (bub l a t).length := by omega
    refine go 4 ?_
    refine d_start1 T.mixed ?_
    refine d_tv 0 rfl rfl (by kernel_rfl) rfl (.cons _ .slnil) rfl (v_move rfl) ?_
    refine d_tv 1 rfl rfl (by kernel_rfl) rfl (.cons _ .slnil) rfl (v_move rfl) ?_
    refine d_tv 2 rfl rfl (by kernel_rfl) rfl (.cons _ .slnil) rfl (v_move rfl) ?_
    refine d_tv 3 rfl rfl (by kernel_rfl) rfl (.cons _ .slnil) rfl (v_move rfl) ?_
    refine d_tv 4 rfl rfl (by kernel_rfl) rfl (.cons _ .slnil) rfl (OV.cast (u := .int .i64 ((a + t + 1 : Nat) : Int)) (v_add rfl rfl ⟨by omega, by omega⟩) (congrArg (Value.int .i64) (by omega))) ?_
    refine d_tv 5 rfl rfl (by kernel_rfl) rfl (.cons _ .slnil) rfl (v_move rfl) ?_
    refine d_tv 6 rfl rfl (by kernel_rfl) rfl (.cons _ .slnil) rfl (v_move rfl) ?_
    refine d_tv 7 rfl rfl (by kernel_rfl) rfl (.cons _ .slnil) rfl (OV.cast (u := .int .i64 ((a + t + 1 : Nat) : Int)) (v_add rfl rfl ⟨by omega, by omega⟩) (congrArg (Value.int .i64) (by omega))) ?_
    refine d_tv 8 rfl rfl (by kernel_rfl) rfl (.cons _ .slnil) rfl (v_idx he rfl rfl rfl (a + t + 1) (by omega) (by omega)) ?_
    refine d_tv 10 rfl rfl (by kernel_rfl) rfl (.cons _ .slnil) rfl (v_move rfl) ?_
    refine d_tv 11 rfl rfl (by kernel_rfl) rfl (.cons _ .slnil) rfl (v_move rfl) ?_
    refine d_tv 12 rfl rfl (by kernel_rfl) rfl (.cons _ .slnil) rfl (v_idx he rfl rfl rfl (a + t) (by omega) (by omega)) ?_
    refine d_two 9 13 (by kernel_rfl) rfl rfl ?_ ?_
    ·refine o_val rfl (v_ldc m0 (evCh_ukE _) he rfl (a + t + 1) (by omega) (evCh_at hk2)) ?_
     refine d_on (fun _ m => m.keeps (.cons _ .slnil)) ?_
     refine d_one 13 (by kernel_rfl) rfl ?_
     refine o_val rfl (v_ldc m0 (evCh_ukE _) he rfl (a + t) (by omega) (evCh_at hk1)) ?_
     refine d_on (fun _ m => m.keeps (.cons _ .slnil)) ?_
     refine d_tv 14 rfl rfl (by kernel_rfl) rfl (.cons _ .slnil) rfl (v_idx he rfl rfl rfl (a + t) (by omega) (by omega)) ?_
     refine d_one 15 (by kernel_rfl) rfl ?_
     refine o_stc _ (a + t) (by first | exact evCh_ukE _ | exact (evCh_ukE _).set rfl _) he rfl rfl rfl rfl rfl (by omega) (by simp [evCh_len]; omega) ?_
     refine d_on (fun _ m => m.keeps (.cons _ .slnil)) ?_
     refine d_tv 16 rfl rfl (by kernel_rfl) rfl (.cons _ .slnil) rfl (v_idx he rfl rfl rfl (a + t + 1) (by omega) (by omega)) ?_
     refine d_one 17 (by kernel_rfl) rfl ?_
     refine o_stc _ (a + t + 1) (by first | exact evCh_ukE _ | exact (evCh_ukE _).set rfl _) he rfl rfl rfl rfl rfl (by omega) (by simp [evCh_len]; omega) ?_
     refine d_on (fun _ m => m.keeps (.cons _ .slnil)) ?_
     refine d_done (by kernel_rfl) ?_
     refine go 4 ?_
     refine o_v rfl (OV.cast (u := .int .i64 ((a + (t + 1) : Nat) : Int)) (v_add rfl rfl ⟨by omega, by omega⟩) (congrArg (Value.int .i64) (by omega))) ?_
     refine go 3 ?_
     exact q_next (t + 1) (by omega) (by omega) rfl sb (by rw [bub]; first | rw [← evCh_swp hk1 hk2] | rw [← evCh_swp' hk1 hk2 (by omega)])
    ·refine o_val rfl (v_ldc m0 (evCh_ukE _) he rfl (a + t) (by omega) (evCh_at hk1)) ?_
     refine d_on (fun _ m => m.keeps (.cons _ .slnil)) ?_
     refine d_one 9 (by kernel_rfl) rfl ?_
     refine o_val rfl (v_ldc m0 (evCh_ukE _) he rfl (a + t + 1) (by omega) (evCh_at hk2)) ?_
     refine d_on (fun _ m => m.keeps (.cons _ .slnil)) ?_
     refine d_tv 14 rfl rfl (by kernel_rfl) rfl (.cons _ .slnil) rfl (v_idx he rfl rfl rfl (a + t) (by omega) (by omega)) ?_
     refine d_one 15 (by kernel_rfl) rfl ?_
     refine o_stc _ (a + t) (by first | exact evCh_ukE _ | exact (evCh_ukE _).set rfl _) he rfl rfl rfl rfl rfl (by omega) (by simp [evCh_len]; omega) ?_
     refine d_on (fun _ m => m.keeps (.cons _ .slnil)) ?_
     refine d_tv 16 rfl rfl (by kernel_rfl) rfl (.cons _ .slnil) rfl (v_idx he rfl rfl rfl (a + t + 1) (by omega) (by omega)) ?_
     refine d_one 17 (by kernel_rfl) rfl ?_
     refine o_stc _ (a + t + 1) (by first | exact evCh_ukE _ | exact (evCh_ukE _).set rfl _) he rfl rfl rfl rfl rfl (by omega) (by simp [evCh_len]; omega) ?_
     refine d_on (fun _ m => m.keeps (.cons _ .slnil)) ?_
     refine d_done (by kernel_rfl) ?_
     refine go 4 ?_
     refine o_v rfl (OV.cast (u := .int .i64 ((a + (t + 1) : Nat) : Int)) (v_add rfl rfl ⟨by omega, by omega⟩) (congrArg (Value.int .i64) (by omega))) ?_
     refine go 3 ?_
     exact q_next (t + 1) (by omega) (by omega) rfl sb (by rw [bub]; first | rw [← evCh_swp hk1 hk2] | rw [← evCh_swp' hk1 hk2 (by omega)])
   ·refine go 7 ?_
    refine fin0 rfl ?_
    exact q_x ⟨rfl, _, rfl, (show i - 1 - a = t by omega) ▸ merge_up m2 hi1 hjb hb hlo hhi⟩
 ·have hma : a + 2 ≤ m := by omega
  refine go 7 ?_
  refine o_v rfl (OV.cast (u := .int .i64 ((b - m : Nat) : Int)) (v_sub rfl rfl ⟨by omega, by omega⟩) (congrArg (Value.int .i64) (by omega))) ?_
  refine go 3 ?_
  refine cb rfl (fun h80 p80 => ?_) (fun h80 p80 => ?_)
  ·obtain rfl : b = m + 1 := by omega
   refine go 14 ?_
   refine c_loop2 (a) (m) (fun i j => I)
    (fun i j => [(0, .slice (some ⟨g, 0, none⟩) N N), (1, .int .i64 ((a : Nat) : Int)), (2, .int .i64 ((m : Nat) : Int)), (3, .int .i64 ((m + 1 : Nat) : Int)), (4, .func (.func f) #[] #[]), (14, .int .i64 ((i : Nat) : Int)), (15, .int .i64 ((j : Nat) : Int))])
    (fun i j => [.blk g 96 (evCh (l)).flatten])
    (fun i j => a ≤ i ∧ i ≤ j ∧ j ≤ m ∧ (∀ q, a ≤ q → q < i → dayAt l q ≤ dayAt l m) ∧ (∀ q, j ≤ q → q < m → dayAt l m < dayAt l q))
    (fun i j => j - i) ⟨by omega, by omega, by omega, fun q _ _ => by omega, fun q _ _ => by omega⟩ rfl sb rfl ?_
   intro i j ⟨hi1, hij, hjb, hlo, hhi⟩
   refine go 8 ?_
   refine cb rfl (fun h85 p85 => ?_) (fun h85 p85 => ?_)
   ·have hh : (i + j) / 2 < l.length := by omega
    have hm0 : m < l.length := by omega
    refine go 8 ?_
    refine o_v rfl (v_conv he he rfl (m := (i : Int) + (j : Int)) (wrap_u64 _ (by omega) (by omega))) ?_
    refine o_v rfl (v_shr1 rfl (by decide)) ?_
    refine o_v rfl (v_conv he he rfl (m := (((i + j) / 2 : Nat) : Int)) (by rw [IntKind.wrap_i64]; omega)) ?_
    refine go 4 ?_
    refine d_startH T.mixed ?_
    refine d_tv 0 rfl rfl (by kernel_rfl) rfl (.refl _) rfl (v_move rfl) ?_
    refine d_tv 1 rfl rfl (by kernel_rfl) rfl (.refl _) rfl (v_move rfl) ?_
    refine d_tv 2 rfl rfl (by kernel_rfl) rfl (.refl _) rfl (v_move rfl) ?_
    refine d_tv 3 rfl rfl (by kernel_rfl) rfl (.refl _) rfl (v_idx he rfl rfl rfl (m) (by omega) (by omega)) ?_
    refine d_tv 4 rfl rfl (by kernel_rfl) rfl (.refl _) rfl (v_ldc m0 (evCh_ukE _) he rfl (m) (by omega) (evCh_at hm0)) ?_
    refine d_tv 5 rfl rfl (by kernel_rfl) rfl (.refl _) rfl (v_move rfl) ?_
    refine d_tv 6 rfl rfl (by kernel_rfl) rfl (.refl _) rfl (v_move rfl) ?_
    refine d_tv 7 rfl rfl (by kernel_rfl) rfl (.refl _) rfl (v_idx he rfl rfl rfl ((i + j) / 2) (by omega) (by omega)) ?_
    refine d_tv 8 rfl rfl (by kernel_rfl) rfl (.refl _) rfl (v_ldc m0 (evCh_ukE _) he rfl ((i + j) / 2) (by omega) (evCh_at hh)) ?_
    refine d_one 9 (by kernel_rfl) rfl ?_
    refine o_callV (hp _ _) rfl rfl ?_
    refine d_on (fun _ m => m.keeps (.refl _)) ?_
    refine d_tv 10 rfl rfl (by kernel_rfl) rfl (.refl _) rfl (v_lss rfl rfl) ?_
    refine d_tv 11 rfl rfl (by kernel_rfl) rfl (.refl _) rfl (v_not rfl) ?_
    refine d_done (by kernel_rfl) ?_
    refine go 1 ?_
    refine cb rfl (fun h103 p103 => ?_) (fun h103 p103 => ?_)
    ·refine go 7 ?_
     exact q_next2 ((i + j) / 2 + 1) (j) ⟨by omega, by omega, by omega, fun q q1 q2 => by have := m1.le (p := q) (q := (i + j) / 2) q1 (by omega) (by omega); have := day_ge p103; omega, hhi⟩ (by omega) rfl sb rfl
    ·refine go 6 ?_
     exact q_next2 (i) ((i + j) / 2) ⟨by omega, by omega, by omega, hlo, fun q q1 q2 => by have := m1.le (p := (i + j) / 2) (q := q) (by omega) q1 q2; have := day_lt p103; omega⟩ (by omega) rfl sb rfl
   ·obtain rfl : i = j := by omega
    refine go 13 ?_
    refine c_loop (α := Nat) 0 (fun t => I)
     (fun t => [(0, .slice (some ⟨g, 0, none⟩) N N), (1, .int .i64 ((a : Nat) : Int)), (2, .int .i64 ((m : Nat) : Int)), (3, .int .i64 ((m + 1 : Nat) : Int)), (4, .func (.func f) #[] #[]), (14, .int .i64 ((i : Nat) : Int)), (17, .int .i64 ((m - t : Nat) : Int))])
     (fun t => [.blk g 96 (evCh (bud l m t)).flatten])
     (fun t => t + i ≤ m)
     (fun t => m - t) (by omega) rfl ⟨rfl, rfl, rfl, rfl, rfl, rfl, congrArg (fun z : Int => some (Value.int .i64 z)) (by omega), trivial⟩ rfl ?_
    intro t ht
    refine go 8 ?_
    refine cb rfl (fun h110 p110 => ?_) (fun h110 p110 => ?_)
    ·have hbl := bud_len l m t
     have hk1 : m - t < (bud l m t).length := by omega
     have hk2 : m - t - 1 < (bud l m t).length := by omega
     refine go 4 ?_
     refine d_start1 T.mixed ?_
     refine d_tv 0 rfl rfl (by kernel_rfl) rfl (.cons _ .slnil) rfl (v_move rfl) ?_
     refine d_tv 1 rfl rfl (by kernel_rfl) rfl (.cons _ .slnil) rfl (v_move rfl) ?_
     refine d_tv 2 rfl rfl (by kernel_rfl) rfl (.cons _ .slnil) rfl (v_move rfl) ?_
     refine d_tv 3 rfl rfl (by kernel_rfl) rfl (.cons _ .slnil) rfl (v_move rfl) ?_
     refine d_tv 4 rfl rfl (by kernel_rfl) rfl (.cons _ .slnil) rfl (OV.cast (u := .int .i64 ((m - t - 1 : Nat) : Int)) (v_sub rfl rfl ⟨by omega, by omega⟩) (congrArg (Value.int .i64) (by omega))) ?_
     refine d_tv 5 rfl rfl (by kernel_rfl) rfl (.cons _ .slnil) rfl (v_move rfl) ?_
     refine d_tv 6 rfl rfl (by kernel_rfl) rfl (.cons _ .slnil) rfl (v_move rfl) ?_
     refine d_tv 7 rfl rfl (by kernel_rfl) rfl (.cons _ .slnil) rfl (OV.cast (u := .int .i64 ((m - t - 1 : Nat) : Int)) (v_sub rfl rfl ⟨by omega, by omega⟩) (congrArg (Value.int .i64) (by omega))) ?_
     refine d_tv 8 rfl rfl (by kernel_rfl) rfl (.cons _ .slnil) rfl (v_idx he rfl rfl rfl (m - t - 1) (by omega) (by omega)) ?_
     refine d_tv 10 rfl rfl (by kernel_rfl) rfl (.cons _ .slnil) rfl (v_move rfl) ?_
     refine d_tv 11 rfl rfl (by kernel_rfl) rfl (.cons _ .slnil) rfl (v_move rfl) ?_
     refine d_tv 12 rfl rfl (by kernel_rfl) rfl (.cons _ .slnil) rfl (v_idx he rfl rfl rfl (m - t) (by omega) (by omega)) ?_
     refine d_two 9 13 (by kernel_rfl) rfl rfl ?_ ?_
     ·refine o_val rfl (v_ldc m0 (evCh_ukE _) he rfl (m - t - 1) (by omega) (evCh_at hk2)) ?_
      refine d_on (fun _ m => m.keeps (.cons _ .slnil)) ?_
      refine d_one 13 (by kernel_rfl) rfl ?_
      refine o_val rfl (v_ldc m0 (evCh_ukE _) he rfl (m - t) (by omega) (evCh_at hk1)) ?_
      refine d_on (fun _ m => m.keeps (.cons _ .slnil)) ?_
      refine d_tv 14 rfl rfl (by kernel_rfl) rfl (.cons _ .slnil) rfl (v_idx he rfl rfl rfl (m - t) (by omega) (by omega)) ?_
      refine d_one 15 (by kernel_rfl) rfl ?_
      refine o_stc _ (m - t) (by first | exact evCh_ukE _ | exact (evCh_ukE _).set rfl _) he rfl rfl rfl rfl rfl (by omega) (by simp [evCh_len]; omega) ?_
      refine d_on (fun _ m => m.keeps (.cons _ .slnil)) ?_
      refine d_tv 16 rfl rfl (by kernel_rfl) rfl (.cons _ .slnil) rfl (v_idx he rfl rfl rfl (m - t - 1) (by omega) (by omega)) ?_
      refine d_one 17 (by kernel_rfl) rfl ?_
      refine o_stc _ (m - t - 1) (by first | exact evCh_ukE _ | exact (evCh_ukE _).set rfl _) he rfl rfl rfl rfl rfl (by omega) (by simp [evCh_len]; omega) ?_
      refine d_on (fun _ m => m.keeps (.cons _ .slnil)) ?_
      refine d_done (by kernel_rfl) ?_
      refine go 4 ?_
      refine o_v rfl (OV.cast (u := .int .i64 ((m - (t + 1) : Nat) : Int)) (v_sub rfl rfl ⟨by omega, by omega⟩) (congrArg (Value.int .i64) (by omega))) ?_
      refine go 3 ?_
      exact q_next (t + 1) (by omega) (by omega) rfl sb (by rw [bud]; first | rw [← evCh_swp hk1 hk2] | rw [← evCh_swp' hk1 hk2 (by omega)])
     ·refine o_val rfl (v_ldc m0 (evCh_ukE _) he rfl (m - t) (by omega) (evCh_at hk1)) ?_
      refine d_on (fun _ m => m.keeps (.cons _ .slnil)) ?_
      refine d_one 9 (by kernel_rfl) rfl ?_
      refine o_val rfl (v_ldc m0 (evCh_ukE _) he rfl (m - t - 1) (by omega) (evCh_at hk2)) ?_
      refine d_on (fun _ m => m.keeps (.cons _ .slnil)) ?_
      refine d_tv 14 rfl rfl (by kernel_rfl) rfl (.cons _ .slnil) rfl (v_idx he rfl rfl rfl (m - t) (by omega) (by omega)) ?_
      refine d_one 15 (by kernel_rfl) rfl ?_
      refine o_stc _ (m - t) (by first | exact evCh_ukE _ | exact (evCh_ukE _).set rfl _) he rfl rfl rfl rfl rfl (by omega) (by simp [evCh_len]; omega) ?_
      refine d_on (fun _ m => m.keeps (.cons _ .slnil)) ?_
      refine d_tv 16 rfl rfl (by kernel_rfl) rfl (.cons _ .slnil) rfl (v_idx he rfl rfl rfl (m - t - 1) (by omega) (by omega)) ?_
      refine d_one 17 (by kernel_rfl) rfl ?_
      refine o_stc _ (m - t - 1) (by first | exact evCh_ukE _ | exact (evCh_ukE _).set rfl _) he rfl rfl rfl rfl rfl (by omega) (by simp [evCh_len]; omega) ?_
      refine d_on (fun _ m => m.keeps (.cons _ .slnil)) ?_
      refine d_done (by kernel_rfl) ?_
      refine go 4 ?_
      refine o_v rfl (OV.cast (u := .int .i64 ((m - (t + 1) : Nat) : Int)) (v_sub rfl rfl ⟨by omega, by omega⟩) (congrArg (Value.int .i64) (by omega))) ?_
      refine go 3 ?_
      exact q_next (t + 1) (by omega) (by omega) rfl sb (by rw [bud]; first | rw [← evCh_swp hk1 hk2] | rw [← evCh_swp' hk1 hk2 (by omega)])
    ·refine go 7 ?_
     refine fin0 rfl ?_
     exact q_x ⟨rfl, _, rfl, (show m - i = t by omega) ▸ merge_down m1 hi1 hjb (by omega) hlo hhi⟩
  ·have hmb2 : m + 2 ≤ b := by omega
   refine go 7 ?_
   refine o_v rfl (v_conv he he rfl (m := (a : Int) + (b : Int)) (wrap_u64 _ (by omega) (by omega))) ?_
   refine o_v rfl (v_shr1 rfl (by decide)) ?_
   refine o_v rfl (v_conv he he rfl (m := (((a + b) / 2 : Nat) : Int)) (by rw [IntKind.wrap_i64]; omega)) ?_
   refine go 7 ?_
   refine o_v rfl (OV.cast (u := .int .i64 ((((a + b) / 2) + m : Nat) : Int)) (v_add rfl rfl ⟨by omega, by omega⟩) (congrArg (Value.int .i64) (by omega))) ?_
   refine go 10 ?_
   refine c_cutx2 (Ix := (fun S R => I)) (Lx := (fun S R => [(0, .slice (some ⟨g, 0, none⟩) N N), (1, .int .i64 ((a : Nat) : Int)), (2, .int .i64 ((m : Nat) : Int)), (3, .int .i64 ((b : Nat) : Int)), (4, .func (.func f) #[] #[]), (18, .int .i64 ((((a + b) / 2) : Nat) : Int)), (19, .int .i64 ((((a + b) / 2) + m : Nat) : Int)), (20, .int .i64 ((S : Nat) : Int)), (21, .int .i64 ((R : Nat) : Int))])) (Hx := (fun S R => [.blk g 96 (evCh (l)).flatten])) (p := (fun S R => (((a + b) / 2) < m ∧ S = ((a + b) / 2) + m - b ∧ R = ((a + b) / 2)) ∨ (m ≤ ((a + b) / 2) ∧ S = a ∧ R = m))) ?_ ?_
   ·refine go 7 ?_
    refine cb rfl (fun h140 p140 => ?_) (fun h140 p140 => ?_)
    ·refine go 4 ?_
     refine o_v rfl (OV.cast (u := .int .i64 ((((a + b) / 2) + m - b : Nat) : Int)) (v_sub rfl rfl ⟨by omega, by omega⟩) (congrArg (Value.int .i64) (by omega))) ?_
     refine go 8 ?_
     exact q_cutx2 (((a + b) / 2) + m - b) (((a + b) / 2)) (.inl ⟨by omega, rfl, rfl⟩) sb rfl rfl
    ·refine go 11 ?_
     exact q_cutx2 (a) (m) (.inr ⟨by omega, rfl, rfl⟩) sb rfl rfl
   ·intro S R hS
    refine go 3 ?_
    refine o_v rfl (OV.cast (u := .int .i64 ((((a + b) / 2) + m - 1 : Nat) : Int)) (v_sub rfl rfl ⟨by omega, by omega⟩) (congrArg (Value.int .i64) (by omega))) ?_
    refine go 5 ?_
    refine c_loop2 (S) (R) (fun s r => I)
     (fun s r => [(0, .slice (some ⟨g, 0, none⟩) N N), (1, .int .i64 ((a : Nat) : Int)), (2, .int .i64 ((m : Nat) : Int)), (3, .int .i64 ((b : Nat) : Int)), (4, .func (.func f) #[] #[]), (18, .int .i64 ((((a + b) / 2) : Nat) : Int)), (19, .int .i64 ((((a + b) / 2) + m : Nat) : Int)), (20, .int .i64 ((s : Nat) : Int)), (21, .int .i64 ((r : Nat) : Int)), (22, .int .i64 ((((a + b) / 2) + m - 1 : Nat) : Int))])
     (fun s r => [.blk g 96 (evCh (l)).flatten])
     (fun s r => S ≤ s ∧ s ≤ r ∧ r ≤ R ∧ (∀ q, S ≤ q → q < s → dayAt l q ≤ dayAt l (((a + b) / 2) + m - 1 - q)) ∧ (∀ q, r ≤ q → q < R → dayAt l (((a + b) / 2) + m - 1 - q) < dayAt l q))
     (fun s r => r - s) ⟨by omega, by omega, by omega, fun q _ _ => by omega, fun q _ _ => by omega⟩ rfl sb rfl ?_
    intro s r ⟨hs1, hsr, hrR, hlo, hhi⟩
    refine go 8 ?_
    refine cb rfl (fun h151 p151 => ?_) (fun h151 p151 => ?_)
    ·have hh : (s + r) / 2 < l.length := by omega
     have hh2 : ((a + b) / 2) + m - 1 - (s + r) / 2 < l.length := by omega
     refine go 8 ?_
     refine o_v rfl (v_conv he he rfl (m := (s : Int) + (r : Int)) (wrap_u64 _ (by omega) (by omega))) ?_
     refine o_v rfl (v_shr1 rfl (by decide)) ?_
     refine o_v rfl (v_conv he he rfl (m := (((s + r) / 2 : Nat) : Int)) (by rw [IntKind.wrap_i64]; omega)) ?_
     refine go 4 ?_
     refine d_startH T.mixed ?_
     refine d_tv 0 rfl rfl (by kernel_rfl) rfl (.refl _) rfl (v_move rfl) ?_
     refine d_tv 1 rfl rfl (by kernel_rfl) rfl (.refl _) rfl (v_move rfl) ?_
     refine d_tv 2 rfl rfl (by kernel_rfl) rfl (.refl _) rfl (v_move rfl) ?_
     refine d_tv 3 rfl rfl (by kernel_rfl) rfl (.refl _) rfl (v_move rfl) ?_
     refine d_tv 4 rfl rfl (by kernel_rfl) rfl (.refl _) rfl (OV.cast (u := .int .i64 ((((a + b) / 2) + m - 1 - (s + r) / 2 : Nat) : Int)) (v_sub rfl rfl ⟨by omega, by omega⟩) (congrArg (Value.int .i64) (by omega))) ?_
     refine d_tv 5 rfl rfl (by kernel_rfl) rfl (.refl _) rfl (v_idx he rfl rfl rfl (((a + b) / 2) + m - 1 - (s + r) / 2) (by omega) (by omega)) ?_
     refine d_tv 6 rfl rfl (by kernel_rfl) rfl (.refl _) rfl (v_ldc m0 (evCh_ukE _) he rfl (((a + b) / 2) + m - 1 - (s + r) / 2) (by omega) (evCh_at hh2)) ?_
     refine d_tv 7 rfl rfl (by kernel_rfl) rfl (.refl _) rfl (v_move rfl) ?_
     refine d_tv 8 rfl rfl (by kernel_rfl) rfl (.refl _) rfl (v_move rfl) ?_
     refine d_tv 9 rfl rfl (by kernel_rfl) rfl (.refl _) rfl (v_idx he rfl rfl rfl ((s + r) / 2) (by omega) (by omega)) ?_
     refine d_tv 10 rfl rfl (by kernel_rfl) rfl (.refl _) rfl (v_ldc m0 (evCh_ukE _) he rfl ((s + r) / 2) (by omega) (evCh_at hh)) ?_
     refine d_one 11 (by kernel_rfl) rfl ?_
     refine o_callV (hp _ _) rfl rfl ?_
     refine d_on (fun _ m => m.keeps (.refl _)) ?_
     refine d_tv 12 rfl rfl (by kernel_rfl) rfl (.refl _) rfl (v_lss rfl rfl) ?_
     refine d_tv 13 rfl rfl (by kernel_rfl) rfl (.refl _) rfl (v_not rfl) ?_
     refine d_done (by kernel_rfl) ?_
     refine go 1 ?_
     refine cb rfl (fun h171 p171 => ?_) (fun h171 p171 => ?_)
     ·refine go 7 ?_
      exact q_next2 ((s + r) / 2 + 1) (r) ⟨by omega, by omega, by omega, spl_up m1 m2 ham hmb rfl hS (h := (s + r) / 2) (r := r) (by omega) (by omega) hrR (day_ge p171), hhi⟩ (by omega) rfl sb rfl
     ·refine go 6 ?_
      exact q_next2 (s) ((s + r) / 2) ⟨by omega, by omega, by omega, hlo, spl_dn m1 m2 ham hmb rfl hS (h := (s + r) / 2) (s := s) hs1 (by omega) (by omega) (day_lt p171)⟩ (by omega) rfl sb rfl
    ·obtain rfl : s = r := by omega
     obtain ⟨hx, hy⟩ := spl_fin m1 m2 ham hmb rfl hS hs1 hrR hlo hhi
     have g0 : a ≤ s := by omega
     have g1 : s ≤ m := by omega
     have g2 : m ≤ ((a + b) / 2 + m - s) := by omega
     have g3 : ((a + b) / 2 + m - s) ≤ b := by omega
     have hc : s + (((a + b) / 2 + m - s) - m) = ((a + b) / 2) := by omega
     refine go 9 ?_
     refine o_v rfl (OV.cast (u := .int .i64 ((((a + b) / 2 + m - s) : Nat) : Int)) (v_sub rfl rfl ⟨by omega, by omega⟩) (congrArg (Value.int .i64) (by omega))) ?_
     refine go 4 ?_
     refine c_cutx (α := List Evt) (Ix := (fun k => I)) (Lx := (fun k => [(0, .slice (some ⟨g, 0, none⟩) N N), (1, .int .i64 ((a : Nat) : Int)), (2, .int .i64 ((m : Nat) : Int)), (3, .int .i64 ((b : Nat) : Int)), (4, .func (.func f) #[] #[]), (18, .int .i64 ((((a + b) / 2) : Nat) : Int)), (20, .int .i64 ((s : Nat) : Int)), (24, .int .i64 ((((a + b) / 2 + m - s) : Nat) : Int))])) (Hx := (fun k => [.blk g 96 (evCh (k)).flatten])) (p := (fun k => Rot l k a s m ((a + b) / 2 + m - s) b)) ?_ ?_
     ·refine go 6 ?_
      refine sxb 181 rfl (fun h181 p181 => ?_) (fun h181 p181 => ?_)
      ·refine go 6 ?_
       refine cb rfl (fun h185 p185 => ?_) (fun h185 p185 => ?_)
       ·refine go 7 ?_
        refine o_callX1 (rotate _ l N hN g s m ((a + b) / 2 + m - s) f (by omega) (by omega) (by omega) (by omega)) rfl rfl (fun v191 s191 q191 => ?_)
        obtain ⟨rfl, k, rfl, hkl, hk⟩ := q191
        refine go 2 ?_
        exact q_cutx k (Rot.of g1 g2 (by omega) hkl hk hx) sb rfl rfl
       ·refine go 2 ?_
        exact q_cutx l (Rot.id (by omega) g1 g2) sb rfl rfl
      ·refine go 6 ?_
       refine c_false rfl ?_
       refine go 2 ?_
       exact q_cutx l (Rot.id (by omega) g1 g2) sb rfl rfl
     ·intro k hk
      refine go 1 ?_
      refine c_cutx (α := List Evt) (Ix := (fun k1 => I)) (Lx := (fun k1 => [(0, .slice (some ⟨g, 0, none⟩) N N), (1, .int .i64 ((a : Nat) : Int)), (2, .int .i64 ((m : Nat) : Int)), (3, .int .i64 ((b : Nat) : Int)), (4, .func (.func f) #[] #[]), (18, .int .i64 ((((a + b) / 2) : Nat) : Int)), (20, .int .i64 ((s : Nat) : Int)), (24, .int .i64 ((((a + b) / 2 + m - s) : Nat) : Int))])) (Hx := (fun k1 => [.blk g 96 (evCh (k1)).flatten])) (p := (fun k1 => Seg k k1 a ((a + b) / 2))) ?_ ?_
      ·refine go 6 ?_
       refine sxb 195 rfl (fun h195 p195 => ?_) (fun h195 p195 => ?_)
       ·refine go 6 ?_
        refine cb rfl (fun h199 p199 => ?_) (fun h199 p199 => ?_)
        ·refine go 7 ?_
         refine o_callX1 (ih k a s ((a + b) / 2) (hk.len.trans hN) (by omega) (by omega) (by omega) (by have := hk.len; omega) (hk.p1 m1 g1) ((hk.p2 m2 g1 g2 g3).sub (Nat.le_refl _) (by omega))) rfl rfl (fun v205 s205 q205 => ?_)
         obtain ⟨rfl, k1, rfl, hk1⟩ := q205
         refine go 2 ?_
         exact q_cutx k1 hk1 sb rfl rfl
        ·refine go 2 ?_
         exact q_cutx k (Seg.refl' (hk.left m1 m2 g1 g2 g3 hc (by omega) g0)) sb rfl rfl
       ·refine go 6 ?_
        refine c_false rfl ?_
        refine go 2 ?_
        exact q_cutx k (Seg.refl' (hk.left m1 m2 g1 g2 g3 hc (by omega) g0)) sb rfl rfl
      ·intro k1 hk1
       have hl1 : k1.length = N := hk1.len.trans (hk.len.trans hN)
       refine go 6 ?_
       refine sxb 209 rfl (fun h209 p209 => ?_) (fun h209 p209 => ?_)
       ·refine go 6 ?_
        refine cb rfl (fun h213 p213 => ?_) (fun h213 p213 => ?_)
        ·refine go 7 ?_
         refine o_callX1 (ih k1 ((a + b) / 2) ((a + b) / 2 + m - s) b hl1 (by omega) (by omega) (by omega) (by omega) (hk1.keepD (Nat.le_refl _) ((hk.p3 m1 g0 g1 g2).sub (by omega) (Nat.le_refl _))) (hk1.keepD (by omega) (hk.p4 m2 g1 g2))) rfl rfl (fun v219 s219 q219 => ?_)
         obtain ⟨rfl, k2, rfl, hk2⟩ := q219
         refine go 1 ?_
         refine end0 rfl ?_
         exact q_x ⟨rfl, k2, rfl, hk.done m1 m2 g0 g1 g2 g3 hb hc hx hy hk1 hk2⟩
        ·refine go 1 ?_
         refine end0 rfl ?_
         exact q_x ⟨rfl, k1, rfl, hk.done m1 m2 g0 g1 g2 g3 hb hc hx hy hk1 (Seg.refl' (hk1.keepD (Nat.le_refl _) (hk.right m1 m2 g0 g1 g2 hc (by omega) g3)))⟩
       ·refine go 6 ?_
        refine c_false rfl ?_
        refine go 1 ?_
        refine end0 rfl ?_
        exact q_x ⟨rfl, k1, rfl, hk.done m1 m2 g0 g1 g2 g3 hb hc hx hy hk1 (Seg.refl' (hk1.keepD (Nat.le_refl _) (hk.right m1 m2 g0 g1 g2 hc (by omega) g3)))⟩

theorem symMerge (I : IMap) (N g : Nat) (f : FuncId) (hp : ∀ x y : Evt, FnV Tryz.prog f #[.agg (Day.ch x).toArray, .agg (Day.ch y).toArray] I (.int .i64 (cmpI (Day.day x) (Day.day y)))) (hN0 : N ≤ 1000000) (W : Nat) : ∀ (l : List Evt) (a m b : Nat), l.length = N → b - a ≤ W → a < m → m < b → b ≤ l.length → SrtD l a m → SrtD l m b → FnX Tryz.prog 317 #[.slice (some ⟨g, 0, none⟩) N N, .int .i64 ((a : Nat) : Int), .int .i64 ((m : Nat) : Int), .int .i64 ((b : Nat) : Int), .func (.func f) #[] #[]] I [.blk g 96 (evCh (l)).flatten] (fun u r => u = .tuple #[] ∧ ∃ m, r = .blk g 96 (evCh (m)).flatten ∧ Seg l m a b) := by
  induction W using Nat.strongRecOn with
  | _ W ih => exact fun l a m b hN hW ham hmb hb m1 m2 => symMergeW I N g f hp hN0 W (fun l' a' m' b' h1 h2 h3 h4 h5 h6 h7 => ih (b' - a') h2 l' a' m' b' h1 (Nat.le_refl _) h3 h4 h5 h6 h7) l a m b hN hW ham hmb hb m1 m2

theorem stable (I : IMap) (N g : Nat) (f : FuncId) (hp : ∀ x y : Evt, FnV Tryz.prog f #[.agg (Day.ch x).toArray, .agg (Day.ch y).toArray] I (.int .i64 (cmpI (Day.day x) (Day.day y)))) (hN0 : N ≤ 1000000) (l : List Evt) (hN : l.length = N) :
    FnX Tryz.prog 258 #[.slice (some ⟨g, 0, none⟩) N N, .int .i64 ((N : Nat) : Int), .func (.func f) #[] #[]] I [.blk g 96 (evCh (l)).flatten] (fun u r => u = .tuple #[] ∧ ∃ m, r = .blk g 96 (evCh (m)).flatten ∧ Stb l m ∧ SrtD m 0 N) := by
 refine enter Tryz.func258 Tryz.call258 rfl Tryz.ntmps258 rfl (fun w0 => ?_)
 refine go 14 ?_
 refine c_loop2 (0) (l) (fun a m => I)
  (fun a m => [(0, .slice (some ⟨g, 0, none⟩) N N), (1, .int .i64 ((N : Nat) : Int)), (2, .func (.func f) #[] #[]), (6, .int .i64 20), (7, .int .i64 ((a : Nat) : Int)), (8, .int .i64 ((a + 20 : Nat) : Int))])
  (fun a m => [.blk g 96 (evCh (m)).flatten])
  (fun a m => a ≤ N ∧ Stb l m ∧ Pre m 20 a)
  (fun a m => N - a) ⟨Nat.zero_le _, Stb.refl l, .zero⟩ rfl sb rfl ?_
 intro a m ⟨ha, hs, hP⟩
 have hmN : m.length = N := hs.1.symm.trans hN
 refine go 8 ?_
 refine cb rfl (fun h13 p13 => ?_) (fun h13 p13 => ?_)
 ·refine go 10 ?_
  refine o_callX1 (insSort _ m N hmN g a (a + 20) f hp (by omega) (by omega) (by omega)) rfl rfl (fun v18 s18 q18 => ?_)
  obtain ⟨rfl, k18, rfl, h18⟩ := q18
  refine go 11 ?_
  refine o_v rfl (OV.cast (u := .int .i64 ((a + 20 + 20 : Nat) : Int)) (v_add rfl rfl ⟨by omega, by omega⟩) (congrArg (Value.int .i64) (by omega))) ?_
  refine go 4 ?_
  exact q_next2 (a + 20) (k18) ⟨by omega, hs.trans h18.stb, hP.put h18⟩ (by omega) rfl sb rfl
 ·refine go 12 ?_
  refine o_callX1 (insSort _ m N hmN g a N f hp ha (by omega) (by omega)) rfl rfl (fun v27 s27 q27 => ?_)
  obtain ⟨rfl, m3, rfl, h27⟩ := q27
  refine go 3 ?_
  refine c_loop2 (20) (m3) (fun q m => I)
   (fun q m => [(0, .slice (some ⟨g, 0, none⟩) N N), (1, .int .i64 ((N : Nat) : Int)), (2, .func (.func f) #[] #[]), (6, .int .i64 ((q : Nat) : Int))])
   (fun q m => [.blk g 96 (evCh (m)).flatten])
   (fun q m => 1 ≤ q ∧ Stb l m ∧ Blk m q N 0)
   (fun q m => N - q) ⟨by omega, hs.trans h27.stb, hP.last h27 ha (by omega)⟩ rfl sb rfl ?_
  intro q m ⟨hq, hs, hB⟩
  have hmN : m.length = N := hs.1.symm.trans hN
  refine go 8 ?_
  refine cb rfl (fun h30 p30 => ?_) (fun h30 p30 => ?_)
  ·refine go 6 ?_
   refine o_v rfl (OV.cast (u := .int .i64 ((2 * q : Nat) : Int)) (v_mul rfl rfl ⟨by omega, by omega⟩) (congrArg (Value.int .i64) (by omega))) ?_
   refine go 6 ?_
   refine c_loop2 (0) (m) (fun a k => I)
    (fun a k => [(0, .slice (some ⟨g, 0, none⟩) N N), (1, .int .i64 ((N : Nat) : Int)), (2, .func (.func f) #[] #[]), (6, .int .i64 ((q : Nat) : Int)), (7, .int .i64 ((a : Nat) : Int)), (8, .int .i64 ((a + 2 * q : Nat) : Int))])
    (fun a k => [.blk g 96 (evCh (k)).flatten])
    (fun a k => a ≤ N ∧ Stb l k ∧ Pre k (2 * q) a ∧ Blk k q N a)
    (fun a k => N - a) ⟨Nat.zero_le _, hs, .zero, hB⟩ rfl ⟨rfl, rfl, rfl, rfl, rfl, congrArg (fun z : Int => some (Value.int .i64 z)) (by omega), trivial⟩ rfl ?_
   intro a k ⟨ha, hkS, hkP, hkB⟩
   have hkN : k.length = N := hkS.1.symm.trans hN
   refine go 8 ?_
   refine cb rfl (fun h35 p35 => ?_) (fun h35 p35 => ?_)
   ·obtain ⟨t1, t2, t3⟩ := hkB.two (by omega) hq
    refine go 9 ?_
    refine o_v rfl (OV.cast (u := .int .i64 ((a + q : Nat) : Int)) (v_add rfl rfl ⟨by omega, by omega⟩) (congrArg (Value.int .i64) (by omega))) ?_
    refine go 3 ?_
    refine o_callX1 (symMerge _ N g f hp hN0 _ k a (a + q) (a + 2 * q) hkN (Nat.le_refl _) (by omega) (by omega) (by omega) t1 t2) rfl rfl (fun v43 s43 q43 => ?_)
    obtain ⟨rfl, k43, rfl, h43⟩ := q43
    refine go 11 ?_
    refine o_v rfl (OV.cast (u := .int .i64 ((2 * q : Nat) : Int)) (v_mul rfl rfl ⟨by omega, by omega⟩) (congrArg (Value.int .i64) (by omega))) ?_
    refine o_v rfl (OV.cast (u := .int .i64 ((a + 2 * q + 2 * q : Nat) : Int)) (v_add rfl rfl ⟨by omega, by omega⟩) (congrArg (Value.int .i64) (by omega))) ?_
    refine go 4 ?_
    exact q_next2 (a + 2 * q) (k43) ⟨by omega, hkS.trans h43.stb, hkP.put h43, t3.same fun z z1 z2 => h43.out z (.inr (by omega))⟩ (by omega) rfl sb rfl
   ·refine go 6 ?_
    refine c_cutx (α := List Evt) (Ix := (fun k => I)) (Lx := (fun k => [(0, .slice (some ⟨g, 0, none⟩) N N), (1, .int .i64 ((N : Nat) : Int)), (2, .func (.func f) #[] #[]), (6, .int .i64 ((q : Nat) : Int))])) (Hx := (fun k => [.blk g 96 (evCh (k)).flatten])) (p := (fun k => Stb l k ∧ Blk k (2 * q) N 0)) ?_ ?_
    ·refine go 4 ?_
     refine o_v rfl (OV.cast (u := .int .i64 ((a + q : Nat) : Int)) (v_add rfl rfl ⟨by omega, by omega⟩) (congrArg (Value.int .i64) (by omega))) ?_
     refine go 10 ?_
     refine cb rfl (fun h54 p54 => ?_) (fun h54 p54 => ?_)
     ·obtain ⟨t1, t2⟩ := hkB.one (by omega)
      refine go 7 ?_
      refine o_callX1 (symMerge _ N g f hp hN0 _ k a (a + q) N hkN (Nat.le_refl _) (by omega) (by omega) (by omega) t1 (t2 (by omega))) rfl rfl (fun v60 s60 q60 => ?_)
      obtain ⟨rfl, k60, rfl, h60⟩ := q60
      refine go 2 ?_
      exact q_cutx k60 ⟨hkS.trans h60.stb, hkP.last h60 ha (by omega)⟩ sb rfl rfl
     ·refine go 2 ?_
      exact q_cutx k ⟨hkS, hkP.last (Seg.refl' (hkB.all (by omega))) ha (by omega)⟩ sb rfl rfl
    ·intro k ⟨hkS, hkB⟩
     refine go 2 ?_
     refine o_v rfl (OV.cast (u := .int .i64 ((2 * q : Nat) : Int)) (v_mul rfl rfl ⟨by omega, by omega⟩) (congrArg (Value.int .i64) (by omega))) ?_
     refine go 4 ?_
     exact q_next2 (2 * q) (k) ⟨by omega, hkS, hkB⟩ (by omega) rfl sb rfl
  ·refine go 4 ?_
   refine end0 rfl ?_
   exact q_x ⟨rfl, m, rfl, hs, hB.all (by omega)⟩

theorem sortStable (I : IMap) (N g : Nat) (f : FuncId) (hp : ∀ x y : Evt, FnV Tryz.prog f #[.agg (Day.ch x).toArray, .agg (Day.ch y).toArray] I (.int .i64 (cmpI (Day.day x) (Day.day y)))) (hN0 : N ≤ 1000000) (l : List Evt) (hN : l.length = N) :
    FnX Tryz.prog 209 #[.slice (some ⟨g, 0, none⟩) N N, .func (.func f) #[] #[]] I [.blk g 96 (evCh (l)).flatten] (fun u r => u = .tuple #[] ∧ ∃ m, r = .blk g 96 (evCh (m)).flatten ∧ Stb l m ∧ SrtD m 0 N) := by
 refine enter Tryz.func209 Tryz.call209 rfl Tryz.ntmps209 rfl (fun w0 => ?_)
 refine go 6 ?_
 refine o_callX1 (stable _ N g f hp hN0 l hN) rfl rfl (fun v8 s8 q8 => ?_)
 obtain ⟨rfl, m8, rfl, h8⟩ := q8
 refine go 1 ?_
 refine end0 rfl ?_
 exact q_x ⟨rfl, m8, rfl, h8⟩

theorem sortedE (I : IMap) (v : Value) (l : List Evt) (hv : RdS I v l) (hl : l.length ≤ 1000000) (f : FuncId) (hp : ∀ x y : Evt, FnV Tryz.prog f #[.agg (Day.ch x).toArray, .agg (Day.ch y).toArray] I (.int .i64 (cmpI (Day.day x) (Day.day y)))) :
    FnI Tryz.prog 141 #[v, .func (.func f) #[] #[]] I (fun u J => RdS J u (sortF l)) := by
 obtain ⟨A, c, rfl, hA, hc, hm⟩ := hv
 refine enter Tryz.func141 Tryz.call141 rfl Tryz.ntmps141 rfl (fun w0 => ?_)
 refine go 10 ?_
 refine o_makeSlice he he rfl rfl rfl (by omega) (by omega) rfl (fun g8 => ?_)
 refine go 8 ?_
 obtain ⟨xss, hx, hcell⟩ := hA.pieces
 obtain rfl := evCh_of hx
 refine o_copy (evCh l) 0 he rfl rfl (by rw [evCh_len]; simp) (Uk.rep (c := [.int .i64 0, .int .i64 0, .string ⟨#[]⟩, .string ⟨#[]⟩, .string ⟨#[]⟩, .string ⟨#[]⟩, .string ⟨#[]⟩, .string ⟨#[]⟩, .int .i64 0, .int .i64 0, .int .i64 0, .int .i64 0, .int .i64 0, .int .i64 0]) rfl _) (evCh_ukE l) hx.one (fun _ => by rw [Nat.zero_mul]) (fun hp => by rw [evCh_len] at hp; obtain ⟨b, o, e, h⟩ := hcell hp; exact ⟨b, o, e, fun w mm j u hu => (h j u hu).at_ mm.con⟩) (by rw [evCh_len]; simp) rfl ?_
 refine sx_blk_eq (yss := evCh l) (by rw [evCh_len]; simp) ?_
 refine go 7 ?_
 refine o_callX1 (sortStable _ l.length g8 f hp hl l rfl) rfl rfl (fun v14 s14 q14 => ?_)
 obtain ⟨rfl, m14, rfl, h14, s14⟩ := q14
 refine go 9 ?_
 refine fin1 rfl rfl ?_
 have hml : m14.length = l.length := h14.1.symm
 obtain rfl := sortF_is h14 (SrtD.pw (by rw [hml]; exact s14))
 refine sx_unrow0 (m := l.length) (evCh_ukE _) (by rw [evCh_len, hml]) (by unfold maxLen; omega) ?_
 refine sx_pubrow (l := sortF l) rfl hml.symm (evCh_flat _).flat (fun J hJ R => ?_)
 exact q_i R

theorem byDay (I : IMap) (x y : Evt) :
    FnV Tryz.prog 142 #[.agg (Day.ch x).toArray, .agg (Day.ch y).toArray] I (.int .i64 (cmpI (Day.day x) (Day.day y))) := by
 refine enter Tryz.func142 Tryz.call142 rfl Tryz.ntmps142 rfl (fun w0 => ?_)
 show SX _ _ _ (argsL [.agg x.cells.toArray, .agg y.cells.toArray] 0) _ _
 refine go 3 ?_
 refine o_box _ rfl rfl rfl (fun g2 => ?_)
 refine go 1 ?_
 refine o_box _ rfl rfl rfl (fun g3 => ?_)
 refine go 10 ?_
 refine o_callV (compare_int _ _ _) rfl rfl ?_
 refine go 4 ?_
 refine fin1 rfl rfl ?_
 exact q_v rfl

theorem cSort (I : IMap) (v : Value) (l : List Evt) (hv : RdS I v l) (hl : l.length ≤ 1000000) :
    FnI Tryz.prog 90 #[v] I (fun u J => RdS J u (sortF l)) := by
 refine enter Tryz.func90 Tryz.call90 rfl Tryz.ntmps90 rfl (fun w0 => ?_)
 refine go 9 ?_
 refine o_call (sortedE _ v l hv hl 142 (fun x y => byDay _ x y)) rfl rfl (fun v4 I4 j4 q4 => ?_)
 refine go 4 ?_
 refine fin1 rfl rfl ?_
 exact q_i q4

end Go.Proofs.YtdapmfkbpnjkmaaGreat

/- Walks, printed by a program out of the code of the functions: each theorem is a contract of one function. -/
namespace Go.Proofs.YtdapmfkbpnjkmaaGreat
open Go Go.Sx
set_option linter.all false
set_option maxRecDepth 20000
set_option maxHeartbeats 4000000
instance T.ty_30 : Has (tyK Tryz.prog 30) (false, 1) := ⟨by kernel_rfl⟩
instance T.ty_62 : Has (tyK Tryz.prog 62) (false, 1) := ⟨by kernel_rfl⟩
instance T.zero_3 : Has (zeroK Tryz.prog 3) [.int .i64 0] := ⟨by kernel_rfl⟩
instance T.zero_30 : Has (zeroK Tryz.prog 30) [.int .i64 0] := ⟨by kernel_rfl⟩
theorem deleteFunc_Evt (I : IMap) (v : Value) (l : List Evt) (hl : l.length ≤ 1000000) (f : FuncId) (cs : List Value) (p : Evt → Bool) (hp : ∀ I2, ILe I I2 → ∀ x : Evt, FnV Tryz.prog f ([Value.agg (Day.ch x).toArray] ++ cs).toArray I2 (.bool (p x))) :
    FnD Tryz.prog 87 #[v, .func (.func f) #[] cs.toArray] I (.row v 96 14 l.length (evCh l).flatten) (fun u J => RdS J u (l.filter fun x => !p x)) := by
 refine enter Tryz.func87 Tryz.call87 rfl Tryz.ntmps87 rfl (fun w0 => ?_)
 refine go 10 ?_
 refine o_lendV m0 rfl rfl ((evCh_flat l).flat) (fun I2 hI2 hR => indexFunc_Evt I2 _ l hR f cs p (fun x _ vs hx => by cases hx; exact hp I2 hI2 x)) rfl rfl ?_
 refine go 10 ?_
 refine cb rfl (fun h12 p12 => ?_) (fun h12 p12 => ?_)
 ·refine go 8 ?_
  refine fin1 rfl rfl ?_
  have hall : l.filter (fun x => !p x) = l := by
    rw [List.filter_eq_self]
    intro x hx
    have := idxF_any p l
    rw [show decide (0 ≤ idxF p l) = false from by rw [p12]; rfl] at this
    simpa using List.any_eq_false.1 this.symm x hx
  refine sx_pubrow (l := l) rfl rfl (evCh_flat l).flat (fun J hJ R => ?_)
  exact q_d (by rw [hall]; exact R)
 ·obtain ⟨i0, hi0, hx0, hp0, hn0⟩ : ∃ (i : Nat) (h : i < l.length), idxF p l = (i : Int) ∧ p l[i] = true ∧ ∀ j x, j < i → l[j]? = some x → p x = false := by
    rcases idxF_find p l with ⟨h1, _⟩ | ⟨i, hi, h1, h2⟩
    · exfalso; have := p12; have : -1 ≤ idxF p l := idxF_ge p l; omega
    · rw [List.find?_eq_some_iff_getElem] at h2
      obtain ⟨h3, k, hk, h4, h5⟩ := h2
      obtain ⟨h6, h7⟩ := idxF_pos h1 hi
      exact ⟨i, hi, h1, h6, h7⟩
  refine sx_row (evCh_ukE l) (evCh_len l) (fun h0 _ => by omega) (fun g cap rest hv hR hcap hmax => ?_)
  subst hv
  have hcap1 : l.length ≤ cap := by omega
  refine go 6 ?_
  refine o_v rfl (OV.cast (u := .int .i64 ((i0 + 1 : Nat) : Int)) (v_add rfl rfl ⟨by omega, by omega⟩) (congrArg (Value.int .i64) (by rw [hx0]; omega))) ?_
  refine go 4 ?_
  refine c_loop3 (i0) (i0 + 1) (l) (fun i j m => I)
   (fun i j m => [(0, .slice (some ⟨g, 0, none⟩) l.length cap), (1, .func (.func f) #[] cs.toArray), (5, .int .i64 ((i : Nat) : Int)), (6, .int .i64 ((j : Nat) : Int))])
   (fun i j m => [.blk g 96 (evCh m ++ rest).flatten])
   (fun i j m => Del p l m i j)
   (fun i j m => l.length - j) (Del.start hi0 hp0 hn0) rfl ⟨rfl, rfl, congrArg (fun z : Int => some (Value.int .i64 z)) hx0, rfl, trivial⟩ rfl ?_
  intro i j m hD
  have hml := hD.len
  have hij := hD.le
  have hjl := hD.hj
  refine go 9 ?_
  refine cb rfl (fun h19 p19 => ?_) (fun h19 p19 => ?_)
  ·have hlt : j < l.length := by omega
   have hjm : j < m.length := by omega
   have hat := hD.at_ hlt
   refine go 8 ?_
   refine o_v rfl (v_idx he rfl rfl rfl (j) (by omega) (by omega)) ?_
   refine o_v rfl (v_ldc m0 ((evCh_ukE _).append hR) he rfl (j) (by omega) (evCh_rest hjm)) ?_
   refine go 1 ?_
   refine o_alloc he rfl (fun g7 => ?_)
   refine go 1 ?_
   refine o_stw _ he rfl rfl rfl rfl rfl rfl ?_
   refine go 7 ?_
   refine o_callV (hp _ (ILe.refl _) _) rfl rfl ?_
   refine go 3 ?_
   refine cb rfl (fun h29 p29 => ?_) (fun h29 p29 => ?_)
   ·refine go 5 ?_
    refine o_v rfl (v_idx he rfl rfl rfl (i) (by omega) (by omega)) ?_
    refine go 1 ?_
    refine bring1 ?_
    refine o_stc _ (i) ((evCh_ukE _).append hR) he rfl rfl rfl rfl rfl (by omega) (by simp [evCh_len]; omega) ?_
    refine go 4 ?_
    refine o_v rfl (OV.cast (u := .int .i64 ((i + 1 : Nat) : Int)) (v_add rfl rfl ⟨by omega, by omega⟩) (congrArg (Value.int .i64) (by omega))) ?_
    refine go 6 ?_
    refine o_v rfl (OV.cast (u := .int .i64 ((j + 1 : Nat) : Int)) (v_add rfl rfl ⟨by omega, by omega⟩) (congrArg (Value.int .i64) (by omega))) ?_
    refine go 3 ?_
    refine bring1 ?_
    refine sx_drop ?_
    exact q_next3 (i + 1) (j + 1) (m.set i l[j]) (hD.keep hlt (by simpa [hat] using p29)) (by omega) rfl sb (by rw [← evCh_set' _ _ _ (by omega), hat])
   ·refine go 5 ?_
    refine o_v rfl (OV.cast (u := .int .i64 ((j + 1 : Nat) : Int)) (v_add rfl rfl ⟨by omega, by omega⟩) (congrArg (Value.int .i64) (by omega))) ?_
    refine go 3 ?_
    refine sx_drop ?_
    exact q_next3 (i) (j + 1) (m) (hD.skip hlt (by simpa [hat] using p29)) (by omega) rfl sb rfl
  ·obtain rfl : j = l.length := by omega
   have hfi : m.take i = l.filter fun x => !p x := by have := hD.fst; rwa [List.take_length] at this
   refine go 9 ?_
   refine o_v rfl (v_slice_lo he rfl rfl i rfl (by omega)) ?_
   refine go 1 ?_
   refine o_clear i he he rfl rfl rfl rfl ((evCh_ukE _).append hR) (fun _ => cutA_some (k := 14) (by omega)) (by simp [evCh_len]; omega) ?_
   refine go 6 ?_
   refine o_v rfl (v_slice_hi he rfl rfl i rfl (by omega)) ?_
   refine go 4 ?_
   refine fin1 rfl rfl ?_
   have htk : (evCh m ++ rest).take i = evCh (l.filter fun x => !p x) := by rw [List.take_append_of_le_length (by rw [evCh_len]; omega), ← hfi, evCh, evCh, List.map_take]
   have hll : (l.filter fun x => !p x).length = i := by rw [← hfi, List.length_take]; omega
   rw [htk]
   refine sx_unrow (m := i) (cap := cap) (evCh_ukE _) ((Uk.rep (c := [.int .i64 0, .int .i64 0, .string ⟨#[]⟩, .string ⟨#[]⟩, .string ⟨#[]⟩, .string ⟨#[]⟩, .string ⟨#[]⟩, .string ⟨#[]⟩, .int .i64 0, .int .i64 0, .int .i64 0, .int .i64 0, .int .i64 0, .int .i64 0]) rfl _).append (Uk.drop ((evCh_ukE _).append hR) _)) (by rw [evCh_len, hll]) (by simp [evCh_len]; omega) hmax ?_
   refine sx_pubrow (l := l.filter fun x => !p x) rfl hll.symm (evCh_flat _).flat (fun J hJ R => ?_)
   exact q_d R

theorem afterDay (I : IMap) (x : Evt) (g : Nat) (day : Int) (cg : ICells I g 0 [ci day]) :
    FnV Tryz.prog 122 #[.agg (Day.ch x).toArray, .pointer (some ⟨g, 0, none⟩)] I (.bool (decide (x.day > day))) := by
 refine enter Tryz.func122 Tryz.call122 rfl Tryz.ntmps122 rfl (fun w0 => ?_)
 show SX _ _ _ (argsL [.agg x.cells.toArray, .pointer (some ⟨g, 0, none⟩)] 0) _ _
 refine go 3 ?_
 refine o_box _ rfl rfl rfl (fun g2 => ?_)
 refine go 7 ?_
 refine o_v rfl (v_ldI he rfl (cg 0 _ rfl)) ?_
 refine go 5 ?_
 refine fin1 rfl rfl ?_
 exact q_v rfl

theorem statesIt (I : IMap) (vc : Value) (c : List Kind) (hvc : RdS I vc c) (hsc : SmC c) (v : Value) (l : List Evt) (hv : RdS I v l) (hse : ∀ e ∈ l, SmE e) (g3 g2 : Nat) (c3 : ICells I g3 0 [v]) (c2 : ICells I g2 0 [vc]) :
    FnIt Tryz.prog 245 [.pointer (some ⟨g3, 0, none⟩), .pointer (some ⟨g2, 0, none⟩)] I rdR2 (fun pre x => pre ++ [x] <+: statesF c [] l) (fun pre => pre = statesF c [] l) (fun _ => True) := by
 have hv0 := hv
 obtain ⟨A, c0, rfl, hA, hc, hm⟩ := hv
 intro ly J I1 Hc hI1 hJm hY hJ0
 have hvc := hvc.le hI1
 have hv0 := hv0.le hI1
 have hA := hA.le hI1
 have c3 := c3.le hI1
 have c2 := c2.le hI1
 refine enter Tryz.func245 Tryz.call245 rfl Tryz.ntmps245 rfl (fun w0 => ?_)
 refine go 3 ?_
 refine o_alloc he rfl (fun g4 => ?_)
 refine go 4 ?_
 refine o_v rfl (v_ldI he rfl (c3 0 _ rfl)) ?_
 refine go 5 ?_
 refine c_loop5 (0) ([]) (.slice none 0 0) (I1) (Hc) (fun i st v4 I2 Hc => I2)
  (fun i st v4 I2 Hc => [(0, .func (.yield ly) #[] #[]), (1, .pointer (some ⟨g3, 0, none⟩)), (2, .pointer (some ⟨g2, 0, none⟩)), (4, .pointer (some ⟨g4, 0, none⟩)), (9, .slice A l.length c0), (10, .int .i64 (l.length : Int)), (11, .int .i64 ((i : Nat) : Int))])
  (fun i st v4 I2 Hc => .blk g4 53 [v4] :: Hc)
  (fun i st v4 I2 Hc => i ≤ l.length ∧ ILe I1 I2 ∧ StAt c l i st ∧ J true ((statesF c [] l).take i) I2 Hc ∧ RdS I2 v4 st ∧ SmF st)
  (fun i st v4 I2 Hc => l.length - i) ⟨Nat.zero_le _, ILe.refl _, StAt.zero c l, hJ0, RdS.nil', SmF.nil⟩ rfl sb rfl ?_
 intro i st v4 I2 Hc ⟨hi, hI2, hSt, hJ, hv4, hsf⟩
 have hvc := hvc.le hI2
 have hA := hA.le hI2
 have c2 := c2.le hI2
 refine go 6 ?_
 refine cb rfl (fun h12 p12 => ?_) (fun h12 p12 => ?_)
 ·have hlt : i < l.length := by omega
  obtain ⟨hS1, hS2, hS3, hS4⟩ := hSt.step hlt
  refine go 6 ?_
  obtain ⟨b13, o13, w13, e13, c13, r13⟩ := RdA.at_ hA (i := i) hlt
  obtain rfl := r13
  refine o_v rfl (v_idx he rfl rfl e13 (i) (by omega) hlt) ?_
  refine o_v rfl (v_ldIa he rfl c13 rfl) ?_
  refine go 1 ?_
  refine o_alloc he rfl (fun g6 => ?_)
  refine go 1 ?_
  refine o_stw _ he rfl rfl rfl rfl rfl rfl ?_
  refine go 4 ?_
  refine o_v rfl (v_ldIa he rfl c2 rfl) ?_
  refine go 3 ?_
  refine o_call (flApply _ vc c hvc hsc v4 st hv4 hsf l[i] (hse _ (List.getElem_mem hlt))) rfl rfl (fun v19 I19 j19 q19 => ?_)
  obtain ⟨w19, rfl, hw19⟩ := q19
  refine go 4 ?_
  refine o_alloc he rfl (fun g7 => ?_)
  refine go 1 ?_
  refine o_stw _ he rfl rfl rfl rfl rfl (by simp [RdS.one hw19]) ?_
  refine go 10 ?_
  refine o_yield3 (applyF c st l[i]) hY (hJm _ _ _ _ _ j19 hJ) (⟨_, rfl, hw19⟩) (⟨(statesF c [] l).drop (i + 1), by rw [hS1, List.take_append_drop]⟩) rfl rfl rfl (fun b25 I25 Hc25 j25 hJ25 => ?_)
  have hw19 := hw19.le j25
  refine go 2 ?_
  refine sxb 27 rfl (fun h27 p27 => ?_) (fun h27 p27 => ?_)
  ·refine go 5 ?_
   refine c_true rfl ?_
   refine go 6 ?_
   refine fin0 rfl ?_
   refine sx_drop ?_
   refine sx_drop ?_
   refine sx_drop ?_
   subst p27
   exact q_it false _ hJ25 trivial
  ·refine go 5 ?_
   refine cb rfl (fun h30 p30 => ?_) (fun h30 p30 => ?_)
   ·refine go 6 ?_
    refine fin0 rfl ?_
    refine sx_drop ?_
    refine sx_drop ?_
    refine sx_drop ?_
    subst p27
    exact q_it true _ hJ25 (hS1.trans (hS4 (by simpa using p30)))
   ·subst p27
    have h0 : (applyF c st l[i]).2 = 0 := by simpa using p30
    have hsm := applyF_sm (c := c) hsf (hse _ (List.getElem_mem hlt))
    refine go 5 ?_
    refine bring2 ?_
    refine o_stw _ he rfl rfl rfl rfl rfl (by simp [RdS.one hw19]) ?_
    refine go 8 ?_
    refine bring1 ?_
    refine sx_drop ?_
    refine bring1 ?_
    refine sx_drop ?_
    exact q_next5 (i + 1) ((applyF c st l[i]).1) (w19) (I25) (Hc25) ⟨by omega, (hI2.trans j19).trans j25, hS3 h0, by rw [← hS1]; exact hJ25, hw19, hsm⟩ (by omega) rfl sb rfl
 ·have hil : i = l.length := by omega
  refine go 4 ?_
  refine end0 rfl ?_
  refine sx_drop ?_
  exact q_it true _ hJ (hSt.last (by omega))

theorem statesC (I : IMap) (A : Option Addr) (m k : Nat) (vc : Value) :
    FnI Tryz.prog 196 #[.agg #[vc], .slice A m k] I (fun u J => ∃ g3 g2, u = .func (.func 245) #[] #[.pointer (some ⟨g3, 0, none⟩), .pointer (some ⟨g2, 0, none⟩)] ∧ ICells J g3 0 [.slice A m k] ∧ ICells J g2 0 [vc]) := by
 refine enter Tryz.func196 Tryz.call196 rfl Tryz.ntmps196 rfl (fun w0 => ?_)
 refine go 3 ?_
 refine o_box _ rfl rfl rfl (fun g2 => ?_)
 refine go 1 ?_
 refine o_box _ rfl rfl rfl (fun g3 => ?_)
 refine go 5 ?_
 refine sx_pub (fun Ig3 jg3 cg3 => ?_)
 refine sx_pub (fun Ig2 jg2 cg2 => ?_)
 have cg3 := (cg3).le jg2
 refine o_v rfl (v_makeFunc rfl rfl) ?_
 refine go 4 ?_
 refine fin1 rfl rfl ?_
 exact q_i ⟨_, _, rfl, cg3, cg2⟩

theorem cRun (I : IMap) (vc : Value) (c : List Kind) (hvc : RdS I vc c) (hsc : SmC c) (v : Value) (l : List Evt) (hv : RdS I v l) (hl : l.length ≤ 1000000) (hse : ∀ e ∈ l, SmE e) :
    FnI Tryz.prog 121 #[.agg #[vc], v] I (fun u J => ∃ w, u = .tuple #[.agg #[w], .int .i64 (runF c l).2.1, .int .i64 (runF c l).2.2] ∧ RdS J w (runF c l).1) := by
 refine enter Tryz.func121 Tryz.call121 rfl Tryz.ntmps121 rfl (fun w0 => ?_)
 refine go 3 ?_
 refine o_box _ rfl rfl rfl (fun g2 => ?_)
 refine go 1 ?_
 refine o_alloc he rfl (fun g4 => ?_)
 refine go 1 ?_
 refine o_alloc he rfl (fun g5 => ?_)
 refine go 1 ?_
 refine o_alloc he rfl (fun g6 => ?_)
 refine go 7 ?_
 refine o_callV (catValid _ vc c hvc hsc) rfl rfl ?_
 refine go 3 ?_
 refine cb rfl (fun h13 p13 => ?_) (fun h13 p13 => ?_)
 ·refine go 3 ?_
  refine o_val rfl (v_build (pl := [(0, 1)]) he he rfl rfl) ?_
  refine go 1 ?_
  refine bring2 ?_
  refine o_stw _ he rfl rfl rfl rfl rfl rfl ?_
  refine go 1 ?_
  refine bring2 ?_
  refine o_stw _ he rfl rfl rfl rfl rfl rfl ?_
  refine go 1 ?_
  refine bring2 ?_
  refine o_stw _ he rfl rfl rfl rfl rfl rfl ?_
  refine go 4 ?_
  refine fin3 rfl ⟨_, _, _, rfl, m2, .inr ⟨_, he, rfl, rfl⟩⟩ ⟨_, _, _, rfl, m1, .inl ⟨he, rfl⟩⟩ ⟨_, _, _, rfl, m0, .inl ⟨he, rfl⟩⟩ ?_
  have hr : runF c l = ([], -1, 1) := by unfold runF; rw [if_pos (by simpa using h13)]
  exact q_i ⟨_, by rw [hr], by rw [hr]; exact RdS.nil'⟩
 ·refine go 5 ?_
  refine o_alloc he rfl (fun g7 => ?_)
  refine go 5 ?_
  refine o_alloc he rfl (fun g8 => ?_)
  refine go 1 ?_
  refine o_stw _ he rfl rfl rfl rfl rfl rfl ?_
  refine go 4 ?_
  refine sx_knowI (fun hE5 hf5 => ?_)
  refine d_startH T.mixed ?_
  refine d_tv 0 rfl rfl (by kernel_rfl) rfl (.refl _) rfl (v_ldw m5 he rfl rfl) ?_
  refine d_tv 1 rfl rfl (by kernel_rfl) rfl (.refl _) rfl (v_move rfl) ?_
  refine d_one 2 (by kernel_rfl) rfl ?_
  refine o_call (cSort _ v l hv hl) rfl rfl (fun v17 I17 j17 q17 => ?_)
  have hvc := hvc.le j17
  have q17s := q17
  obtain ⟨A17, k17, rfl, _⟩ := q17s
  refine d_on (fun _ m => m.keepsI (.refl _) (j17) hE5 hf5) ?_
  refine d_one 3 (by kernel_rfl) rfl ?_
  refine o_call (statesC _ A17 _ k17 vc) rfl rfl (fun v18 I18 j18 q18 => ?_)
  have hvc := hvc.le j18
  have q17 := q17.le j18
  obtain ⟨g3, g2, rfl, c3, c2⟩ := q18
  refine d_on (fun _ m => m.keepsI (.refl _) ((j17).trans j18) hE5 hf5) ?_
  refine d_done (by kernel_rfl) ?_
  refine go 2 ?_
  refine bring2 ?_
  refine bring3 ?_
  refine bring4 ?_
  refine bring3 ?_
  refine bring4 ?_
  refine c_range (σ := Value × Int × Value × Int × Int) (ps := [19, 20]) (.slice none 0 0, 0, .slice none 0 0, 0, 0) (fun ⟨v7, i, a, b, e⟩ => [.blk g7 53 [v7], .blk g8 3 [ci i], .blk g4 53 [a], .blk g5 3 [ci b], .blk g6 30 [ci e]]) (fun pre I ⟨v7, i, a, b, e⟩ => i = (pre.length : Nat) ∧ a = .slice none 0 0 ∧ b = 0 ∧ e = 0 ∧ (∀ x ∈ pre, x.2 = 0) ∧ RdS I v7 (lastS [] pre)) (fun pre I ⟨v7, i, a, b, e⟩ cd => cd = .ret ∧ a = .slice none 0 0 ∧ ∃ pr x t, statesF c [] (sortF l) = pr ++ x :: t ∧ (∀ x ∈ pr, x.2 = 0) ∧ x.2 ≠ 0 ∧ b = (pr.length : Nat) ∧ e = x.2) rfl Tryz.call245 (statesIt _ vc c hvc hsc _ (sortF l) q17 (fun e he => hse e (sortF_mem.1 he)) g3 g2 c3 c2) (fun I vs x h => by obtain ⟨w, rfl, _⟩ := h; rfl) rfl (fun pre I I' s hI h => by obtain ⟨v7, i, a, b, e⟩ := s; exact ⟨h.1, h.2.1, h.2.2.1, h.2.2.2.1, h.2.2.2.2.1, h.2.2.2.2.2.le hI⟩) (fun _ _ _ _ _ _ h => h) (⟨rfl, rfl, rfl, rfl, (fun _ h => by cases h), RdS.nil'⟩) rfl ?_ ?_ ?_
  ·rintro r E1 pre x vs I1 ⟨v7, i, a, b, e⟩ hI1 ⟨rfl, rfl, rfl, rfl, hok, hv7⟩ ⟨w, rfl, hw⟩ hpf
   obtain ⟨t, ht⟩ := id hpf
   rw [List.append_assoc] at ht
   have hlen := hpf.length_le
   have hsl := states_len c (sortF l) []
   rw [List.length_append, List.length_singleton] at hlen
   rw [sortF_len] at hsl
   refine sx_exp5 ?_
   refine go 3 ?_
   refine o_alloc he rfl (fun g9 => ?_)
   refine go 1 ?_
   refine o_stw _ he rfl rfl rfl rfl rfl (by simp [RdS.one hw]) ?_
   refine go 5 ?_
   refine bring1 ?_
   refine r_begin ?_
   refine go 8 ?_
   refine cb rfl (fun h22 p22 => ?_) (fun h22 p22 => ?_)
   ·refine go 1 ?_
    refine bring7 ?_
    refine bring7 ?_
    refine bring7 ?_
    refine d_start3 T.mixed ?_
    refine d_tv 0 rfl rfl (by kernel_rfl) rfl (.cons _ (.cons _ (.cons _ (.refl _)))) rfl (v_build (pl := [(0, 1)]) he he rfl rfl) ?_
    refine d_tv 1 rfl rfl (by kernel_rfl) rfl (.cons _ (.cons _ (.cons _ (.refl _)))) rfl (v_ld m4 he rfl rfl) ?_
    refine d_tv 2 rfl rfl (by kernel_rfl) rfl (.cons _ (.cons _ (.cons _ (.refl _)))) rfl (v_move rfl) ?_
    refine d_one 3 (by kernel_rfl) rfl ?_
    refine o_stw _ he rfl rfl rfl rfl rfl rfl ?_
    refine d_on (fun _ m => m.keeps (.cons _ (.cons _ (.cons _ (.refl _))))) ?_
    refine d_one 4 (by kernel_rfl) rfl ?_
    refine bring1 ?_
    refine o_stw _ he rfl rfl rfl rfl rfl rfl ?_
    refine d_on (fun _ m => m.keeps (.cons _ (.cons _ (.cons _ (.refl _))))) ?_
    refine d_one 5 (by kernel_rfl) rfl ?_
    refine bring2 ?_
    refine o_stw _ he rfl rfl rfl rfl rfl rfl ?_
    refine d_on (fun _ m => m.keeps (.cons _ (.cons _ (.cons _ (.refl _))))) ?_
    refine d_done (by kernel_rfl) ?_
    refine go 4 ?_
    refine bring4 ?_
    refine sx_drop ?_
    refine bring1 ?_
    refine bring2 ?_
    refine bring6 ?_
    refine bring6 ?_
    refine bring6 ?_
    refine bring6 ?_
    exact r_ret ((v7, _, _, _, _)) (hI1) (⟨rfl, rfl, pre, x, t, ht.symm, hok, p22, rfl, rfl⟩) rfl
   ·refine go 6 ?_
    refine bring3 ?_
    refine o_stw _ he rfl rfl rfl rfl rfl (by simp [RdS.one hw]) ?_
    refine go 6 ?_
    refine bring4 ?_
    refine o_stw _ he rfl rfl rfl rfl rfl rfl ?_
    refine go 2 ?_
    refine bring3 ?_
    refine sx_drop ?_
    refine bring6 ?_
    refine bring6 ?_
    refine bring6 ?_
    refine bring3 ?_
    refine bring4 ?_
    refine bring6 ?_
    refine bring6 ?_
    exact r_next ((w, _, _, 0, 0)) (hI1) (⟨by simp only [List.length_append, List.length_singleton]; push_cast; trivial, rfl, rfl, rfl, (fun y hy => (List.mem_append.1 hy).elim (hok y) (fun h => by rw [List.mem_singleton.1 h]; exact p22)), (by simpa [lastS] using hw)⟩) rfl
  ·rintro D pre I1 ⟨v7, i, a, b, e⟩ hI1 hfull ⟨rfl, rfl, rfl, rfl, hok, hv7⟩
   refine sx_app5 ?_
   refine go 6 ?_
   refine bring3 ?_
   refine o_stw _ he rfl rfl rfl rfl rfl (by simp [RdS.one hv7]) ?_
   refine go 1 ?_
   refine bring4 ?_
   refine o_stw _ he rfl rfl rfl rfl rfl rfl ?_
   refine go 1 ?_
   refine bring5 ?_
   refine o_stw _ he rfl rfl rfl rfl rfl rfl ?_
   refine go 3 ?_
   refine bring3 ?_
   refine q_mark ?_
   refine fin3 rfl ⟨_, _, _, rfl, m3, .inr ⟨_, he, rfl, rfl⟩⟩ ⟨_, _, _, rfl, m2, .inl ⟨he, rfl⟩⟩ ⟨_, _, _, rfl, m1, .inl ⟨he, rfl⟩⟩ ?_
   have hr : runF c l = (lastS [] pre, -1, 0) := by unfold runF; rw [if_neg (by simp [p13]), run_full _ _ _ (hfull ▸ hok), ← hfull]
   exact q_i ⟨_, by rw [hr], by rw [hr]; exact hv7⟩
  ·rintro D pre I1 ⟨v7, i, a, b, e⟩ cd hI1 hpart ⟨rfl, rfl, pr, x, t, ht, hok, hx, rfl, rfl⟩
   refine sx_app5 ?_
   refine go 3 ?_
   refine q_mark ?_
   refine fin3 rfl ⟨_, _, _, rfl, m3, .inr ⟨_, he, rfl, rfl⟩⟩ ⟨_, _, _, rfl, m4, .inl ⟨he, rfl⟩⟩ ⟨_, _, _, rfl, m5, .inl ⟨he, rfl⟩⟩ ?_
   have hr : runF c l = ([], ((pr.length : Nat) : Int), x.2) := by unfold runF; rw [if_neg (by simp [p13]), run_stop _ _ _ pr t x ht hok hx]; simp
   exact q_i ⟨_, by rw [hr], by rw [hr]; exact RdS.nil'⟩

theorem cAt (I : IMap) (vc : Value) (c : List Kind) (hvc : RdS I vc c) (hsc : SmC c) (v : Value) (l : List Evt) (hv : RdS I v l) (hl : l.length ≤ 1000000) (hse : ∀ e ∈ l, SmE e) (day : Int) :
    FnI Tryz.prog 66 #[.agg #[vc], v, .int .i64 day] I (fun u J => ∃ w, u = .tuple #[.agg #[w], .int .i64 (atF11 c l day).2.1, .int .i64 (atF11 c l day).2.2] ∧ RdS J w (atF11 c l day).1) := by
 refine enter Tryz.func66 Tryz.call66 rfl Tryz.ntmps66 rfl (fun w0 => ?_)
 refine go 3 ?_
 refine o_box _ rfl rfl rfl (fun g3 => ?_)
 refine go 1 ?_
 refine o_box _ rfl rfl rfl (fun g5 => ?_)
 refine go 1 ?_
 refine o_alloc he rfl (fun g6 => ?_)
 refine go 5 ?_
 refine bring1 ?_
 refine sx_pub (fun Ig5 jg5 cg5 => ?_)
 have hvc := hvc.le jg5
 have hv := hv.le jg5
 refine sx_knowI (fun hE1 hf1 => ?_)
 refine d_start1 T.mixed ?_
 refine d_tv 0 rfl rfl (by kernel_rfl) rfl (.cons _ (.refl _)) rfl (v_ldw m0 he rfl rfl) ?_
 refine d_tv 1 rfl rfl (by kernel_rfl) rfl (.cons _ (.refl _)) rfl (v_move rfl) ?_
 refine d_tv 3 rfl rfl (by kernel_rfl) rfl (.cons _ (.refl _)) rfl (v_makeFunc rfl rfl) ?_
 refine d_one 2 (by kernel_rfl) rfl ?_
 refine o_callX0 (clone_Evt _ v l hv hl) rfl rfl (fun v11 s11 q11 => ?_)
 obtain ⟨xss, rfl, hx⟩ := q11
 obtain rfl := evCh_of hx
 refine d_on (fun _ m => m.keeps (.cons _ (.cons _ (.refl _)))) ?_
 refine d_one 4 (by kernel_rfl) rfl ?_
 refine o_callD (deleteFunc_Evt _ _ l hl 122 [.pointer (some ⟨g5, 0, none⟩)] (fun x => decide (x.day > day)) (fun I2 hI2 x => afterDay I2 x g5 day (cg5.le hI2))) rfl rfl (fun v13 I13 j13 q13 => ?_)
 have hvc := hvc.le j13
 refine d_on (fun _ m => m.keepsI (.cons _ (.refl _)) (j13) hE1 hf1) ?_
 refine d_one 5 (by kernel_rfl) rfl ?_
 refine o_call (cRun _ vc c hvc hsc _ (l.filter fun e => !decide (e.day > day)) q13 (Nat.le_trans (List.length_filter_le _ _) hl) (fun e he => hse e (List.mem_filter.1 he).1)) rfl rfl (fun v14 I14 j14 q14 => ?_)
 obtain ⟨w14, rfl, hw14⟩ := q14
 refine d_on (fun _ m => m.keepsI (.cons _ (.refl _)) ((j13).trans j14) hE1 hf1) ?_
 refine d_t 6 rfl rfl (by kernel_rfl) rfl (fun _ m => m.keepsI (.cons _ (.refl _)) ((j13).trans j14) hE1 hf1) (y_v rfl (v_extract rfl rfl)) ?_
 refine d_t 7 rfl rfl (by kernel_rfl) rfl (fun _ m => m.keepsI (.cons _ (.refl _)) ((j13).trans j14) hE1 hf1) (y_v rfl (v_extract rfl rfl)) ?_
 refine d_t 8 rfl rfl (by kernel_rfl) rfl (fun _ m => m.keepsI (.cons _ (.refl _)) ((j13).trans j14) hE1 hf1) (y_v rfl (v_extract rfl rfl)) ?_
 refine d_one 9 (by kernel_rfl) rfl ?_
 refine o_stw _ he rfl rfl rfl rfl rfl (by simp [RdS.one hw14]) ?_
 refine d_on (fun _ m => m.keepsI (.cons _ (.refl _)) ((j13).trans j14) hE1 hf1) ?_
 refine d_t 10 rfl rfl (by kernel_rfl) rfl (fun _ m => m.keepsI (.cons _ (.refl _)) ((j13).trans j14) hE1 hf1) (y_v rfl (v_assign rfl)) ?_
 refine d_t 11 rfl rfl (by kernel_rfl) rfl (fun _ m => m.keepsI (.cons _ (.refl _)) ((j13).trans j14) hE1 hf1) (y_v rfl (v_assign rfl)) ?_
 refine d_done (by kernel_rfl) ?_
 refine go 2 ?_
 refine fin3 rfl ⟨_, _, _, rfl, m0, .inr ⟨_, he, rfl, rfl⟩⟩ rfl rfl ?_
 exact q_i ⟨_, rfl, hw14⟩

end Go.Proofs.YtdapmfkbpnjkmaaGreat

/- Walks, printed by a program out of the code of the functions: each theorem is a contract of one function. -/
namespace Go.Proofs.YtdapmfkbpnjkmaaGreat
open Go Go.Sx
set_option linter.all false
set_option maxRecDepth 20000
set_option maxHeartbeats 4000000
theorem ref09Ivl (I : IMap) (x : Ivl) :
    FnV Tryz.prog 231 #[.agg x.cells.toArray] I (.bool (ivlR x)) := by
 refine enter Tryz.func231 Tryz.call231 rfl Tryz.ntmps231 rfl (fun w0 => ?_)
 refine go 3 ?_
 refine o_box _ rfl rfl rfl (fun g1 => ?_)
 refine go 9 ?_
 refine sxb 6 rfl (fun h6 p6 => ?_) (fun h6 p6 => ?_)
 ·refine go 7 ?_
  refine sxb 13 rfl (fun h13 p13 => ?_) (fun h13 p13 => ?_)
  ·refine go 8 ?_
   refine fin1 rfl rfl ?_
   exact q_v (congrArg Value.bool (by simp only [ivlR, h6, h13, bS]))
  ·refine go 8 ?_
   refine fin1 rfl rfl ?_
   exact q_v (congrArg Value.bool (by simp only [ivlR, h6, h13, bS]))
 ·refine go 15 ?_
  refine fin1 rfl rfl ?_
  exact q_v (congrArg Value.bool (by simp only [ivlR, h6, bS]))

theorem ref09Use (I : IMap) (x : Use) :
    FnV Tryz.prog 168 #[.agg x.cells.toArray] I (.bool (useR x)) := by
 refine enter Tryz.func168 Tryz.call168 rfl Tryz.ntmps168 rfl (fun w0 => ?_)
 refine go 3 ?_
 refine o_box _ rfl rfl rfl (fun g1 => ?_)
 refine go 6 ?_
 refine o_v rfl (v_ldp (x.km.cells) m0 he rfl rfl rfl) ?_
 refine go 1 ?_
 refine o_callV (ref09Ivl _ x.km) rfl rfl ?_
 refine go 1 ?_
 refine sxb 6 rfl (fun h6 p6 => ?_) (fun h6 p6 => ?_)
 ·refine go 1 ?_
  refine o_cons (o_yes rfl rfl h6 (o_val rfl (v_ldp (x.cycles.cells) m0 he rfl rfl rfl) ?_))
  refine go 1 ?_
  refine o_yes rfl rfl h6 (o_callV (ref09Ivl _ x.cycles) rfl rfl ?_)
  refine go 2 ?_
  refine sxb 11 rfl (fun h11 p11 => ?_) (fun h11 p11 => ?_)
  ·refine go 1 ?_
   refine o_cons (o_yes rfl rfl h11 (o_val rfl (v_ldp (x.load.cells) m0 he rfl rfl rfl) ?_))
   refine go 1 ?_
   refine o_yes rfl rfl h11 (o_callV (ref09Ivl _ x.load) rfl rfl ?_)
   refine go 5 ?_
   refine fin1 rfl rfl ?_
   exact q_v (congrArg Value.bool (by simp only [useR, h6, h11, bS]))
  ·refine go 8 ?_
   refine fin1 rfl rfl ?_
   exact q_v (congrArg Value.bool (by simp only [useR, h6, h11, bS]))
 ·refine go 13 ?_
  refine fin1 rfl rfl ?_
  exact q_v (congrArg Value.bool (by simp only [useR, h6, bS]))

theorem ref09Valid (I : IMap) (e : Evt) (hs : SmE e) :
    FnV Tryz.prog 98 #[.agg e.cells.toArray] I (.bool (validE e)) := by
 refine enter Tryz.func98 Tryz.call98 rfl Tryz.ntmps98 rfl (fun w0 => ?_)
 refine go 3 ?_
 refine o_box _ rfl rfl rfl (fun g1 => ?_)
 refine go 5 ?_
 refine c_cut (I' := I) (L' := [(1, .pointer (some ⟨g1, 0, none⟩)), (28, .bool (evBadR e))]) (H' := [.blk g1 96 e.cells]) ?_ ?_
 ·refine go 5 ?_
  refine sxb 8 rfl (fun h8 p8 => ?_) (fun h8 p8 => ?_)
  ·refine go 22 ?_
   exact q_cut ⟨rfl, (congrArg (fun b => some (Value.bool b)) (by simp only [evBadR, h8, bS])), trivial⟩ rfl rfl
  ·refine go 5 ?_
   refine sxb 13 rfl (fun h13 p13 => ?_) (fun h13 p13 => ?_)
   ·refine go 17 ?_
    exact q_cut ⟨rfl, (congrArg (fun b => some (Value.bool b)) (by simp only [evBadR, h8, h13, bS])), trivial⟩ rfl rfl
   ·refine go 5 ?_
    refine sxb 18 rfl (fun h18 p18 => ?_) (fun h18 p18 => ?_)
    ·refine go 12 ?_
     exact q_cut ⟨rfl, (congrArg (fun b => some (Value.bool b)) (by simp only [evBadR, h8, h13, h18, bS])), trivial⟩ rfl rfl
    ·refine go 5 ?_
     refine sxb 23 rfl (fun h23 p23 => ?_) (fun h23 p23 => ?_)
     ·refine go 7 ?_
      exact q_cut ⟨rfl, (congrArg (fun b => some (Value.bool b)) (by simp only [evBadR, h8, h13, h18, h23, bS])), trivial⟩ rfl rfl
     ·refine go 3 ?_
      refine o_yes rfl rfl h23 (o_callV (name05 _ _ hs.1) rfl rfl ?_)
      refine go 4 ?_
      exact q_cut ⟨rfl, (congrArg (fun b => some (Value.bool b)) (by simp only [evBadR, h8, h13, h18, h23, bS])), trivial⟩ rfl rfl
 ·refine cb rfl (fun h28 p28 => ?_) (fun h28 p28 => ?_)
  ·refine go 7 ?_
   refine fin1 rfl rfl ?_
   exact q_v (congrArg Value.bool (by rw [← validER_eq]; simp only [validER, h28]; rfl))
  ·refine go 11 ?_
   refine o_val rfl (v_build (pl := [(0, 1), (1, 1), (2, 1), (3, 1), (4, 1), (5, 1), (6, 1), (7, 1), (8, 6)]) he he rfl rfl) ?_
   refine go 1 ?_
   refine o_alloc he rfl (fun g3 => ?_)
   refine go 1 ?_
   refine o_stw _ he rfl rfl rfl rfl rfl rfl ?_
   refine go 8 ?_
   refine c_cut (I' := I) (L' := [(1, .pointer (some ⟨g1, 0, none⟩)), (3, .pointer (some ⟨g3, 0, none⟩)), (4, .bool (goodR e))]) (H' := [.blk g3 96 (keepR e).cells, .blk g1 96 e.cells]) ?_ ?_
   ·refine go 13 ?_
    refine cb rfl (fun h38 p38 => ?_) (fun h38 p38 => ?_)
    ·refine go 6 ?_
     refine o_st1 he rfl rfl rfl rfl ?_
     refine go 6 ?_
     refine o_callV (name05 _ _ hs.2.1) rfl rfl ?_
     refine go 4 ?_
     exact q_cut ⟨rfl, rfl, (congrArg (fun b => some (Value.bool b)) (by simp only [goodR, p28, p38, h28, h38, Int.reduceEq, reduceIte, if_true, if_false, decide_true, decide_false, bS])), trivial⟩ (by rw [keepR, if_pos p38]; rfl) rfl
    ·refine go 6 ?_
     refine cb rfl (fun h46 p46 => ?_) (fun h46 p46 => ?_)
     ·refine go 6 ?_
      refine o_st1 he rfl rfl rfl rfl ?_
      refine go 8 ?_
      refine o_st1 he rfl rfl rfl rfl ?_
      refine go 6 ?_
      refine o_callV (name05 _ _ hs.2.2.1) rfl rfl ?_
      refine go 1 ?_
      refine sxb 57 rfl (fun h57 p57 => ?_) (fun h57 p57 => ?_)
      ·refine go 3 ?_
       refine o_yes rfl rfl h57 (o_callV (name05 _ _ hs.2.2.2.1) rfl rfl ?_)
       refine go 2 ?_
       refine sxb 62 rfl (fun h62 p62 => ?_) (fun h62 p62 => ?_)
       ·refine go 10 ?_
        exact q_cut ⟨rfl, rfl, (congrArg (fun b => some (Value.bool b)) (by simp only [goodR, p28, p38, p46, p57, p62, h28, h38, h46, h57, h62, Int.reduceEq, reduceIte, if_true, if_false, decide_true, decide_false, bS])), trivial⟩ (by rw [keepR, if_neg p38, if_pos p46]; rfl) rfl
       ·refine go 10 ?_
        exact q_cut ⟨rfl, rfl, (congrArg (fun b => some (Value.bool b)) (by simp only [goodR, p28, p38, p46, p57, p62, h28, h38, h46, h57, h62, Int.reduceEq, reduceIte, if_true, if_false, decide_true, decide_false, bS])), trivial⟩ (by rw [keepR, if_neg p38, if_pos p46]; rfl) rfl
      ·refine go 15 ?_
       exact q_cut ⟨rfl, rfl, (congrArg (fun b => some (Value.bool b)) (by simp only [goodR, p28, p38, p46, p57, h28, h38, h46, h57, Int.reduceEq, reduceIte, if_true, if_false, decide_true, decide_false, bS])), trivial⟩ (by rw [keepR, if_neg p38, if_pos p46]; rfl) rfl
     ·refine go 6 ?_
      refine cb rfl (fun h69 p69 => ?_) (fun h69 p69 => ?_)
      ·refine go 3 ?_
       refine o_v rfl (v_ldp (e.use.cells) m1 he rfl rfl rfl) ?_
       refine go 2 ?_
       refine o_st _ _ he rfl rfl rfl rfl rfl rfl rfl ?_
       refine go 4 ?_
       refine o_v rfl (v_ldp (e.use.cells) m1 he rfl rfl rfl) ?_
       refine go 1 ?_
       refine o_callV (ref09Use _ e.use) rfl rfl ?_
       refine go 4 ?_
       exact q_cut ⟨rfl, rfl, (congrArg (fun b => some (Value.bool b)) (by simp only [goodR, p28, p38, p46, p69, h28, h38, h46, h69, Int.reduceEq, reduceIte, if_true, if_false, decide_true, decide_false, bS])), trivial⟩ (by rw [keepR, if_neg p38, if_neg p46, if_pos p69]; rfl) rfl
      ·refine go 6 ?_
       refine cb rfl (fun h77 p77 => ?_) (fun h77 p77 => ?_)
       ·refine go 6 ?_
        refine o_st1 he rfl rfl rfl rfl ?_
        refine go 8 ?_
        refine o_st1 he rfl rfl rfl rfl ?_
        refine go 6 ?_
        refine o_callV (name05 _ _ hs.2.2.2.2.1) rfl rfl ?_
        refine go 1 ?_
        refine sxb 88 rfl (fun h88 p88 => ?_) (fun h88 p88 => ?_)
        ·refine go 6 ?_
         refine sxb 94 rfl (fun h94 p94 => ?_) (fun h94 p94 => ?_)
         ·refine go 9 ?_
          exact q_cut ⟨rfl, rfl, (congrArg (fun b => some (Value.bool b)) (by simp only [goodR, p28, p38, p46, p69, p77, p88, p94, h28, h38, h46, h69, h77, h88, h94, Int.reduceEq, reduceIte, if_true, if_false, decide_true, decide_false, bS])), trivial⟩ (by rw [keepR, if_neg p38, if_neg p46, if_neg p69, if_pos p77]; rfl) rfl
         ·refine go 9 ?_
          exact q_cut ⟨rfl, rfl, (congrArg (fun b => some (Value.bool b)) (by simp only [goodR, p28, p38, p46, p69, p77, p88, p94, h28, h38, h46, h69, h77, h88, h94, Int.reduceEq, reduceIte, if_true, if_false, decide_true, decide_false, bS])), trivial⟩ (by rw [keepR, if_neg p38, if_neg p46, if_neg p69, if_pos p77]; rfl) rfl
        ·refine go 15 ?_
         exact q_cut ⟨rfl, rfl, (congrArg (fun b => some (Value.bool b)) (by simp only [goodR, p28, p38, p46, p69, p77, p88, h28, h38, h46, h69, h77, h88, Int.reduceEq, reduceIte, if_true, if_false, decide_true, decide_false, bS])), trivial⟩ (by rw [keepR, if_neg p38, if_neg p46, if_neg p69, if_pos p77]; rfl) rfl
       ·refine go 3 ?_
        exact q_cut ⟨rfl, rfl, (congrArg (fun b => some (Value.bool b)) (by simp only [goodR, p28, p38, p46, p69, p77, h28, h38, h46, h69, h77, Int.reduceEq, reduceIte, if_true, if_false, decide_true, decide_false, bS])), trivial⟩ (by rw [keepR, if_neg p38, if_neg p46, if_neg p69, if_neg p77]; rfl) rfl
   ·refine go 4 ?_
    refine sxb 101 rfl (fun h101 p101 => ?_) (fun h101 p101 => ?_)
    ·refine go 2 ?_
     refine o_cons (o_yes rfl rfl h101 (o_val rfl (v_steql T.eqg_96 (eqS_Evt (keepR e) e) rfl rfl) ?_))
     refine go 5 ?_
     refine fin1 rfl rfl ?_
     exact q_v (congrArg Value.bool (by rw [← validER_eq]; simp only [validER, h28, h101, bS]))
    ·refine go 8 ?_
     refine fin1 rfl rfl ?_
     exact q_v (congrArg Value.bool (by rw [← validER_eq]; simp only [validER, h28, h101, bS]))

end Go.Proofs.YtdapmfkbpnjkmaaGreat

/- Histories: what the course of picked events does. -/
set_option linter.all false
namespace Go.Sx
open Go
section
variable {α β : Type} [Day α] [Day β]
theorem insD_map (f : α → β) (hf : ∀ x, Day.day (f x) = Day.day x) (e : α) : ∀ l : List α, (insD e l).map f = insD (f e) (l.map f)
  | [] => rfl
  | x :: r => by
    simp only [insD, List.map_cons, hf]
    split
    · rfl
    · rw [List.map_cons, insD_map f hf e r]
theorem sortF_map (f : α → β) (hf : ∀ x, Day.day (f x) = Day.day x) : ∀ l : List α, (sortF l).map f = sortF (l.map f)
  | [] => rfl
  | x :: r => by
    show (insD x (sortF r)).map f = insD (f x) (sortF (r.map f))
    rw [insD_map f hf, sortF_map f hf r]
theorem insD_first {e : α} {l : List α} (h : ∀ x ∈ l, Day.day e ≤ Day.day x) : insD e l = e :: l := by
  cases l with
  | nil => rfl
  | cons x r => simp only [insD]; rw [if_pos (h x (by simp))]
theorem insD_filt (p : α → Bool) (e : α) : ∀ {l : List α}, Srtd l → (insD e l).filter p = if p e = true then insD e (l.filter p) else l.filter p
  | [], _ => by by_cases h : p e = true <;> simp [insD, h]
  | x :: r, hs => by
    have hs' := List.pairwise_cons.1 hs
    simp only [insD]
    by_cases hd : Day.day e ≤ Day.day x
    · rw [if_pos hd, List.filter_cons]
      by_cases h : p e = true
      · rw [if_pos h, if_pos h, insD_first]
        intro y hy
        rcases List.mem_cons.1 (List.mem_filter.1 hy).1 with rfl | hy
        · exact hd
        · exact Int.le_trans hd (hs'.1 y hy)
      · rw [if_neg h, if_neg h]
    · rw [if_neg hd, List.filter_cons, insD_filt p e hs'.2, List.filter_cons]
      by_cases h : p e = true
      · rw [if_pos h, if_pos h]
        by_cases hx : p x = true
        · rw [if_pos hx, if_pos hx]; simp only [insD]; rw [if_neg hd]
        · rw [if_neg hx, if_neg hx]
      · rw [if_neg h, if_neg h]
theorem sortF_filt (p : α → Bool) : ∀ l : List α, (sortF l).filter p = sortF (l.filter p)
  | [] => rfl
  | x :: r => by
    show (insD x (sortF r)).filter p = _
    rw [insD_filt p x (sortF_srt r), sortF_filt p r, List.filter_cons]
    split <;> rfl
end
/-- the state that events lead to, if they are possible -/
def runsTo (c : List Kind) : List Part → List Evt → Option (List Part)
  | st, [] => some st
  | st, e :: r => if (applyF c st e).2 = 0 then runsTo c (applyF c st e).1 r else none
theorem runs_app (c : List Kind) : ∀ (a b : List Evt) (st : List Part), runsTo c st (a ++ b) = (runsTo c st a).bind fun s => runsTo c s b
  | [], _, _ => rfl
  | e :: r, b, st => by
    simp only [List.cons_append, runsTo]
    split
    · exact runs_app c r b _
    · rfl
theorem follow_ok (c : List Kind) : ∀ (l : List Pkd) (st : List Part), decide ((followGo c st l).2 = 0) = (runsTo c st (l.map Pkd.e)).isSome
  | [], _ => rfl
  | p :: r, st => by
    simp only [List.map_cons, runsTo, followGo]
    split
    · exact follow_ok c r _
    · rename_i h; simp [h]
theorem follow_app (c : List Kind) : ∀ (a b : List Pkd) (st : List Part), followGo c st (a ++ b) = match runsTo c st (a.map Pkd.e) with | some s => followGo c s b | none => followGo c st a
  | [], _, _ => rfl
  | p :: r, b, st => by
    simp only [List.cons_append, List.map_cons, runsTo, followGo]
    split
    · rw [follow_app c r b]
    · rfl
end Go.Sx

/- Sorting what is picked; a callee that changes one thing and leaves memory behind. -/
set_option linter.all false
namespace Go.Sx
open Go
/-- what lies behind the elements in a block -/
structure Rst (k : Nat) where
  l : List (List Value)
  uk : Uk k l
theorem evCh_ukP (l : List Pkd) : Uk 15 (evCh l) := evCh_uk l
theorem evCh_flatP {I : IMap} (l : List Pkd) : FlatC I (evCh l) l := by
  induction l with
  | nil => exact .nil
  | cons e l ih => exact .cons rfl ih
theorem evCh_restP {l : List Pkd} {rest : List (List Value)} {i : Nat} (h : i < l.length) : (evCh l ++ rest)[i]? = some (Day.ch l[i]) := by
  rw [List.getElem?_append_left (by rw [evCh_len]; exact h)]; exact evCh_at h
section
variable {α : Type} [Day α]
theorem evCh_setR (l : List α) (rest : List (List Value)) (i : Nat) (h : i < l.length) (e : α) : (evCh l ++ rest).set i (Day.ch e) = evCh (l.set i e) ++ rest := by
  rw [List.set_append_left _ _ (by rw [evCh_len]; exact h), evCh_set]
theorem evCh_swpR {l : List α} {rest : List (List Value)} {i j : Nat} (hi : i < l.length) (hj : j < l.length) : ((evCh l ++ rest).set i (Day.ch l[j])).set j (Day.ch l[i]) = evCh (swp l i j) ++ rest := by
  rw [evCh_setR _ _ _ hi, evCh_setR _ _ _ (by rw [List.length_set]; exact hj), swp_eq hi hj]
theorem evCh_swpR' {l : List α} {rest : List (List Value)} {i j : Nat} (hi : i < l.length) (hj : j < l.length) (hij : i ≠ j) : ((evCh l ++ rest).set j (Day.ch l[i])).set i (Day.ch l[j]) = evCh (swp l i j) ++ rest := by
  rw [evCh_setR _ _ _ hj, evCh_setR _ _ _ (by rw [List.length_set]; exact hi), swp_eq hi hj, List.set_comm _ _ hij.symm]
end
theorem evCh_ofP {I : IMap} {xss : List (List Value)} {l : List Pkd} (h : FlatC I xss l) : xss = evCh l := by
  induction h with
  | nil => rfl
  | cons h1 _ ih => rw [ih]; simp only [evCh, List.map_cons]; rw [show _ = _ from h1]; rfl
theorem subI_neg {a b : Int} : a - b < 0 ↔ a < b := by omega
theorem day_ltP {l : List Pkd} {i j : Nat} {hi : i < l.length} {hj : j < l.length} (h : Day.day l[i] - Day.day l[j] < 0) : dayAt l i < dayAt l j := by
  rw [subI_neg] at h; rw [dayAt_eq hi, dayAt_eq hj]; exact h
theorem day_geP {l : List Pkd} {i j : Nat} {hi : i < l.length} {hj : j < l.length} (h : ¬ Day.day l[i] - Day.day l[j] < 0) : dayAt l j ≤ dayAt l i := by
  rw [subI_neg] at h; rw [dayAt_eq hi, dayAt_eq hj]; omega
section
variable {P : Program} {ρ : Option Nat} {n : Sz} {E : Ent} {I I' : IMap} {L : LL} {H : List Res} {Q : Exit → Act → World → Prop} {ops : Array Oper} {K : Act → World → Prop} {w0 : World}
variable {d ty : Nat} {pos : String} {af : Array Edge} {fo : Operand} {as_ : List Operand} {ats : Array TypeId} {f : FuncId} {args : List Value} {r r' : Res} {X : List Nat}
/-- a contract: one thing of the caller's own is changed, and there is new memory -/
def FnG (P : Program) (f : FuncId) (args : Array Value) (I : IMap) (r : Res) (p : Value → IMap → Res → Prop) : Prop := FnH P f args I [r] fun u I' H' => ∃ r', H' = [r'] ∧ p u I' r'
theorem o_callG {p : Value → IMap → Res → Prop} (hc : FnG P f args.toArray I r p) (h : callArgs L fo as_ = some (f, args)) (hd : Nat.blt d n.sz = true) (k : ∀ v I' r', ILe I I' → p v I' r' → SX n E I' ((d, v) :: L) (r' :: H) K) :
    SX n E I L (r :: H) (one P ops Q ⟨some d, .call { callee := .value fo, args := as_.toArray, argTypes := ats }, ty, pos, af, none⟩ K) :=
  o_callH (Hc := [r]) (H0 := H) hc h hd fun u I' H' hI hp => by obtain ⟨r', rfl, h1⟩ := hp; exact k u I' r' hI h1
theorem q_g {v : Value} {p : Value → IMap → Res → Prop} (h : p v I r) : SX n E I L [r] fun _ w => Post E (fun u' I' H' => ∃ r', H' = [r'] ∧ p u' I' r') (.returned v) w := q_post (fun _ m => m) ⟨r, rfl, h⟩
theorem FnX.of_V {args : Array Value} {v : Value} {t k : Nat} (h : FnV P f args I v) : FnX P f args I [] (fun u r => u = v ∧ r = .row (.slice none 0 0) t k 0 []) :=
  ⟨fun w m => (h.go w m).mono fun _ _ ⟨u, I', H', he, hm, hq⟩ => by
    obtain ⟨rfl, rfl, rfl⟩ := hq
    exact ⟨_, _, _, he, hm.nilrow t k, rfl, _, rfl, rfl, rfl⟩⟩
theorem FnX.back {args : Array Value} {g e k m cap : Nat} {xss yss rest : List (List Value)} {p : Value → Res → Prop} (hU : Uk k yss) (hR : Uk k rest) (hm : yss.length = m) (hc : m + rest.length = cap) (hl : cap ≤ maxLen)
    (h : FnX P f args I [.blk g e (xss ++ rest).flatten] (fun u r => p u (.row (.slice (some ⟨g, 0, none⟩) m cap) e k m yss.flatten) ∧ r = .blk g e (yss ++ rest).flatten)) : FnX P f args I [.blk g e (xss ++ rest).flatten] p :=
  ⟨fun w m' => (h.go w m').mono fun _ w' ⟨u, I', H', he, hm', hq⟩ => by
    obtain ⟨rfl, r', rfl, hp, rfl⟩ := hq
    refine ⟨_, _, _, he, ?_, rfl, _, rfl, hp⟩
    have hb : w'.heap[g]? = some (.cells (yss ++ rest).flatten.toArray e (0, 0)) := hm'.blk
    exact hm'.step rfl ⟨rfl, Nat.le_refl _⟩ rfl (Nat.le_refl _) (fun _ _ _ => rfl) (IsRow.shut hb hU hR hm hc hl) (fun g' hg' => .inl hg')⟩
theorem FnX.of_rowV {args : Value → List Value} {p : Value → Res → Prop} {v : Value} {e k m : Nat} {xss : List (List Value)} (hU : Uk k xss) (hm : xss.length = m)
    (h0 : m = 0 → v = .slice none 0 0 → FnX P f (args (.slice none 0 0)).toArray I [] p)
    (h1 : ∀ g cap rest, v = .slice (some ⟨g, 0, none⟩) m cap → Uk k rest → m + rest.length = cap → cap ≤ maxLen → FnX P f (args (.slice (some ⟨g, 0, none⟩) m cap)).toArray I [.blk g e (xss ++ rest).flatten] p) : FnX P f (args v).toArray I [.row v e k m xss.flatten] p := by
  refine ⟨fun w mm => ?_⟩
  have hr : IsRow (look' w) v e k m xss.flatten := mm.holds (.row v e k m xss.flatten) (List.mem_cons_self ..)
  rcases hr.open_ hU hm with ⟨h2, h3⟩ | ⟨g, cap, rest, h2, h3, h4, h5, h6⟩
  · subst h3
    exact (h0 h2 rfl).go w mm.drop
  · subst h2
    exact (h1 g cap rest rfl h3 h4 h5).go w (mm.step rfl ⟨rfl, Nat.le_refl _⟩ rfl (Nat.le_refl _) (fun _ _ _ => rfl) h6 (fun g' hg' => .inl hg'))
end
/-! picking -/
theorem pick_len (day : Int) (l : List Rep) (ch : List Int) (i : Nat) : (pickF day l ch i).length ≤ i := by
  unfold pickF
  exact Nat.le_trans (List.length_filterMap_le _ _) (by simp)
section
variable {day : Int} {l : List Rep} {ch : List Int} {i : Nat} {out : List Pkd}
theorem pk_no (h1 : i < l.length) (h2 : i < ch.length) (hw : pickF day l ch i = out) (h : optAt day l[i] ch[i] = none) : pickF day l ch (i + 1) = out := by
  rw [pick_succ, hw, pkd, at2_eq h1 h2, h]; simp
theorem pk_neg (h1 : i < l.length) (h2 : i < ch.length) (hw : pickF day l ch i = out) (h : ¬ 0 ≤ ch[i]) : pickF day l ch (i + 1) = out := pk_no h1 h2 hw (if_neg h)
theorem pk_big (h1 : i < l.length) (h2 : i < ch.length) (hw : pickF day l ch i = out) (h : ¬ ch[i] < (l[i].options.length : Nat)) : pickF day l ch (i + 1) = out := pk_no h1 h2 hw (by
  unfold optAt
  split
  · rw [List.getElem?_eq_none (by omega)]
  · rfl)
theorem pk_late (h1 : i < l.length) (h2 : i < ch.length) (hw : pickF day l ch i = out) (hk : ch[i].toNat < l[i].options.length) (h : ¬ l[i].options[ch[i].toNat].day < day) : pickF day l ch (i + 1) = out := pk_no h1 h2 hw (by
  unfold optAt
  split
  · simp only [List.getElem?_eq_getElem hk]; rw [if_neg h]
  · rfl)
theorem pk_yes (h1 : i < l.length) (h2 : i < ch.length) (hw : pickF day l ch i = out) (h0 : 0 ≤ ch[i]) (hk : ch[i].toNat < l[i].options.length) (h : l[i].options[ch[i].toNat].day < day) (hv : 0 ≤ l[i].options[ch[i].toNat].day ∧ l[i].options[ch[i].toNat].day ≤ 40000) :
    pickF day l ch (i + 1) = out ++ [⟨l[i].options[ch[i].toNat], i, hv.1, hv.2⟩] := by
  have ho : optAt day l[i] ch[i] = some l[i].options[ch[i].toNat] := by
    unfold optAt
    rw [if_pos h0]
    simp only [List.getElem?_eq_getElem hk]; rw [if_pos h]
  rw [pick_succ, hw, pkd, at2_eq h1 h2, ho]
  simp [hv]
end
theorem follow_step {c : List Kind} {st : List Part} {l : List Pkd} {i : Nat} (hi : i < l.length) : followGo c st (l.drop i) = if (applyF c st l[i].e).2 = 0 then followGo c (applyF c st l[i].e).1 (l.drop (i + 1)) else (l[i].rep, (applyF c st l[i].e).2) := by
  rw [List.drop_eq_getElem_cons hi]; rfl
theorem open_succ (l : List Rep) (ch : List Int) (i : Nat) : openDays l ch (i + 1) = openDays l ch i ++ ((at2 (fun r k => if k < 0 then r.options.map Evt.day else []) l ch i).getD []) := by
  rw [openDays, List.range_succ, List.flatMap_append, openDays]; simp
/-- what is open up to an option -/
def openTo (l : List Rep) (ch : List Int) (i j : Nat) : List Int := openDays l ch i ++ ((at2 (fun r k => if k < 0 then (r.options.take j).map Evt.day else []) l ch i).getD [])
theorem openTo_zero {l : List Rep} {ch : List Int} {i : Nat} : openTo l ch i 0 = openDays l ch i := by
  unfold openTo at2
  split
  · simp
  · simp
theorem openTo_skip {l : List Rep} {ch : List Int} {i j : Nat} (h1 : i < l.length) (h2 : i < ch.length) (h : ¬ ch[i] < 0) (j' : Nat) : openTo l ch i j = openTo l ch i j' := by
  unfold openTo; rw [at2_eq h1 h2, at2_eq h1 h2]; simp [h]
theorem openTo_step {l : List Rep} {ch : List Int} {i j : Nat} (h1 : i < l.length) (h2 : i < ch.length) (h : ch[i] < 0) (hj : j < l[i].options.length) : openTo l ch i (j + 1) = openTo l ch i j ++ [l[i].options[j].day] := by
  unfold openTo; rw [at2_eq h1 h2, at2_eq h1 h2]; simp only [if_pos h, Option.getD_some]
  rw [← take_succ_of hj, List.map_append, List.append_assoc]; rfl
theorem openTo_all {l : List Rep} {ch : List Int} {i : Nat} (h1 : i < l.length) (h2 : i < ch.length) : openTo l ch i l[i].options.length = openDays l ch (i + 1) := by
  rw [open_succ, openTo, at2_eq h1 h2, at2_eq h1 h2]; simp [List.take_length]
theorem open_pre {l : List Rep} {ch : List Int} {n i : Nat} (h : i ≤ n) : openDays l ch i <+: openDays l ch n := by
  induction n with
  | zero => obtain rfl : i = 0 := by omega
            exact List.prefix_rfl
  | succ n ih =>
    rcases Nat.lt_or_ge n i with hi | hi
    · obtain rfl : i = n + 1 := by omega
      exact List.prefix_rfl
    · exact (ih hi).trans (by rw [open_succ]; exact List.prefix_append _ _)
theorem openTo_pre {l : List Rep} {ch : List Int} {i j : Nat} (h1 : i < l.length) (h2 : i < ch.length) (h : ch[i] < 0) (hj : j < l[i].options.length) : openTo l ch i j ++ [l[i].options[j].day] <+: openDays l ch l.length := by
  rw [← openTo_step h1 h2 h hj]
  refine List.IsPrefix.trans ?_ (open_pre (i := i + 1) (by omega))
  rw [← openTo_all h1 h2]
  unfold openTo
  rw [at2_eq h1 h2, at2_eq h1 h2]
  simp only [if_pos h, Option.getD_some]
  refine (List.prefix_append_right_inj _).2 ?_
  rw [List.take_length, List.map_take]
  exact List.take_prefix _ _
theorem validRep_len {r : Rep} (h : validRep r = true) : 1 ≤ r.options.length ∧ r.options.length ≤ 4 := by
  simp only [validRep, Bool.and_eq_true, Bool.not_eq_true', Bool.or_eq_false_iff, decide_eq_false_iff_not] at h
  omega
theorem pick_mem {day : Int} {l : List Rep} {ch : List Int} {n : Nat} {p : Pkd} (h : p ∈ pickF day l ch n) : ∃ r ∈ l, p.e ∈ r.options := by
  rw [pickF, List.mem_filterMap] at h
  obtain ⟨i, _, hi⟩ := h
  unfold pkd at2 at hi
  split at hi
  · rename_i e he
    split at hi
    · cases hi
      split at he
      · rename_i r k h1 h2
        refine ⟨r, List.mem_of_getElem? h1, ?_⟩
        simp only [Option.join_some, optAt] at he
        split at he
        · split at he
          · rename_i e' h3
            split at he
            · cases he; exact List.mem_of_getElem? h3
            · cases he
          · cases he
        · cases he
      · simp at he
    · cases hi
  · cases hi
theorem given_all {c : List Kind} {l : List Rep} {ch : List Int} {n : Int} (h : givenF c l ch n = true) : ch.length = l.length ∧ ∀ r ∈ l, validRep r = true := by
  simp only [givenF, Bool.and_eq_true, Bool.not_eq_true', Bool.or_eq_false_iff, Bool.not_eq_false', decide_eq_true_eq] at h
  have hlc : ch.length = l.length := by omega
  refine ⟨hlc, fun r hr => ?_⟩
  obtain ⟨i, hi, rfl⟩ := List.getElem_of_mem hr
  have := allTo_at h.2 hi hi (by omega)
  simp only [chFine, Bool.not_eq_true', Bool.or_eq_false_iff, decide_eq_false_iff_not] at this
  cases hv : validRep l[i] with
  | true => rfl
  | false => exact absurd (by simp [chs, hv]) this.1.1
theorem least_snoc (l : List Int) (d : Int) : leastF (l ++ [d]) = if d < leastF l then d else leastF l := by
  rw [leastF, List.foldl_append]; rfl
/-- events as_ keys -/
def encE (e : Evt) : Value := .agg e.cells.toArray
end Go.Sx

/- Maps whose keys are structs of numbers, strings and truth values. -/
set_option linter.all false
namespace Go.Sx
open Go
/-- a key that can be hashed -/
def chkV (P : Program) : Nat → TypeId → Value → Bool
  | 0, _, _ => false
  | d + 1, t, x => match P.underlying t with
    | some .bool | some (.int _) | some .string => true
    | some (.struct fs) => match x with
      | .agg xs => fs.toList.all fun f => match partV P f.type xs.toList f.offset with | some v => chkV P d f.type v | none => false
      | _ => false
    | _ => false
theorem chkV_run {P : Program} {b : Bool} : ∀ (d : Nat) (t : TypeId) (v : Value), chkV P d t v = true → ∀ (n : Nat), d ≤ n → ∀ w : World, (Instr.checkKey b n t v).run P w = .ok () w
  | 0, _, _, h, _, _, _ => by simp [chkV] at h
  | d + 1, t, v, h, n, hn, w => by
    obtain ⟨n, rfl⟩ : ∃ q, n = q + 1 := ⟨n - 1, by omega⟩
    rw [chkV] at h
    rw [Instr.checkKey]
    split at h
    · rename_i hu; simp [run_underlying hu]
    · rename_i hu; simp [run_underlying hu]
    · rename_i hu; simp [run_underlying hu]
    · rename_i fs hu
      split at h
      · rename_i xs
        simp only [Sem.run_bind, run_underlying hu, Result.andThen_ok]
        rw [← Array.forIn_toList]
        have key : ∀ l : List Field, (∀ f ∈ l, (match partV P f.type xs.toList f.offset with | some v => chkV P d f.type v | none => false) = true) → ∀ w : World,
            (forIn l PUnit.unit fun f (_ : PUnit) => do
              if f.name ≠ "_" then do
                let __do_lift ← part f.type xs f.offset
                Instr.checkKey b n f.type __do_lift
                pure PUnit.unit
                pure (ForInStep.yield PUnit.unit)
              else do
                pure PUnit.unit
                pure (ForInStep.yield PUnit.unit) : Sem PUnit).run P w = .ok () w := by
          intro l
          induction l with
          | nil => intro _ w; simp
          | cons f l ih =>
            intro hl w
            have h1 := hl f (by simp)
            split at h1
            · rename_i v hv
              have e1 := partV_run hv w
              have e2 := chkV_run (b := b) d f.type v h1 n (by omega) w
              have e3 := ih (fun g hg => hl g (by simp [hg])) w
              rw [List.forIn_cons]
              by_cases hf : f.name ≠ "_"
              · simp only [if_pos hf, Sem.run_bind, e1, Result.andThen_ok, e2, Sem.run_pure]
                exact e3
              · simp only [if_neg hf, Sem.run_bind, Result.andThen_ok, Sem.run_pure]
                exact e3
            · cases h1
        have := key fs.toList (by rw [List.all_eq_true] at h; exact h) w
        rw [this]
        simp
      · cases h
    · cases h
def structK (P : Program) (kt : TypeId) : Bool := match P.underlying kt with
  | some (.struct _) => true
  | _ => false
theorem key_struct {κ : Type} [DecidableEq κ] {P : Program} {kt : TypeId} {cells : κ → List Value} (h : structK P kt = true) (he : ∀ p q, eqV P 9 kt (.agg (cells p).toArray) (.agg (cells q).toArray) = some (decide (p = q)))
    (hc : ∀ p, chkV P 9 kt (.agg (cells p).toArray) = true) (hb : ∀ p, (cells p).all (fun v => Instr.sameBits 9999 v v) = true) : KeyOK P kt (fun p => .agg (cells p).toArray) where
  find := by
    obtain ⟨fs, h1⟩ : ∃ fs, P.underlying kt = some (.struct fs) := by
      unfold structK at h
      split at h
      · rename_i fs hfs; exact ⟨fs, hfs⟩
      · cases h
    intro w k es kvs hes
    have key : ∀ (es : List MapEntry) (kvs : List (κ × Value)) (i : Nat), es.map (fun e => (e.key, e.val)) = emap (fun p => .agg (cells p).toArray) kvs → (Instr.findAsking kt (.agg (cells k).toArray) es i).run P w = .ok (mfind kvs k i) w := by
      intro es
      induction es with
      | nil => intro kvs i he; cases kvs <;> simp_all [emap, Instr.findAsking, mfind]
      | cons e es ih =>
        intro kvs i hes
        cases kvs with
        | nil => simp [emap] at hes
        | cons p kvs =>
          obtain ⟨k', v⟩ := p
          simp only [List.map_cons, emap, List.cons.injEq, Prod.mk.injEq] at hes
          obtain ⟨⟨h1, h2⟩, h3⟩ := hes
          have hr := eqV_run (P := P) 9 kt _ _ _ (he k k') 10000 (by omega) w
          simp only [Instr.findAsking, h1, Sem.run_bind, Op.equal, Op.maxDepth, hr, Result.andThen_ok]
          by_cases hk : k' = k
          · subst hk; simp [mfind, h2]
          · have : ¬ k = k' := fun e => hk e.symm
            simp only [this, decide_false, Bool.false_eq_true, if_false, mfind, if_neg hk]
            exact ih kvs (i + 1) h3
    simp only [Instr.findKey, Sem.run_bind, run_underlying h1, Result.andThen_ok]
    cases es with
    | nil => cases kvs <;> simp_all [emap, Instr.findNow, mfind]
    | cons e es =>
      have : Instr.findNow (.struct fs) (.agg (cells k).toArray) (e :: es) 0 = none := by simp [Instr.findNow, Instr.sameNow]
      simp only [this]
      exact key _ kvs 0 hes
  check := fun w b k => chkV_run 9 kt _ (hc k) 10000 (by omega) w
  same := by
    intro k
    show Instr.sameBits (9999 + 1) (.agg (cells k).toArray) (.agg (cells k).toArray) = true
    have := hb k
    rw [List.all_eq_true] at this
    simp only [Instr.sameBits, beq_self_eq_true, Bool.true_and, List.all_eq_true]
    intro p hp
    obtain ⟨i, hi, rfl⟩ := List.getElem_of_mem hp
    simp only [List.getElem_zip]
    exact this _ (List.getElem_mem _)
theorem bits_str (n : Nat) (s : ByteArray) : Instr.sameBits n (.string s) (.string s) = true := by
  have hs : (s == s) = true := by rw [ba_beq]; simp
  cases n <;> simp [Instr.sameBits, hs]
theorem bits_int (n : Nat) (k : IntKind) (i : Int) : Instr.sameBits n (.int k i) (.int k i) = true := by cases n <;> simp [Instr.sameBits]
end Go.Sx

/- Walks, printed by a program out of the code of the functions: each theorem is a contract of one function. -/
namespace Go.Proofs.YtdapmfkbpnjkmaaGreat
open Go Go.Sx
set_option linter.all false
set_option maxRecDepth 20000
set_option maxHeartbeats 4000000
instance T.elt_25 : Has (eltK Tryz.prog 25) (64, 2) := ⟨by kernel_rfl⟩
instance T.elt_65 : Has (eltK Tryz.prog 65) (3, 1) := ⟨by kernel_rfl⟩
instance T.fld_64_0 : Has (fldK Tryz.prog 64 0) (0, false, 1) := ⟨by kernel_rfl⟩
instance T.fld_64_1 : Has (fldK Tryz.prog 64 1) (1, false, 1) := ⟨by kernel_rfl⟩
instance T.ty_25 : Has (tyK Tryz.prog 25) (false, 1) := ⟨by kernel_rfl⟩
instance T.ty_64 : Has (tyK Tryz.prog 64) (true, 2) := ⟨by kernel_rfl⟩
instance T.ty_65 : Has (tyK Tryz.prog 65) (false, 1) := ⟨by kernel_rfl⟩
instance T.und_126 : Has (Tryz.prog.underlying 126) (.map 96 4) := ⟨by kernel_rfl⟩
instance T.und_25 : Has (Tryz.prog.underlying 25) (.slice 64) := ⟨by kernel_rfl⟩
instance T.und_65 : Has (Tryz.prog.underlying 65) (.slice 3) := ⟨by kernel_rfl⟩
instance T.zero_64 : Has (zeroK Tryz.prog 64) [.slice none 0 0, .bool false] := ⟨by kernel_rfl⟩
theorem keyEvt : KeyOK Tryz.prog 96 encE := key_struct (cells := Evt.cells) (by kernel_rfl) (fun p q => eqS_Evt p q) (fun p => by kernel_rfl) (fun p => by simp [Evt.cells, bits_str, bits_int])

theorem repValid (I : IMap) (r : Rep) (S : Option Addr) (d : Nat) (hr : RdS I (.slice S r.options.length d) r.options) (hs : ∀ e ∈ r.options, SmE e) :
    FnV Tryz.prog 34 #[.agg (r.cells (.slice S r.options.length d)).toArray] I (.bool (validRep r)) := by
 have hSA : RdA I S r.options := (by obtain ⟨_, _, e, h, _⟩ := hr; cases e; exact h)
 have hl4 : d ≤ 9223372036854775807 := (by obtain ⟨_, _, e, h, h1, h2⟩ := hr; cases e; exact h2)
 have hl5 := hr.lenLe
 refine enter Tryz.func34 Tryz.call34 rfl Tryz.ntmps34 rfl (fun w0 => ?_)
 refine go 3 ?_
 refine o_box _ rfl rfl rfl (fun g1 => ?_)
 refine go 5 ?_
 refine c_cut (I' := I) (L' := [(1, .pointer (some ⟨g1, 0, none⟩)), (15, .bool (decide (((r.options.length : Nat) : Int) = 0) || decide ((4 : Int) < (r.options.length : Nat))))]) (H' := [.blk g1 64 (r.cells (.slice S r.options.length d))]) ?_ ?_
 ·refine go 6 ?_
  refine sxb 10 rfl (fun h10 p10 => ?_) (fun h10 p10 => ?_)
  ·refine go 7 ?_
   exact q_cut ⟨rfl, (congrArg (fun b => some (Value.bool b)) (by simp only [h10, bS])), trivial⟩ rfl rfl
  ·refine go 7 ?_
   exact q_cut ⟨rfl, (congrArg (fun b => some (Value.bool b)) (by simp only [h10, bS])), trivial⟩ rfl rfl
 ·refine cb rfl (fun h15 p15 => ?_) (fun h15 p15 => ?_)
  ·refine go 7 ?_
   refine fin1 rfl rfl ?_
   exact q_v (congrArg Value.bool (by simp only [validRep, h15]; rfl))
  ·refine go 5 ?_
   refine o_map0 (encE) he rfl (fun r16 => ?_)
   refine go 13 ?_
   refine c_loop (α := Nat) 0 (fun i => I)
    (fun i => [(1, .pointer (some ⟨g1, 0, none⟩)), (3, .map (some r16)), (18, .slice S r.options.length d), (19, .int .i64 ((r.options.length : Nat) : Int)), (20, .int .i64 ((i : Nat) : Int))])
    (fun i => [.mp r16 (emap encE (kvsOf _root_.id (fun _ => Value.bool true) (r.options.take i))), .blk g1 64 (r.cells (.slice S r.options.length d))])
    (fun i => i ≤ r.options.length ∧ allP optFine r.options i = true)
    (fun i => r.options.length - i) ⟨Nat.zero_le _, rfl⟩ rfl sb rfl ?_
   intro i ⟨hi, hn⟩
   refine go 6 ?_
   refine cb rfl (fun h21 p21 => ?_) (fun h21 p21 => ?_)
   ·have hlt : i < r.options.length := by omega
    refine go 6 ?_
    obtain ⟨b22, o22, w22, e22, c22, r22⟩ := RdA.at_ hSA (i := i) hlt
    obtain rfl := r22
    refine o_v rfl (v_idx he rfl rfl e22 (i) (by omega) hlt) ?_
    refine o_v rfl (v_ldIa he rfl c22 rfl) ?_
    refine go 1 ?_
    refine o_alloc he rfl (fun g5 => ?_)
    refine go 1 ?_
    refine o_stw _ he rfl rfl rfl rfl rfl rfl ?_
    refine go 4 ?_
    refine c_cut (I' := I) (L' := [(1, .pointer (some ⟨g1, 0, none⟩)), (3, .map (some r16)), (18, .slice S r.options.length d), (19, .int .i64 ((r.options.length : Nat) : Int)), (20, .int .i64 ((i : Nat) : Int)), (5, .pointer (some ⟨g5, 0, none⟩)), (31, .bool (hit _root_.id (r.options.take i) r.options[i] || !validE r.options[i]))]) (H' := [.blk g5 96 r.options[i].cells, .mp r16 (emap encE (kvsOf _root_.id (fun _ => Value.bool true) (r.options.take i))), .blk g1 64 (r.cells (.slice S r.options.length d))]) ?_ ?_
    ·refine go 3 ?_
     refine o_v rfl (v_get m1 (keyEvt) he he (r.options[i]) rfl rfl (kvs_hit1 _root_.id _ _)) ?_
     refine go 1 ?_
     refine sxb 27 rfl (fun h27 p27 => ?_) (fun h27 p27 => ?_)
     ·refine go 6 ?_
      exact q_cut ⟨rfl, rfl, rfl, rfl, rfl, rfl, (congrArg (fun b => some (Value.bool b)) (by simp only [h21, h27, bS])), trivial⟩ rfl rfl
     ·refine go 2 ?_
      refine o_yes rfl rfl h27 (o_callV (evValid _ r.options[i] (hs _ (List.getElem_mem hlt))) rfl rfl ?_)
      refine go 4 ?_
      exact q_cut ⟨rfl, rfl, rfl, rfl, rfl, rfl, (congrArg (fun b => some (Value.bool b)) (by simp only [h21, h27, bS])), trivial⟩ rfl rfl
    ·refine cb rfl (fun h31 p31 => ?_) (fun h31 p31 => ?_)
     ·refine go 12 ?_
      refine fin1 rfl rfl ?_
      exact q_v (congrArg Value.bool (by simp only [validRep, h15, allP_not hlt (show optFine (r.options.take i) r.options[i] = false from (congrArg not h31).trans rfl), bS]))
     ·refine go 6 ?_
      have h31n : hit _root_.id (r.options.take i) r.options[i] = false := by revert h31; cases hit _root_.id (r.options.take i) r.options[i] <;> simp
      refine bring1 ?_
      refine o_mapPut (kvsOf _root_.id (fun _ => Value.bool true) (r.options.take (i + 1))) (keyEvt) he (r.options[i]) rfl rfl rfl ((kvs_put _root_.id (fun _ => Value.bool true) (r.options.take i) r.options[i] (hit_none h31n)).trans (by rw [take_succ_of hlt])) ?_
      refine go 8 ?_
      refine bring1 ?_
      refine sx_drop ?_
      exact q_next (i + 1) ⟨by omega, allP_succ hn hlt (show optFine (r.options.take i) r.options[i] = true from (congrArg not h31).trans rfl)⟩ (by omega) rfl sb rfl
   ·refine go 11 ?_
    refine fin1 rfl rfl ?_
    have e : i = r.options.length := (by omega)
    subst e
    exact q_v (congrArg Value.bool (by simp only [validRep, hn, h15]; rfl))

theorem repChoices (I : IMap) (r : Rep) (S : Option Addr) (d : Nat) (hr : RdS I (.slice S r.options.length d) r.options) (hs : ∀ e ∈ r.options, SmE e) :
    FnV Tryz.prog 32 #[.agg (r.cells (.slice S r.options.length d)).toArray] I (.int .i64 (chs r)) := by
 have hl5 := hr.lenLe
 refine enter Tryz.func32 Tryz.call32 rfl Tryz.ntmps32 rfl (fun w0 => ?_)
 refine go 3 ?_
 refine o_box _ rfl rfl rfl (fun g1 => ?_)
 refine go 9 ?_
 refine o_callV (repValid _ r S d hr hs) rfl rfl ?_
 refine go 4 ?_
 refine cb rfl (fun h3 p3 => ?_) (fun h3 p3 => ?_)
 ·refine go 8 ?_
  refine fin1 rfl rfl ?_
  exact q_v (congrArg (Value.int .i64) (by simp only [chs, show validRep r = false by simpa using h3, Bool.true_eq_false, Bool.false_eq_true, if_true, if_false]))
 ·have hl4 := validRep_len (r := r) (by simpa using h3)
  refine go 7 ?_
  refine cb rfl (fun h7 p7 => ?_) (fun h7 p7 => ?_)
  ·refine go 5 ?_
   refine o_v rfl (v_add rfl rfl ⟨by omega, by have := hl4; omega⟩) ?_
   refine go 6 ?_
   refine fin1 rfl rfl ?_
   exact q_v (congrArg (Value.int .i64) (by simp only [chs, show validRep r = true by simpa using h3, h7, Bool.true_eq_false, Bool.false_eq_true, if_true, if_false]))
  ·refine go 12 ?_
   refine fin1 rfl rfl ?_
   exact q_v (congrArg (Value.int .i64) (by simp only [chs, show validRep r = true by simpa using h3, h7, Bool.true_eq_false, Bool.false_eq_true, if_true, if_false]))

theorem hiGiven (I : IMap) (vc : Value) (c : List Kind) (hvc : RdS I vc c) (hsc : SmC c) (v : Value) (l : List Rep) (hv : RdS I v l) (hsl : ∀ r ∈ l, ∀ e ∈ r.options, SmE e) (w : Value) (ch : List Int) (hw : RdS I w ch) (n : Int) :
    FnV Tryz.prog 241 #[.agg #[vc], v, w, .int .i64 n] I (.bool (givenF c l ch n)) := by
 obtain ⟨A, c0, rfl, hA, hc, hm⟩ := hv
 obtain ⟨B, c1, rfl, hB, hc1, hm1⟩ := hw
 refine enter Tryz.func241 Tryz.call241 rfl Tryz.ntmps241 rfl (fun w0 => ?_)
 refine go 3 ?_
 refine o_box _ rfl rfl rfl (fun g4 => ?_)
 refine go 5 ?_
 refine c_cut (I' := I) (L' := [(4, .pointer (some ⟨g4, 0, none⟩)), (1, .slice A l.length c0), (2, .slice B ch.length c1), (3, .int .i64 n), (21, .bool (!validC c || !decide (((ch.length : Nat) : Int) = (l.length : Nat))))]) (H' := [.blk g4 24 [vc]]) ?_ ?_
 ·refine go 3 ?_
  refine o_callV (catValid _ vc c hvc hsc) rfl rfl ?_
  refine go 2 ?_
  refine sxb 15 rfl (fun h15 p15 => ?_) (fun h15 p15 => ?_)
  ·refine go 8 ?_
   exact q_cut ⟨rfl, rfl, rfl, rfl, (congrArg (fun b => some (Value.bool b)) (by simp only [h15, bS])), trivial⟩ rfl rfl
  ·refine go 8 ?_
   exact q_cut ⟨rfl, rfl, rfl, rfl, (congrArg (fun b => some (Value.bool b)) (by simp only [h15, bS])), trivial⟩ rfl rfl
 ·refine cb rfl (fun h21 p21 => ?_) (fun h21 p21 => ?_)
  ·refine go 7 ?_
   refine fin1 rfl rfl ?_
   exact q_v (congrArg Value.bool (by simp only [givenF, h21]; rfl))
  ·have hlc : ch.length = l.length := by revert h21; simp; omega
   refine go 11 ?_
   refine c_loop (α := Nat) 0 (fun i => I)
    (fun i => [(4, .pointer (some ⟨g4, 0, none⟩)), (1, .slice A l.length c0), (2, .slice B ch.length c1), (3, .int .i64 n), (22, .slice A l.length c0), (23, .int .i64 ((l.length : Nat) : Int)), (24, .int .i64 ((i : Nat) : Int))])
    (fun i => [.blk g4 24 [vc]])
    (fun i => i ≤ l.length ∧ allTo (chFine n) l ch i = true)
    (fun i => l.length - i) ⟨Nat.zero_le _, rfl⟩ rfl sb rfl ?_
   intro i ⟨hi, hn⟩
   refine go 6 ?_
   refine cb rfl (fun h25 p25 => ?_) (fun h25 p25 => ?_)
   ·have hlt : i < l.length := by omega
    have hlt2 : i < ch.length := by omega
    refine go 7 ?_
    obtain ⟨b27, o27, w27, e27, c27, r27⟩ := RdA.at_ hA (i := i) hlt
    obtain ⟨q27, rfl, S27, d27, rfl, hS27, hd27, hm27⟩ := r27
    refine o_v rfl (v_idx he rfl rfl e27 (i) (by omega) hlt) ?_
    refine o_v rfl (v_ldIa he rfl c27 rfl) ?_
    refine go 1 ?_
    refine o_alloc he rfl (fun g10 => ?_)
    refine go 2 ?_
    refine o_stw _ he rfl rfl rfl rfl rfl rfl ?_
    refine go 6 ?_
    refine o_callV (repChoices _ l[i] S27 d27 ⟨_, _, rfl, hS27, hd27, hm27⟩ (hsl _ (List.getElem_mem hlt))) rfl rfl ?_
    refine go 4 ?_
    refine c_cut (I' := I) (L' := [(4, .pointer (some ⟨g4, 0, none⟩)), (1, .slice A l.length c0), (2, .slice B ch.length c1), (3, .int .i64 n), (22, .slice A l.length c0), (23, .int .i64 ((l.length : Nat) : Int)), (24, .int .i64 ((i : Nat) : Int)), (48, .bool ((decide (chs l[i] = 0) || decide (ch[i] < n)) || decide (chs l[i] ≤ ch[i])))]) (H' := [.blk g4 24 [vc]]) ?_ ?_
    ·refine go 4 ?_
     refine sxb 33 rfl (fun h33 p33 => ?_) (fun h33 p33 => ?_)
     ·refine go 17 ?_
      refine sx_drop ?_
      exact q_cut ⟨rfl, rfl, rfl, rfl, rfl, rfl, rfl, (congrArg (fun b => some (Value.bool b)) (by simp only [h25, h33, bS])), trivial⟩ rfl rfl
     ·refine go 2 ?_
      obtain ⟨b36, o36, w36, e36, c36, r36⟩ := RdA.at_ hB (i := i) hlt2
      obtain rfl := r36
      refine o_cons (o_yes rfl rfl h33 (o_val rfl (v_idx he rfl rfl e36 (i) (by omega) hlt2) ?_))
      refine o_cons (o_yes rfl rfl h33 (o_val rfl (v_ldI he rfl (c36 0 _ rfl)) ?_))
      refine go 4 ?_
      refine sxb 41 rfl (fun h41 p41 => ?_) (fun h41 p41 => ?_)
      ·refine go 9 ?_
       refine sx_drop ?_
       exact q_cut ⟨rfl, rfl, rfl, rfl, rfl, rfl, rfl, (congrArg (fun b => some (Value.bool b)) (by simp only [h25, h33, h41, bS])), trivial⟩ rfl rfl
      ·refine go 2 ?_
       obtain ⟨b44, o44, w44, e44, c44, r44⟩ := RdA.at_ hB (i := i) hlt2
       obtain rfl := r44
       refine o_cons (o_yes rfl rfl h41 (o_val rfl (v_idx he rfl rfl e44 (i) (by omega) hlt2) ?_))
       refine o_cons (o_yes rfl rfl h41 (o_val rfl (v_ldI he rfl (c44 0 _ rfl)) ?_))
       refine go 5 ?_
       refine sx_drop ?_
       exact q_cut ⟨rfl, rfl, rfl, rfl, rfl, rfl, rfl, (congrArg (fun b => some (Value.bool b)) (by simp only [h25, h33, h41, bS])), trivial⟩ rfl rfl
    ·refine cb rfl (fun h48 p48 => ?_) (fun h48 p48 => ?_)
     ·refine go 11 ?_
      refine fin1 rfl rfl ?_
      exact q_v (congrArg Value.bool (by simp only [givenF, h21, allTo_not (f := chFine n) hlt hlt hlt2 (by simp only [chFine, h48]; rfl), bS]))
     ·refine go 8 ?_
      exact q_next (i + 1) ⟨by omega, allTo_succ hn hlt hlt2 (by simp only [chFine, h48]; rfl)⟩ (by omega) rfl sb rfl
   ·refine go 11 ?_
    refine fin1 rfl rfl ?_
    have e : i = l.length := (by omega)
    subst e
    exact q_v (congrArg Value.bool (by simp only [givenF, hn, h21]; rfl))

theorem hiDays (I : IMap) (A B : Option Addr) (a c b d : Nat) :
    FnI Tryz.prog 242 #[.slice A a c, .slice B b d] I (fun u J => ∃ g2 g3, u = .func (.func 300) #[] #[.pointer (some ⟨g2, 0, none⟩), .pointer (some ⟨g3, 0, none⟩)] ∧ ICells J g2 0 [.slice A a c] ∧ ICells J g3 0 [.slice B b d]) := by
 refine enter Tryz.func242 Tryz.call242 rfl Tryz.ntmps242 rfl (fun w0 => ?_)
 refine go 3 ?_
 refine o_box _ rfl rfl rfl (fun g2 => ?_)
 refine go 1 ?_
 refine o_box _ rfl rfl rfl (fun g3 => ?_)
 refine go 5 ?_
 refine bring1 ?_
 refine sx_pub (fun Ig2 jg2 cg2 => ?_)
 refine sx_pub (fun Ig3 jg3 cg3 => ?_)
 have cg2 := (cg2).le jg3
 refine o_v rfl (v_makeFunc rfl rfl) ?_
 refine go 4 ?_
 refine fin1 rfl rfl ?_
 exact q_i ⟨_, _, rfl, cg2, cg3⟩

theorem daysIt (I : IMap) (v : Value) (l : List Rep) (hv : RdS I v l) (w : Value) (ch : List Int) (hw : RdS I w ch) (hlc : ch.length = l.length) (g2 g3 : Nat) (c2 : ICells I g2 0 [v]) (c3 : ICells I g3 0 [w]) :
    FnIt Tryz.prog 300 [.pointer (some ⟨g2, 0, none⟩), .pointer (some ⟨g3, 0, none⟩)] I (fun _ vs (x : Int) => vs = [ci x]) (fun pre x => pre ++ [x] <+: openDays l ch l.length) (fun pre => pre = openDays l ch l.length) (fun _ => True) := by
 obtain ⟨A, c0, rfl, hA, hc, hm⟩ := hv
 obtain ⟨B, c1, rfl, hB, hc1, hm1⟩ := hw
 intro ly J I1 Hc hI1 hJm hY hJ0
 have hA := hA.le hI1
 have hB := hB.le hI1
 have c2 := c2.le hI1
 have c3 := c3.le hI1
 refine enter Tryz.func300 Tryz.call300 rfl Tryz.ntmps300 rfl (fun w0 => ?_)
 refine go 2 ?_
 refine o_v rfl (v_ldI he rfl (c2 0 _ rfl)) ?_
 refine go 5 ?_
 refine c_loop3 ((0 : Nat)) (I1) (Hc) (fun i I2 Hc => I2)
  (fun i I2 Hc => [(0, .func (.yield ly) #[] #[]), (1, .pointer (some ⟨g2, 0, none⟩)), (2, .pointer (some ⟨g3, 0, none⟩)), (8, .slice A l.length c0), (9, .int .i64 ((l.length : Nat) : Int)), (10, .int .i64 ((i : Nat) : Int))])
  (fun i I2 Hc => Hc)
  (fun i I2 Hc => i ≤ l.length ∧ ILe I1 I2 ∧ J true (openDays l ch i) I2 Hc)
  (fun i I2 Hc => l.length - i) ⟨Nat.zero_le _, ILe.refl _, hJ0⟩ rfl sb rfl ?_
 intro i I2 Hc ⟨hi, hI2, hJ⟩
 have hA := hA.le hI2
 have hB := hB.le hI2
 have c3 := c3.le hI2
 refine go 6 ?_
 refine cb rfl (fun h11 p11 => ?_) (fun h11 p11 => ?_)
 ·have hlt : i < l.length := by omega
  have hlt2 : i < ch.length := by omega
  refine go 7 ?_
  obtain ⟨b13, o13, w13, e13, c13, r13⟩ := RdA.at_ hA (i := i) hlt
  obtain ⟨q13, rfl, S13, d13, rfl, hS13, hd13, hm13⟩ := r13
  refine o_v rfl (v_idx he rfl rfl e13 (i) (by omega) hlt) ?_
  refine o_v rfl (v_ldIa he rfl c13 rfl) ?_
  refine go 1 ?_
  refine o_alloc he rfl (fun g5 => ?_)
  refine go 2 ?_
  refine o_stw _ he rfl rfl rfl rfl rfl rfl ?_
  refine go 11 ?_
  refine c_loop3 ((0 : Nat)) (I2) (Hc) (fun j I3 Hc3 => I3)
   (fun j I3 Hc3 => [(0, .func (.yield ly) #[] #[]), (1, .pointer (some ⟨g2, 0, none⟩)), (2, .pointer (some ⟨g3, 0, none⟩)), (8, .slice A l.length c0), (9, .int .i64 ((l.length : Nat) : Int)), (10, .int .i64 ((i : Nat) : Int)), (4, .int .i64 ((i : Nat) : Int)), (5, .pointer (some ⟨g5, 0, none⟩)), (16, .slice S13 l[i].options.length d13), (17, .int .i64 ((l[i].options.length : Nat) : Int)), (18, .int .i64 ((j : Nat) : Int))])
   (fun j I3 Hc3 => .blk g5 64 (l[i].cells (.slice S13 l[i].options.length d13)) :: Hc3)
   (fun j I3 Hc3 => j ≤ l[i].options.length ∧ ILe I2 I3 ∧ J true (openTo l ch i j) I3 Hc3)
   (fun j I3 Hc3 => l[i].options.length - j) ⟨Nat.zero_le _, ILe.refl _, by rw [openTo_zero]; exact hJ⟩ rfl sb rfl ?_
  intro j I3 Hc3 ⟨hj, hI3, hJ3⟩
  have hB := hB.le hI3
  have c3 := c3.le hI3
  have hS13 := hS13.le hI3
  refine go 6 ?_
  refine cb rfl (fun h19 p19 => ?_) (fun h19 p19 => ?_)
  ·have hlj : j < l[i].options.length := by omega
   refine go 6 ?_
   obtain ⟨b20, o20, w20, e20, c20, r20⟩ := RdA.at_ hS13 (i := j) hlj
   obtain rfl := r20
   refine o_v rfl (v_idx he rfl rfl e20 (j) (by omega) hlj) ?_
   refine o_v rfl (v_ldIa he rfl c20 rfl) ?_
   refine go 1 ?_
   refine o_alloc he rfl (fun g7 => ?_)
   refine go 1 ?_
   refine o_stw _ he rfl rfl rfl rfl rfl rfl ?_
   refine go 4 ?_
   refine o_v rfl (v_ldI he rfl (c3 0 _ rfl)) ?_
   refine go 1 ?_
   obtain ⟨b24, o24, w24, e24, c24, r24⟩ := RdA.at_ hB (i := i) hlt2
   obtain rfl := r24
   refine o_v rfl (v_idx he rfl rfl e24 (i) (by omega) hlt2) ?_
   refine o_v rfl (v_ldI he rfl (c24 0 _ rfl)) ?_
   refine go 2 ?_
   refine sxb 27 rfl (fun h27 p27 => ?_) (fun h27 p27 => ?_)
   ·refine go 4 ?_
    refine o_yes rfl rfl h27 (o_yield2 (l[i].options[j].day) hY (hJm _ _ _ _ _ (ILe.refl _) hJ3) (rfl) (openTo_pre hlt hlt2 p27 hlj) rfl rfl rfl (fun b31 I31 Hc31 j31 hJ31 => ?_))
    refine go 4 ?_
    refine cb rfl (fun h33 p33 => ?_) (fun h33 p33 => ?_)
    ·have hb31 : b31 = false := by simpa using h33
     refine go 9 ?_
     refine fin0 rfl ?_
     refine sx_drop ?_
     refine sx_drop ?_
     subst hb31
     exact q_it false _ hJ31 trivial
    ·have hb31 : b31 = true := by simpa using h33
     refine go 8 ?_
     refine sx_drop ?_
     exact q_next3 (j + 1) (I31) (Hc31) ⟨by omega, hI3.trans j31, by rw [openTo_step hlt hlt2 p27 hlj]; exact hb31 ▸ hJ31⟩ (by omega) rfl sb rfl
   ·refine go 8 ?_
    refine c_false rfl ?_
    refine go 8 ?_
    refine sx_drop ?_
    exact q_next3 (j + 1) (I3) (Hc3) ⟨by omega, hI3, by rw [openTo_skip hlt hlt2 p27 j]; exact hJ3⟩ (by omega) rfl sb rfl
  ·refine go 11 ?_
   refine sx_drop ?_
   exact q_next3 (i + 1) (I3) (Hc3) ⟨by omega, hI2.trans hI3, by rw [← openTo_all hlt hlt2]; exact (show j = l[i].options.length by omega) ▸ hJ3⟩ (by omega) rfl sb rfl
 ·have hil : i = l.length := by omega
  refine go 4 ?_
  refine end0 rfl ?_
  exact q_it true _ hJ (by rw [hil]; rfl)

end Go.Proofs.YtdapmfkbpnjkmaaGreat

