/- The library of a symbolic run and the walks: merged. -/
import Derived.Test.YtdapmfkbpnjkmaaGreatZPle
/- Walks, printed by a program out of the code of the functions: each theorem is a contract of one function. -/
namespace Go.Proofs.YtdapmfkbpnjkmaaGreat
open Go Go.Sx
set_option linter.all false
set_option maxRecDepth 20000
set_option maxHeartbeats 4000000
instance T.by_55 : Has (bytesK Tryz.prog 55) ([.string ⟨#[]⟩, .string ⟨#[]⟩], 2, 32) := ⟨by kernel_rfl⟩
instance T.by_64 : Has (bytesK Tryz.prog 64) ([.slice none 0 0, .bool false], 2, 32) := ⟨by kernel_rfl⟩
instance T.elt_29 : Has (eltK Tryz.prog 29) (55, 2) := ⟨by kernel_rfl⟩
theorem T.eqg_55 : Tryz.prog.eqGuardType Tryz.prog.depth 55 = false := by kernel_rfl
instance T.fld_55_0 : Has (fldK Tryz.prog 55 0) (0, false, 1) := ⟨by kernel_rfl⟩
instance T.fld_55_1 : Has (fldK Tryz.prog 55 1) (1, false, 1) := ⟨by kernel_rfl⟩
instance T.pl_55 : Has (plK Tryz.prog 55) [(0, 1), (1, 1)] := ⟨by kernel_rfl⟩
instance T.ty_103 : Has (tyK Tryz.prog 103) (false, 1) := ⟨by kernel_rfl⟩
instance T.ty_111 : Has (tyK Tryz.prog 111) (false, 1) := ⟨by kernel_rfl⟩
instance T.ty_178 : Has (tyK Tryz.prog 178) (false, 1) := ⟨by kernel_rfl⟩
instance T.ty_184 : Has (tyK Tryz.prog 184) (false, 1) := ⟨by kernel_rfl⟩
instance T.ty_29 : Has (tyK Tryz.prog 29) (false, 1) := ⟨by kernel_rfl⟩
instance T.ty_55 : Has (tyK Tryz.prog 55) (true, 2) := ⟨by kernel_rfl⟩
instance T.und_178 : Has (Tryz.prog.underlying 178) (.map 55 4) := ⟨by kernel_rfl⟩
instance T.und_29 : Has (Tryz.prog.underlying 29) (.slice 55) := ⟨by kernel_rfl⟩
instance T.zero_178 : Has (zeroK Tryz.prog 178) [.map none] := ⟨by kernel_rfl⟩
instance T.zero_184 : Has (zeroK Tryz.prog 184) [.map none] := ⟨by kernel_rfl⟩
instance T.zero_25 : Has (zeroK Tryz.prog 25) [.slice none 0 0] := ⟨by kernel_rfl⟩
instance T.zero_55 : Has (zeroK Tryz.prog 55) [.string ⟨#[]⟩, .string ⟨#[]⟩] := ⟨by kernel_rfl⟩
theorem linkOf (I : IMap) (v : Value) (l : List Rep) (hv : RdS I v l) (hl : l.length ≤ 1000000) (hsl : ∀ r ∈ l, ∀ e ∈ r.options, SmE e) (p : ByteArray) (R : Nat → Nat) (hRt : Rts l R) :
    FnI Tryz.prog 33 #[v, .string p] I (fun u J => RdS J u (nI (ofN l R p))) := by
 refine enter Tryz.func33 Tryz.call33 rfl Tryz.ntmps33 rfl (fun w0 => ?_)
 refine go 9 ?_
 refine o_callA (linkLinked _ _ l hv hl hsl) rfl rfl (fun v13 I13 H13 j13 q13 => ?_)
 obtain ⟨w, m, F, kvs, fm, rfl, rfl, hK, hM⟩ := q13
 have hR : rt F = R := (hK.done (fun k z hk h => ⟨hk, h⟩)).uniq hRt
 have hFl := hK.len
 refine go 11 ?_
 refine o_v rfl (v_get2 m1 (key_string he) he he (p) rfl rfl rfl rfl) ?_
 refine go 14 ?_
 refine cb rfl (fun h23 p23 => ?_) (fun h23 p23 => ?_)
 ·have hq0 : fm p = none := by
    cases hq : fm p with
    | none => rfl
    | some q => rw [hM, hq] at h23; cases h23
  refine go 7 ?_
  refine fin1 rfl rfl ?_
  have hno : ofN l R p = [] := of_none fun k hk h => by obtain ⟨q, hq, _⟩ := hK.seen k p ⟨hk, h⟩; rw [hq0] at hq; cases hq
  exact q_i (by rw [hno]; exact RdS.nil')
 ·obtain ⟨q, hq⟩ : ∃ q, fm p = some q := by
    cases hq : fm p with
    | none => rw [hM, hq] at h23; cases h23
    | some q => exact ⟨q, rfl⟩
  have hmg : (mget kvs p).getD (.int .i64 0) = .int .i64 (q : Int) := by rw [hM, hq]; rfl
  rw [hmg]
  obtain ⟨hql, hqh, hqn⟩ := hK.own _ q hq
  refine go 4 ?_
  refine sx_nilrow 3 1 ?_
  refine go 6 ?_
  refine bring1 ?_
  refine sx_rowslice (fun Aw cw hw => ?_)
  subst hw
  refine go 6 ?_
  refine bring2 ?_
  refine sx_drop ?_
  refine c_loop5 ((0 : Nat)) (F) (_) ([]) (I13) (fun i F1 v9 xs J => J)
   (fun i F1 v9 xs J => [(5, .slice Aw F.length cw), (7, .int .i64 ((q : Nat) : Int)), (9, v9), (25, .int .i64 ((F.length : Nat) : Int)), (26, .int .i64 ((i : Nat) : Int))])
   (fun i F1 v9 xs J => .row (.slice Aw F.length cw) 3 1 F.length (natC F1).flatten :: .row v9 3 1 (membN R i (R q)).length xs :: ([] : List Res))
   (fun i F1 v9 xs J => i ≤ F.length ∧ F1.length = F.length ∧ Fst F1 ∧ (∀ k, rt F1 k = R k) ∧ ILe I13 J ∧ Flat J xs (nI (membN R i (R q))))
   (fun i F1 v9 xs J => F.length - i) ⟨Nat.zero_le _, rfl, hK.fst, fun k => by rw [hR], ILe.refl _, .nil⟩ rfl sb rfl ?_
  intro i F1 v9 xs J ⟨hi, hF1l, hF1, hr1, hJ, hF⟩
  have hml : (membN R i (R q)).length ≤ i := by unfold membN; exact Nat.le_trans (List.length_filter_le _ _) (by rw [List.length_range]; exact Nat.le_refl _)
  refine go 6 ?_
  refine cb rfl (fun h27 p27 => ?_) (fun h27 p27 => ?_)
  ·have hlt : i < F.length := by omega
   refine go 12 ?_
   refine sx_row (natC_uk F1) (by rw [natC_len]; exact hF1l) (fun h0 _ => by omega) (fun g9 cap9 rest9 hv9 hR9 hc9 hl9 => ?_)
   cases hv9
   refine go 3 ?_
   refine o_callG (hF1l ▸ linkRoot _ g9 cw F1 rest9 hR9 hF1 i (by omega)) rfl rfl (fun v31 I31 s31 j31 q31 => ?_)
   have hF := hF.le j31
   obtain ⟨G, rfl, rfl, hG, hFG, hr⟩ := q31
   rw [hr1 i]
   refine go 3 ?_
   refine o_callG (hG ▸ linkRoot _ g9 cw G rest9 hR9 hFG q (by omega)) rfl rfl (fun v34 I34 s34 j34 q34 => ?_)
   have hF := hF.le j34
   obtain ⟨G2, rfl, rfl, hG2, hFG2, hr2⟩ := q34
   rw [hr q, hr1 q]
   refine sx_unrow (natC_uk G2) hR9 (by rw [natC_len]; omega) hc9 hl9 ?_
   refine go 3 ?_
   refine cb rfl (fun h35 p35 => ?_) (fun h35 p35 => ?_)
   ·refine go 4 ?_
    refine o_buildSlice he he rfl rfl rfl rfl rfl rfl rfl (fun v38 => ?_)
    refine go 1 ?_
    refine bring2 ?_
    refine o_appendO he he rfl rfl rfl rfl rfl (by omega) (by omega) rfl (fun v39 => ?_)
    refine go 9 ?_
    refine bring1 ?_
    refine sx_drop ?_
    refine bring1 ?_
    exact q_next5 (i + 1) (G2) (_) (_) (_) ⟨by omega, by omega, hFG2, fun k => by rw [hr2, hr, hr1], hJ.trans (j31.trans j34), by rw [memb_succ, if_pos (by omega), nI_app]; exact hF.append (.one rfl)⟩ (by omega) rfl sb (by rw [memb_succ, if_pos (by omega), List.length_append]; rfl)
   ·refine go 8 ?_
    exact q_next5 (i + 1) (G2) (_) (_) (_) ⟨by omega, by omega, hFG2, fun k => by rw [hr2, hr, hr1], hJ.trans (j31.trans j34), by rw [memb_succ, if_neg (by omega)]; exact hF⟩ (by omega) rfl sb (by rw [memb_succ, if_neg (by omega)])
  ·obtain rfl : i = F.length := by omega
   refine go 12 ?_
   refine fin1 rfl rfl ?_
   refine sx_drop ?_
   refine sx_pubrow (l := nI (membN R F.length (R q))) rfl (by rw [nI_len]) hF (fun I9 j9 R9 => ?_)
   exact q_i (by rw [of_some hRt hqh hqn, ← hFl]; exact R9)

theorem flRoot (I : IMap) (v : Value) (l : List Part) (hv : RdS I v l) (p : ByteArray) :
    FnV Tryz.prog 28 #[.agg #[v], .string p] I (.string (rootF p l)) := by
 have hv0 := hv
 obtain ⟨A, c0, rfl, hA, hc, hm⟩ := hv
 refine enter Tryz.func28 Tryz.call28 rfl Tryz.ntmps28 rfl (fun w0 => ?_)
 refine go 3 ?_
 refine o_box _ rfl rfl rfl (fun g2 => ?_)
 refine go 7 ?_
 refine o_callX0 (flOf _ _ l hv0) rfl rfl (fun v9 s9 q9 => ?_)
 obtain ⟨m9, kvs, rfl, rfl, hIx, hnd⟩ := q9
 refine go 1 ?_
 refine o_alloc he rfl (fun g5 => ?_)
 refine go 1 ?_
 refine o_stw _ he rfl rfl rfl rfl rfl rfl ?_
 refine go 12 ?_
 refine bring2 ?_
 refine sx_drop ?_
 refine bring1 ?_
 refine c_loop2 ((0 : Nat)) (p) (fun i q => I)
  (fun i q => [(1, .string q), (5, .pointer (some ⟨g5, 0, none⟩)), (12, .int .i64 ((l.length : Nat) : Int)), (13, .int .i64 ((i : Nat) : Int))])
  (fun i q => [.mp m9 (emap Value.string kvs), .blk g5 118 [.slice A l.length c0, .map (some m9)]])
  (fun i q => i ≤ l.length ∧ rootF p l = rootGo l (l.length - i) q)
  (fun i q => l.length - i) ⟨Nat.zero_le _, rfl⟩ rfl sb rfl ?_
 intro i q ⟨hi, hr⟩
 refine go 6 ?_
 refine cb rfl (fun h14 p14 => ?_) (fun h14 p14 => ?_)
 ·have hlt : i < l.length := by omega
  refine go 9 ?_
  refine o_callK (flGet _ _ l hv0 m9 kvs hIx q) rfl rfl (fun v18 q18 => ?_)
  obtain ⟨vs18, rfl, s18, rfl, hs18⟩ := q18
  refine go 4 ?_
  refine o_alloc he rfl (fun g6 => ?_)
  refine go 1 ?_
  refine o_stw _ he rfl rfl rfl rfl rfl (Enc.one (α := Part) (I := I) (x := (findP l q).getD zPart) ⟨s18, rfl, hs18⟩) ?_
  refine go 10 ?_
  refine cb rfl (fun h22 p22 => ?_) (fun h22 p22 => ?_)
  ·refine go 12 ?_
   refine fin1 rfl rfl ?_
   exact q_v (congrArg Value.string (by rw [hr]; exact (root_none hlt (by simpa using h22)).symm))
  ·refine go 10 ?_
   refine cb rfl (fun h25 p25 => ?_) (fun h25 p25 => ?_)
   ·refine go 13 ?_
    refine fin1 rfl rfl ?_
    exact q_v (congrArg Value.string (by rw [hr]; exact (root_here hlt (by simpa using h22) p25).symm))
   ·refine go 14 ?_
    refine sx_drop ?_
    exact q_next2 (i + 1) (((findP l q).getD zPart).into) ⟨by omega, by rw [hr]; exact root_next hlt (by simpa using h22) p25⟩ (by omega) rfl sb rfl
 ·refine go 11 ?_
  refine fin1 rfl rfl ?_
  obtain rfl : i = l.length := by omega
  exact q_v (congrArg Value.string (by rw [hr, Nat.sub_self]; rfl))

theorem eqS_Plc (a b : Plc) : eqV Tryz.prog 9 55 (.agg a.cells.toArray) (.agg b.cells.toArray) = some (decide (a = b)) := by
  rw [← Plc.eqB_eq]
  kernel_rfl
theorem keyPlc : KeyOK Tryz.prog 55 encPlc := key_struct (cells := Plc.cells) (by kernel_rfl) (fun p q => eqS_Plc p q) (fun p => by kernel_rfl) (fun p => by simp [Plc.cells, bits_str, bits_int])

theorem plShowOf (I : IMap) (v : Value) (l : List Part) (hv : RdS I v l) (p : ByteArray) (g : Nat) (kp : ICells I g 0 [.string p]) :
    FnV Tryz.prog 54 #[.agg #[v], .pointer (some ⟨g, 0, none⟩)] I (.agg (plcOf p l).cells.toArray) := by
 refine enter Tryz.func54 Tryz.call54 rfl Tryz.ntmps54 rfl (fun w0 => ?_)
 refine go 3 ?_
 refine o_box _ rfl rfl rfl (fun g2 => ?_)
 refine go 1 ?_
 refine o_alloc he rfl (fun g3 => ?_)
 refine go 5 ?_
 refine o_v rfl (v_ldI he rfl (kp 0 _ rfl)) ?_
 refine go 1 ?_
 refine o_callE (flFind _ _ l hv p) rfl rfl (fun v9 q9 => ?_)
 obtain ⟨vs9, rfl, s9, rfl, hs9⟩ := q9
 refine go 4 ?_
 refine o_alloc he rfl (fun g4 => ?_)
 refine go 1 ?_
 refine o_stw _ he rfl rfl rfl rfl rfl (Enc.one (α := Part) (x := (findP l p).getD zPart) ⟨s9, rfl, hs9⟩) ?_
 refine go 10 ?_
 refine o_val rfl (v_build (pl := [(0, 1), (1, 1)]) he he rfl rfl) ?_
 refine go 1 ?_
 refine bring1 ?_
 refine o_stw _ he rfl rfl rfl rfl rfl rfl ?_
 refine go 3 ?_
 refine fin1 rfl ⟨_, _, _, rfl, m0, .inr ⟨_, he, rfl, rfl⟩⟩ ?_
 exact q_v rfl

theorem plShowRoot (I : IMap) (v : Value) (l : List Part) (hv : RdS I v l) (p : ByteArray) (g : Nat) (kp : ICells I g 0 [.string p]) :
    FnV Tryz.prog 63 #[.agg #[v], .pointer (some ⟨g, 0, none⟩)] I (.string (rootF p l)) := by
 refine enter Tryz.func63 Tryz.call63 rfl Tryz.ntmps63 rfl (fun w0 => ?_)
 refine go 3 ?_
 refine o_box _ rfl rfl rfl (fun g2 => ?_)
 refine go 6 ?_
 refine o_v rfl (v_ldI he rfl (kp 0 _ rfl)) ?_
 refine go 1 ?_
 refine o_callV (flRoot _ v l hv p) rfl rfl ?_
 refine go 4 ?_
 refine fin1 rfl rfl ?_
 exact q_v rfl

theorem plShowOcc (I : IMap) (v : Value) (l : List Part) (hv : RdS I v l) (y z : ByteArray) (g1 g2 : Nat) (k1 : ICells I g1 0 [.string y]) (k2 : ICells I g2 0 [.string z]) :
    FnV Tryz.prog 62 #[.agg #[v], .pointer (some ⟨g1, 0, none⟩), .pointer (some ⟨g2, 0, none⟩)] I (.string (occOf y z l)) := by
 have hv0 := hv
 obtain ⟨A, c0, rfl, hA, hc, hm⟩ := hv
 refine enter Tryz.func62 Tryz.call62 rfl Tryz.ntmps62 rfl (fun w0 => ?_)
 refine go 3 ?_
 refine o_box _ rfl rfl rfl (fun g3 => ?_)
 refine go 13 ?_
 refine sx_drop ?_
 refine c_loop (α := Nat) 0 (fun i => I)
  (fun i => [(1, .pointer (some ⟨g1, 0, none⟩)), (2, .pointer (some ⟨g2, 0, none⟩)), (8, .slice A l.length c0), (9, .int .i64 ((l.length : Nat) : Int)), (10, .int .i64 ((i : Nat) : Int))])
  (fun i => [])
  (fun i => i ≤ l.length ∧ occOf y z l = occOf y z (l.drop i))
  (fun i => l.length - i) ⟨Nat.zero_le _, rfl⟩ rfl sb rfl ?_
 intro i ⟨hi, hn⟩
 refine go 6 ?_
 refine cb rfl (fun h11 p11 => ?_) (fun h11 p11 => ?_)
 ·have hlt : i < l.length := by omega
  refine go 6 ?_
  obtain ⟨b12, o12, w12, e12, c12, r12⟩ := RdA.at_ hA (i := i) hlt
  obtain ⟨q12, rfl, B12, d12, rfl, hB12, hd12, hm12⟩ := r12
  refine o_v rfl (v_idx he rfl rfl e12 (i) (by omega) hlt) ?_
  refine o_v rfl (v_ldIa he rfl c12 rfl) ?_
  refine go 1 ?_
  refine o_alloc he rfl (fun g6 => ?_)
  refine go 1 ?_
  refine o_stw _ he rfl rfl rfl rfl rfl (Enc.one (α := Part) (x := l[i]) ⟨_, rfl, B12, d12, rfl, hB12, hd12, hm12⟩) ?_
  refine go 9 ?_
  refine o_val rfl (v_build (pl := [(0, 1), (1, 1)]) he he rfl rfl) ?_
  refine o_v rfl (v_ldI he rfl (k1 0 _ rfl)) ?_
  refine o_v rfl (v_ldI he rfl (k2 0 _ rfl)) ?_
  refine go 1 ?_
  refine o_val rfl (v_build (pl := [(0, 1), (1, 1)]) he he rfl rfl) ?_
  refine o_v rfl (v_steql T.eqg_55 (eqS_Plc ⟨l[i].into, l[i].slot⟩ ⟨y, z⟩) rfl rfl) ?_
  refine go 2 ?_
  refine cb rfl (fun h22 p22 => ?_) (fun h22 p22 => ?_)
  ·refine go 13 ?_
   refine fin1 rfl rfl ?_
   exact q_v (congrArg Value.string (occ_hit hlt hn p22).symm)
  ·refine go 8 ?_
   refine sx_drop ?_
   exact q_next (i + 1) ⟨by omega, occ_skip hlt hn p22⟩ (by omega) rfl sb rfl
 ·refine go 11 ?_
  refine fin1 rfl rfl ?_
  exact q_v (congrArg Value.string (occ_end (by omega) hn).symm)

theorem cmpOr (I : IMap) (v : Value) (l : List Int) (hv : RdS I v l) :
    FnV Tryz.prog 56 #[v] I (.int .i64 (orI l)) := by
 have hv0 := hv
 obtain ⟨A, c0, rfl, hA, hc, hm⟩ := hv
 refine enter Tryz.func56 Tryz.call56 rfl Tryz.ntmps56 rfl (fun w0 => ?_)
 refine go 19 ?_
 refine c_loop (α := Nat) 0 (fun i => I)
  (fun i => [(3, .int .i64 (0)), (6, .slice A l.length c0), (7, .int .i64 ((l.length : Nat) : Int)), (8, .int .i64 ((i : Nat) : Int))])
  (fun i => [])
  (fun i => i ≤ l.length ∧ orI l = orI (l.drop i))
  (fun i => l.length - i) ⟨Nat.zero_le _, rfl⟩ rfl sb rfl ?_
 intro i ⟨hi, hn⟩
 refine go 6 ?_
 refine cb rfl (fun h9 p9 => ?_) (fun h9 p9 => ?_)
 ·have hlt : i < l.length := by omega
  refine go 6 ?_
  obtain ⟨b10, o10, w10, e10, c10, r10⟩ := RdA.at_ hA (i := i) (by omega)
  obtain rfl := r10
  refine o_v rfl (v_idx he rfl rfl e10 (i) (by omega) (by omega)) ?_
  refine o_v rfl (v_ldI he rfl (c10 0 _ rfl)) ?_
  refine go 10 ?_
  refine cb rfl (fun h14 p14 => ?_) (fun h14 p14 => ?_)
  ·refine go 12 ?_
   refine fin1 rfl rfl ?_
   exact q_v (congrArg (Value.int .i64) (by rw [hn, or_hit hlt p14]))
  ·refine go 8 ?_
   exact q_next (i + 1) ⟨by omega, by rw [hn, or_skip hlt p14]⟩ (by omega) rfl sb rfl
 ·refine go 12 ?_
  refine fin1 rfl rfl ?_
  exact q_v (congrArg (Value.int .i64) (by rw [hn, List.drop_eq_nil_of_le (by omega)]; rfl))

theorem plCmp (I : IMap) (a b : Plc) :
    FnV Tryz.prog 55 #[.agg a.cells.toArray, .agg b.cells.toArray] I (.int .i64 (cfPlc a b)) := by
 refine enter Tryz.func55 Tryz.call55 rfl Tryz.ntmps55 rfl (fun w0 => ?_)
 refine go 3 ?_
 refine o_box _ rfl rfl rfl (fun g2 => ?_)
 refine go 1 ?_
 refine o_box _ rfl rfl rfl (fun g3 => ?_)
 refine go 4 ?_
 refine sx_knowI (fun hE1 hf1 => ?_)
 refine d_startH T.mixed ?_
 refine d_tv 0 rfl rfl (by kernel_rfl) rfl (.refl _) rfl (v_fieldAddr he rfl) ?_
 refine d_tv 1 rfl rfl (by kernel_rfl) rfl (.refl _) rfl (v_ld m1 he rfl rfl) ?_
 refine d_tv 2 rfl rfl (by kernel_rfl) rfl (.refl _) rfl (v_fieldAddr he rfl) ?_
 refine d_tv 3 rfl rfl (by kernel_rfl) rfl (.refl _) rfl (v_ld m0 he rfl rfl) ?_
 refine d_tv 5 rfl rfl (by kernel_rfl) rfl (.refl _) rfl (v_fieldAddr he rfl) ?_
 refine d_tv 6 rfl rfl (by kernel_rfl) rfl (.refl _) rfl (v_ld m1 he rfl rfl) ?_
 refine d_tv 7 rfl rfl (by kernel_rfl) rfl (.refl _) rfl (v_fieldAddr he rfl) ?_
 refine d_tv 8 rfl rfl (by kernel_rfl) rfl (.refl _) rfl (v_ld m0 he rfl rfl) ?_
 refine d_one 4 (by kernel_rfl) rfl ?_
 refine o_callV (compare_string _ a.into b.into) rfl rfl ?_
 refine d_on (fun _ m => m.keeps (.refl _)) ?_
 refine d_one 9 (by kernel_rfl) rfl ?_
 refine o_callV (compare_string _ a.slot b.slot) rfl rfl ?_
 refine d_on (fun _ m => m.keeps (.refl _)) ?_
 refine d_one 10 (by kernel_rfl) rfl ?_
 refine o_buildSlice he he rfl rfl rfl rfl rfl rfl rfl (fun v15 => ?_)
 refine sx_pubrow (l := [cmpS a.into b.into, cmpS a.slot b.slot]) rfl rfl ((intCs_flat [cmpS a.into b.into, cmpS a.slot b.slot])) (fun I15 j15 R15 => ?_)
 refine d_on (fun _ m => m.keepsI (.refl _) (j15) hE1 hf1) ?_
 refine d_one 11 (by kernel_rfl) rfl ?_
 refine o_callV (cmpOr _ _ _ R15) rfl rfl ?_
 refine d_on (fun _ m => m.keepsI (.refl _) (j15) hE1 hf1) ?_
 refine d_t 12 rfl rfl (by kernel_rfl) rfl (fun _ m => m.keepsI (.refl _) (j15) hE1 hf1) (y_v rfl (v_assign rfl)) ?_
 refine d_done (by kernel_rfl) ?_
 refine go 2 ?_
 refine fin1 rfl rfl ?_
 exact q_vI rfl

theorem sortRowP (I : IMap) (v : Value) (l : List Plc) (hl : l.length ≤ 1000000) :
    FnX Tryz.prog 177 #[v, .func (.func 55) #[] #[]] I [.row v 55 2 l.length (l.flatMap Plc.cells)] (fun u r => u = .tuple #[] ∧ ∃ m, SrtK cfPlc l m ∧ r = .row v 55 2 l.length (m.flatMap Plc.cells)) :=
  sort_cmp (k := 2) (cells := Plc.cells) (cf := cfPlc) (fun args w => Tryz.call177 args w) (fun args w => Tryz.call55 args w)
    (fun blk off cap d w hc hH hb hs => AnyQ.slices_SortFunc Tryz.layQ 2 Tryz.isAgg55 Tryz.sizeOf55 Plc.cells (fun _ => rfl) (fun x v hv => by simp [Plc.cells] at hv; rcases hv with rfl | rfl <;> rfl) cfPlc plc_swo 55 #[] blk off cap d w (fun args w => Tryz.call55 args w) hc hH hb hs)
    (fun w => AnyF.slices_SortFunc_none { Tryz.layQ with } none 0 _ w) (fun x y => plCmp I00 x y) (fun _ => rfl) hl
theorem sortRowT (I : IMap) (v : Value) (l : List ByteArray) (hl : l.length ≤ 1000000) :
    FnX Tryz.prog 188 #[v, .func (.func 57) #[] #[]] I [.row v 9 1 l.length (l.map Value.string)] (fun u r => u = .tuple #[] ∧ ∃ m, SrtK cmpS l m ∧ r = .row v 9 1 l.length (m.map Value.string)) :=
  sort_cmp1 (cf := cmpS) (fun args w => Tryz.call188 args w) (fun args w => Tryz.call57 args w)
    (fun blk off cap d w hc hH hb hs => Any.slices_SortFunc Tryz.layT Value.string (fun _ => rfl) cmpS str_swo 57 #[] blk off cap d w (fun args w => Tryz.call57 args w) hc hH hb hs)
    (fun w => AnyF.slices_SortFunc_none { Tryz.layT with } none 0 _ w) (fun x y => compare_string I00 x y) hl

theorem keysItP (I : IMap) (S : ItS) (r : Nat) (kvs : List (Plc × Value)) (hO0 : S.Ok encPlc kvs) (hT0 : S.Todo encPlc kvs) (hS0 : S.seen = #[]) (g1 : Nat) (c1 : ICells I g1 0 [.map (some r)]) (hmp : I r = some S.mp) :
    FnIt Tryz.prog 178 [.pointer (some ⟨g1, 0, none⟩)] I (fun _ vs (x : Plc) => vs = [.agg x.cells.toArray]) (fun pre _ => pre.length < kvs.length) (fun pre => pre.Perm (kvs.map Prod.fst)) (fun _ => True) := by
 intro ly J I1 Hc hI1 hJm hY hJ0
 have c1 := c1.le hI1
 have hmp := (hI1) _ _ hmp
 refine enter Tryz.func178 Tryz.call178 rfl Tryz.ntmps178 rfl (fun w0 => ?_)
 refine go 2 ?_
 refine o_v rfl (v_ldI he rfl (c1 0 _ rfl)) ?_
 refine go 1 ?_
 refine o_rangeG (con_map hmp) hS0 he rfl rfl (fun i5 => ?_)
 refine go 3 ?_
 refine c_loop5 (S) (kvs) ([]) (I1) (Hc) (fun S2 todo pre I2 Hc => I2)
  (fun S2 todo pre I2 Hc => [(0, .func (.yield ly) #[] #[]), (5, .pointer (some ⟨i5, 0, none⟩))])
  (fun S2 todo pre I2 Hc => .any i5 (S2.it r) :: Hc)
  (fun S2 todo pre I2 Hc => ILe I1 I2 ∧ S2.mp = S.mp ∧ S2.Ok encPlc kvs ∧ S2.Todo encPlc todo ∧ (pre ++ todo.map Prod.fst).Perm (kvs.map Prod.fst) ∧ J true pre I2 Hc)
  (fun S2 todo pre I2 Hc => todo.length) ⟨ILe.refl _, rfl, hO0, hT0, .refl _, hJ0⟩ rfl sb rfl ?_
 intro S2 todo pre I2 Hc ⟨hI2, hme, hO, hT, hP, hJ⟩
 have hmp2 : I2 r = some S2.mp := by rw [hme]; exact hI2 _ _ hmp
 refine go 3 ?_
 refine o_nextG (con_map hmp2) hO hT rfl rfl (fun q6 S6 t6 hst he6 => ?_)
 refine o_v rfl (v_extract rfl (nextA_0 _ _)) ?_
 refine go 3 ?_
 refine cb rfl (fun h7 p7 => ?_) (fun h7 p7 => ?_)
 ·obtain ⟨e2, a, b, htd, hO1, hT1, hA1, rfl, rfl⟩ := hst.some h7
  have hmp3 : I2 r = some S6.mp := by rw [he6]; exact hmp2
  refine go 5 ?_
  refine o_v rfl (v_entryG (con_map hmp3) m0 hO1 hA1 rfl) ?_
  refine o_v rfl (OV.cast (u := .agg e2.1.cells.toArray) (v_extract rfl rfl) rfl) ?_
  refine go 1 ?_
  refine o_alloc he rfl (fun g3 => ?_)
  refine go 1 ?_
  refine o_stw _ he rfl rfl rfl rfl rfl rfl ?_
  refine go 7 ?_
  refine o_yield2 (e2.1) hY (hJm _ _ _ _ _ (ILe.refl _) hJ) (rfl) ((keys_ltG hP htd)) rfl rfl rfl (fun b12 I12 Hc12 j12 hJ12 => ?_)
  refine go 3 ?_
  refine cb rfl (fun h13 p13 => ?_) (fun h13 p13 => ?_)
  ·have hb12 : b12 = false := by simpa using h13
   refine go 4 ?_
   refine fin0 rfl ?_
   refine sx_drop ?_
   refine sx_drop ?_
   subst hb12
   exact q_it false _ hJ12 trivial
  ·have hb12 : b12 = true := by simpa using h13
   refine go 3 ?_
   refine sx_drop ?_
   exact q_next5 (S6) (a ++ b) (pre ++ [e2.1]) (I12) (Hc12) ⟨hI2.trans j12, he6.trans hme, hO1, hT1, keys_stepG hP htd, hb12 ▸ hJ12⟩ (by rw [htd]; simp) rfl sb rfl
 ·obtain ⟨rfl, rfl, rfl⟩ := hst.none h7
  refine go 4 ?_
  refine end0 rfl ?_
  refine sx_drop ?_
  exact q_it true _ hJ (by simpa using hP)

theorem keysCP (I : IMap) (r : Nat) :
    FnI Tryz.prog 108 #[.map (some r)] I (fun u J => ∃ g, u = .func (.func 178) #[] #[.pointer (some ⟨g, 0, none⟩)] ∧ ICells J g 0 [.map (some r)]) := by
 refine enter Tryz.func108 Tryz.call108 rfl Tryz.ntmps108 rfl (fun w0 => ?_)
 refine go 3 ?_
 refine o_box _ rfl rfl rfl (fun g1 => ?_)
 refine go 5 ?_
 refine sx_pub (fun Ig1 jg1 cg1 => ?_)
 refine o_v rfl (v_makeFunc rfl rfl) ?_
 refine go 4 ?_
 refine fin1 rfl rfl ?_
 exact q_i ⟨_, rfl, cg1⟩

theorem appendSeqP (I : IMap) (g : Nat) (Ls : List Plc) (hLs : Ls.length ≤ 1000000) (hit : FnIt Tryz.prog 178 [.pointer (some ⟨g, 0, none⟩)] I (fun _ vs (x : Plc) => vs = [.agg x.cells.toArray]) (fun pre _ => pre.length < Ls.length) (fun pre => pre.Perm Ls) (fun _ => True)) :
    FnH Tryz.prog 234 #[.slice none 0 0, .func (.func 178) #[] #[.pointer (some ⟨g, 0, none⟩)]] I [] (fun u J H2 => ∃ m : List Plc, H2 = [.row u 55 2 m.length (m.flatMap Plc.cells)] ∧ m.Perm Ls) := by
 refine enter Tryz.func234 Tryz.call234 rfl Tryz.ntmps234 rfl (fun w0 => ?_)
 refine go 3 ?_
 refine o_box _ rfl rfl rfl (fun g2 => ?_)
 refine go 6 ?_
 refine sx_nilrow 55 2 ?_
 refine go 4 ?_
 refine bring1 ?_
 refine c_range (σ := Value × List Plc) (ps := [7]) (.slice none 0 0, []) (fun ⟨v2, m⟩ => [.blk g2 29 [v2], .row v2 55 2 m.length (m.flatMap Plc.cells)]) (fun pre I ⟨v2, m⟩ => m = pre) (fun _ _ _ _ => False) rfl Tryz.call178 (hit) (fun I vs x h => by rw [h]; rfl) rfl (fun pre I I' s hI h => by obtain ⟨v2, m⟩ := s; exact h) (fun _ _ _ _ _ _ h => h) (rfl) rfl ?_ ?_ ?_
 ·rintro r E1 pre x vs I1 ⟨v2, m⟩ hI1 rfl rfl hlt
  refine sx_exp2 ?_
  refine go 2 ?_
  refine o_alloc he rfl (fun g5 => ?_)
  refine go 1 ?_
  refine o_stw _ he rfl rfl rfl rfl rfl rfl ?_
  refine go 1 ?_
  refine bring1 ?_
  refine r_begin ?_
  refine go 5 ?_
  refine o_buildSlice he he rfl rfl rfl rfl rfl rfl rfl (fun v10 => ?_)
  refine go 1 ?_
  refine bring5 ?_
  refine o_appendO he he rfl rfl rfl rfl rfl (by omega) (by omega) rfl (fun v11 => ?_)
  refine sx_rowslice (fun A11 c11 hv11 => ?_)
  subst hv11
  refine go 1 ?_
  refine bring5 ?_
  refine o_stw _ he rfl rfl rfl rfl rfl rfl ?_
  refine go 2 ?_
  refine bring2 ?_
  refine sx_drop ?_
  refine bring3 ?_
  refine sx_drop ?_
  refine bring1 ?_
  refine bring1 ?_
  refine bring3 ?_
  refine bring3 ?_
  exact r_next ((.slice A11 (m.length + 1) c11, m ++ [x])) (hI1) (rfl) (by show _ = [Res.blk g2 29 [.slice A11 (m.length + 1) c11], Res.row (.slice A11 (m.length + 1) c11) 55 2 (m ++ [x]).length ((m ++ [x]).flatMap Plc.cells)]; rw [List.length_append, List.flatMap_append]; rfl)
 ·rintro D pre I1 ⟨v2, m⟩ hI1 hfull rfl
  refine sx_app2 ?_
  refine go 9 ?_
  refine q_mark ?_
  refine fin1 rfl rfl ?_
  refine sx_drop ?_
  refine sx_drop ?_
  exact q_post (fun _ m => m) ⟨m, rfl, hfull⟩
 ·rintro D pre I1 s cd hI1 hpart h
  exact h.elim

theorem collectP (I : IMap) (g : Nat) (Ls : List Plc) (hLs : Ls.length ≤ 1000000) (hit : FnIt Tryz.prog 178 [.pointer (some ⟨g, 0, none⟩)] I (fun _ vs (x : Plc) => vs = [.agg x.cells.toArray]) (fun pre _ => pre.length < Ls.length) (fun pre => pre.Perm Ls) (fun _ => True)) :
    FnH Tryz.prog 176 #[.func (.func 178) #[] #[.pointer (some ⟨g, 0, none⟩)]] I [] (fun u J H2 => ∃ m : List Plc, H2 = [.row u 55 2 m.length (m.flatMap Plc.cells)] ∧ m.Perm Ls) := by
 refine enter Tryz.func176 Tryz.call176 rfl Tryz.ntmps176 rfl (fun w0 => ?_)
 refine go 9 ?_
 refine o_callH0 (appendSeqP _ g Ls hLs hit) rfl rfl (fun u4 I4 H4 j4 q4 => ?_)
 obtain ⟨m, rfl, hpm⟩ := q4
 refine sx_app1' ?_
 refine go 4 ?_
 refine fin1 rfl rfl ?_
 exact q_post (fun _ m => m) ⟨m, rfl, hpm⟩

theorem sortedFP (I : IMap) (g : Nat) (Ls : List Plc) (hLs : Ls.length ≤ 1000000) (hit : FnIt Tryz.prog 178 [.pointer (some ⟨g, 0, none⟩)] I (fun _ vs (x : Plc) => vs = [.agg x.cells.toArray]) (fun pre _ => pre.length < Ls.length) (fun pre => pre.Perm Ls) (fun _ => True)) :
    FnI Tryz.prog 107 #[.func (.func 178) #[] #[.pointer (some ⟨g, 0, none⟩)], .func (.func 55) #[] #[]] I (fun u J => ∃ m, RdS J u m ∧ SrtK cfPlc Ls m) := by
 refine enter Tryz.func107 Tryz.call107 rfl Tryz.ntmps107 rfl (fun w0 => ?_)
 refine go 9 ?_
 refine o_callH0 (collectP _ g Ls hLs hit) rfl rfl (fun u7 I7 H7 j7 q7 => ?_)
 obtain ⟨m0, rfl, hpm⟩ := q7
 have hml := hpm.length_eq
 refine sx_app1' ?_
 refine go 8 ?_
 refine o_callX1 (sortRowP _ _ m0 (by omega)) rfl rfl (fun v10 s10 q10 => ?_)
 obtain ⟨rfl, m, hsr, rfl⟩ := q10
 refine go 9 ?_
 refine fin1 rfl rfl ?_
 refine sx_pubrow (l := m) rfl hsr.1.length_eq.symm (plc_flat m) (fun I9 j9 R9 => ?_)
 exact q_i ⟨m, R9, srtK_perm hsr hpm⟩

theorem keysItT (I : IMap) (S : ItS) (r : Nat) (kvs : List (ByteArray × Value)) (hO0 : S.Ok Value.string kvs) (hT0 : S.Todo Value.string kvs) (hS0 : S.seen = #[]) (g1 : Nat) (c1 : ICells I g1 0 [.map (some r)]) (hmp : I r = some S.mp) :
    FnIt Tryz.prog 189 [.pointer (some ⟨g1, 0, none⟩)] I (fun _ vs (x : ByteArray) => vs = [.string x]) (fun pre _ => pre.length < kvs.length) (fun pre => pre.Perm (kvs.map Prod.fst)) (fun _ => True) := by
 intro ly J I1 Hc hI1 hJm hY hJ0
 have c1 := c1.le hI1
 have hmp := (hI1) _ _ hmp
 refine enter Tryz.func189 Tryz.call189 rfl Tryz.ntmps189 rfl (fun w0 => ?_)
 refine go 2 ?_
 refine o_v rfl (v_ldI he rfl (c1 0 _ rfl)) ?_
 refine go 1 ?_
 refine o_rangeG (con_map hmp) hS0 he rfl rfl (fun i5 => ?_)
 refine go 3 ?_
 refine c_loop5 (S) (kvs) ([]) (I1) (Hc) (fun S2 todo pre I2 Hc => I2)
  (fun S2 todo pre I2 Hc => [(0, .func (.yield ly) #[] #[]), (5, .pointer (some ⟨i5, 0, none⟩))])
  (fun S2 todo pre I2 Hc => .any i5 (S2.it r) :: Hc)
  (fun S2 todo pre I2 Hc => ILe I1 I2 ∧ S2.mp = S.mp ∧ S2.Ok Value.string kvs ∧ S2.Todo Value.string todo ∧ (pre ++ todo.map Prod.fst).Perm (kvs.map Prod.fst) ∧ J true pre I2 Hc)
  (fun S2 todo pre I2 Hc => todo.length) ⟨ILe.refl _, rfl, hO0, hT0, .refl _, hJ0⟩ rfl sb rfl ?_
 intro S2 todo pre I2 Hc ⟨hI2, hme, hO, hT, hP, hJ⟩
 have hmp2 : I2 r = some S2.mp := by rw [hme]; exact hI2 _ _ hmp
 refine go 3 ?_
 refine o_nextG (con_map hmp2) hO hT rfl rfl (fun q6 S6 t6 hst he6 => ?_)
 refine o_v rfl (v_extract rfl (nextA_0 _ _)) ?_
 refine go 3 ?_
 refine cb rfl (fun h7 p7 => ?_) (fun h7 p7 => ?_)
 ·obtain ⟨e2, a, b, htd, hO1, hT1, hA1, rfl, rfl⟩ := hst.some h7
  have hmp3 : I2 r = some S6.mp := by rw [he6]; exact hmp2
  refine go 5 ?_
  refine o_v rfl (v_entryG (con_map hmp3) m0 hO1 hA1 rfl) ?_
  refine o_v rfl (OV.cast (u := .string e2.1) (v_extract rfl rfl) rfl) ?_
  refine go 8 ?_
  refine o_yield1 (e2.1) hY (hJm _ _ _ _ _ (ILe.refl _) hJ) (rfl) ((keys_ltG hP htd)) rfl rfl rfl (fun b12 I12 Hc12 j12 hJ12 => ?_)
  refine go 3 ?_
  refine cb rfl (fun h13 p13 => ?_) (fun h13 p13 => ?_)
  ·have hb12 : b12 = false := by simpa using h13
   refine go 4 ?_
   refine fin0 rfl ?_
   refine sx_drop ?_
   subst hb12
   exact q_it false _ hJ12 trivial
  ·have hb12 : b12 = true := by simpa using h13
   refine go 3 ?_
   exact q_next5 (S6) (a ++ b) (pre ++ [e2.1]) (I12) (Hc12) ⟨hI2.trans j12, he6.trans hme, hO1, hT1, keys_stepG hP htd, hb12 ▸ hJ12⟩ (by rw [htd]; simp) rfl sb rfl
 ·obtain ⟨rfl, rfl, rfl⟩ := hst.none h7
  refine go 4 ?_
  refine end0 rfl ?_
  refine sx_drop ?_
  exact q_it true _ hJ (by simpa using hP)

theorem keysCT (I : IMap) (r : Nat) :
    FnI Tryz.prog 117 #[.map (some r)] I (fun u J => ∃ g, u = .func (.func 189) #[] #[.pointer (some ⟨g, 0, none⟩)] ∧ ICells J g 0 [.map (some r)]) := by
 refine enter Tryz.func117 Tryz.call117 rfl Tryz.ntmps117 rfl (fun w0 => ?_)
 refine go 3 ?_
 refine o_box _ rfl rfl rfl (fun g1 => ?_)
 refine go 5 ?_
 refine sx_pub (fun Ig1 jg1 cg1 => ?_)
 refine o_v rfl (v_makeFunc rfl rfl) ?_
 refine go 4 ?_
 refine fin1 rfl rfl ?_
 exact q_i ⟨_, rfl, cg1⟩

theorem appendSeqT (I : IMap) (g : Nat) (Ls : List ByteArray) (hLs : Ls.length ≤ 1000000) (hit : FnIt Tryz.prog 189 [.pointer (some ⟨g, 0, none⟩)] I (fun _ vs (x : ByteArray) => vs = [.string x]) (fun pre _ => pre.length < Ls.length) (fun pre => pre.Perm Ls) (fun _ => True)) :
    FnH Tryz.prog 239 #[.slice none 0 0, .func (.func 189) #[] #[.pointer (some ⟨g, 0, none⟩)]] I [] (fun u J H2 => ∃ m : List ByteArray, H2 = [.row u 9 1 m.length (m.map Value.string)] ∧ m.Perm Ls) := by
 refine enter Tryz.func239 Tryz.call239 rfl Tryz.ntmps239 rfl (fun w0 => ?_)
 refine go 3 ?_
 refine o_box _ rfl rfl rfl (fun g2 => ?_)
 refine go 6 ?_
 refine sx_nilrow 9 1 ?_
 refine go 4 ?_
 refine bring1 ?_
 refine c_range (σ := Value × List ByteArray) (ps := [7]) (.slice none 0 0, []) (fun ⟨v2, m⟩ => [.blk g2 33 [v2], .row v2 9 1 m.length (m.map Value.string)]) (fun pre I ⟨v2, m⟩ => m = pre) (fun _ _ _ _ => False) rfl Tryz.call189 (hit) (fun I vs x h => by rw [h]; rfl) rfl (fun pre I I' s hI h => by obtain ⟨v2, m⟩ := s; exact h) (fun _ _ _ _ _ _ h => h) (rfl) rfl ?_ ?_ ?_
 ·rintro r E1 pre x vs I1 ⟨v2, m⟩ hI1 rfl rfl hlt
  refine sx_exp2 ?_
  refine go 3 ?_
  refine r_begin ?_
  refine go 5 ?_
  refine o_buildSlice he he rfl rfl rfl rfl rfl rfl rfl (fun v10 => ?_)
  refine go 1 ?_
  refine bring4 ?_
  refine o_appendO he he rfl rfl rfl rfl rfl (by omega) (by omega) rfl (fun v11 => ?_)
  refine sx_rowslice (fun A11 c11 hv11 => ?_)
  subst hv11
  refine go 1 ?_
  refine bring4 ?_
  refine o_stw _ he rfl rfl rfl rfl rfl rfl ?_
  refine go 2 ?_
  refine bring2 ?_
  refine sx_drop ?_
  refine bring1 ?_
  refine bring1 ?_
  refine bring3 ?_
  refine bring3 ?_
  exact r_next ((.slice A11 (m.length + 1) c11, m ++ [x])) (hI1) (rfl) (by show _ = [Res.blk g2 33 [.slice A11 (m.length + 1) c11], Res.row (.slice A11 (m.length + 1) c11) 9 1 (m ++ [x]).length ((m ++ [x]).map Value.string)]; rw [List.length_append, List.map_append]; rfl)
 ·rintro D pre I1 ⟨v2, m⟩ hI1 hfull rfl
  refine sx_app2 ?_
  refine go 9 ?_
  refine q_mark ?_
  refine fin1 rfl rfl ?_
  refine sx_drop ?_
  refine sx_drop ?_
  exact q_post (fun _ m => m) ⟨m, rfl, hfull⟩
 ·rintro D pre I1 s cd hI1 hpart h
  exact h.elim

theorem collectT (I : IMap) (g : Nat) (Ls : List ByteArray) (hLs : Ls.length ≤ 1000000) (hit : FnIt Tryz.prog 189 [.pointer (some ⟨g, 0, none⟩)] I (fun _ vs (x : ByteArray) => vs = [.string x]) (fun pre _ => pre.length < Ls.length) (fun pre => pre.Perm Ls) (fun _ => True)) :
    FnH Tryz.prog 187 #[.func (.func 189) #[] #[.pointer (some ⟨g, 0, none⟩)]] I [] (fun u J H2 => ∃ m : List ByteArray, H2 = [.row u 9 1 m.length (m.map Value.string)] ∧ m.Perm Ls) := by
 refine enter Tryz.func187 Tryz.call187 rfl Tryz.ntmps187 rfl (fun w0 => ?_)
 refine go 9 ?_
 refine o_callH0 (appendSeqT _ g Ls hLs hit) rfl rfl (fun u4 I4 H4 j4 q4 => ?_)
 obtain ⟨m, rfl, hpm⟩ := q4
 refine sx_app1' ?_
 refine go 4 ?_
 refine fin1 rfl rfl ?_
 exact q_post (fun _ m => m) ⟨m, rfl, hpm⟩

theorem sortedFT (I : IMap) (g : Nat) (Ls : List ByteArray) (hLs : Ls.length ≤ 1000000) (hit : FnIt Tryz.prog 189 [.pointer (some ⟨g, 0, none⟩)] I (fun _ vs (x : ByteArray) => vs = [.string x]) (fun pre _ => pre.length < Ls.length) (fun pre => pre.Perm Ls) (fun _ => True)) :
    FnI Tryz.prog 116 #[.func (.func 189) #[] #[.pointer (some ⟨g, 0, none⟩)], .func (.func 57) #[] #[]] I (fun u J => ∃ m, RdS J u m ∧ SrtK cmpS Ls m) := by
 refine enter Tryz.func116 Tryz.call116 rfl Tryz.ntmps116 rfl (fun w0 => ?_)
 refine go 9 ?_
 refine o_callH0 (collectT _ g Ls hLs hit) rfl rfl (fun u7 I7 H7 j7 q7 => ?_)
 obtain ⟨m0, rfl, hpm⟩ := q7
 have hml := hpm.length_eq
 refine sx_app1' ?_
 refine go 8 ?_
 refine o_callX1 (sortRowT _ _ m0 (by omega)) rfl rfl (fun v10 s10 q10 => ?_)
 obtain ⟨rfl, m, hsr, rfl⟩ := q10
 refine go 9 ?_
 refine fin1 rfl rfl ?_
 refine sx_pubrow (l := m) rfl hsr.1.length_eq.symm (str_flat2 m) (fun I9 j9 R9 => ?_)
 exact q_i ⟨m, R9, srtK_perm hsr hpm⟩

theorem indexFunc_Rep (I : IMap) (v : Value) (l : List Rep) (hv : RdS I v l) (f : FuncId) (cs : List Value) (p : Rep → Bool) (hp : ∀ x ∈ l, ∀ vs, Enc.rd I vs x → FnV Tryz.prog f ([Value.agg vs.toArray] ++ cs).toArray I (.bool (p x))) :
    FnV Tryz.prog 233 #[v, .func (.func f) #[] cs.toArray] I (.int .i64 (idxF p l)) := by
 obtain ⟨A, c, rfl, hA, hc, hm⟩ := hv
 refine enter Tryz.func233 Tryz.call233 rfl Tryz.ntmps233 rfl (fun w0 => ?_)
 refine go 14 ?_
 refine c_loop (α := Nat) 0 (fun i => I)
  (fun i => [(0, .slice A l.length c), (1, .func (.func f) #[] cs.toArray), (7, .int .i64 (l.length : Int)), (8, .int .i64 (i : Int))])
  (fun i => [])
  (fun i => i ≤ l.length ∧ ∀ j x, j < i → l[j]? = some x → p x = false)
  (fun i => l.length - i) ⟨Nat.zero_le _, fun j x hj => absurd hj (Nat.not_lt_zero j)⟩ rfl sb rfl ?_
 intro i ⟨hi, hn⟩
 refine go 6 ?_
 refine cb rfl (fun h9 p9 => ?_) (fun h9 p9 => ?_)
 ·have hlt : i < l.length := by omega
  refine go 15 ?_
  obtain ⟨b14, o14, w14, e14, c14, r14⟩ := RdA.at_ hA (i := i) hlt
  refine o_v rfl (v_idx he rfl rfl e14 (i) (by omega) hlt) ?_
  refine o_v rfl (v_ldIa he rfl c14 (Enc.len r14)) ?_
  refine go 1 ?_
  refine o_callV (hp _ (List.getElem_mem hlt) _ r14) rfl rfl ?_
  refine go 2 ?_
  refine cb rfl (fun h16 p16 => ?_) (fun h16 p16 => ?_)
  ·refine go 12 ?_
   refine fin1 rfl rfl ?_
   exact q_v (congrArg (Value.int .i64) (idxF_found hlt p16 hn).symm)
  ·refine go 8 ?_
   exact q_next (i + 1) ⟨by omega, idx_next hn hlt p16⟩ (by omega) rfl sb rfl
 ·refine go 11 ?_
  refine fin1 rfl rfl ?_
  exact q_v (congrArg (Value.int .i64) (idxF_none (fun j x hj => hn j x (by omega))).symm)

theorem containsFunc_Rep (I : IMap) (v : Value) (l : List Rep) (hv : RdS I v l) (f : FuncId) (cs : List Value) (p : Rep → Bool) (hp : ∀ x ∈ l, ∀ vs, Enc.rd I vs x → FnV Tryz.prog f ([Value.agg vs.toArray] ++ cs).toArray I (.bool (p x))) :
    FnV Tryz.prog 173 #[v, .func (.func f) #[] cs.toArray] I (.bool (l.any p)) := by
 refine enter Tryz.func173 Tryz.call173 rfl Tryz.ntmps173 rfl (fun w0 => ?_)
 refine go 10 ?_
 refine o_callV (indexFunc_Rep I v l hv f cs p hp) rfl rfl ?_
 refine go 5 ?_
 refine fin1 rfl rfl ?_
 exact q_v (congrArg Value.bool (idxF_any p l))

theorem plBad (I : IMap) (r : Rep) (vs : List Value) (h : Enc.rd I vs r) (hs : ∀ e ∈ r.options, SmE e) :
    FnV Tryz.prog 174 #[.agg vs.toArray] I (.bool (!validRep r)) := by
 obtain ⟨s, rfl, hr0⟩ := h
 have hr1 := hr0
 obtain ⟨S, d, rfl, _⟩ := hr1
 have hr := hr0
 refine enter Tryz.func174 Tryz.call174 rfl Tryz.ntmps174 rfl (fun w0 => ?_)
 refine go 3 ?_
 refine o_box _ rfl rfl rfl (fun g1 => ?_)
 refine go 7 ?_
 refine o_callV (repValid _ r S d hr hs) rfl rfl ?_
 refine go 5 ?_
 refine fin1 rfl rfl ?_
 exact q_v rfl

theorem plIt (I : IMap) (vc : Value) (c : List Kind) (hvc : RdS I vc c) (hsc : SmC c) (w : Value) (own : List Rep) (hw : RdS I w own) (how : own.length ≤ 1000000) (hso : ∀ r ∈ own, ∀ e ∈ r.options, SmE e) (a : Value) (all : List (List Int)) (ha : RdS I a all) (p : ByteArray) (day : Int) (ga gw gc gd gp : Nat) (ka : ICells I ga 0 [a]) (kw : ICells I gw 0 [w]) (kc : ICells I gc 0 [vc]) (kd : ICells I gd 0 [.int .i64 (day)]) (kp : ICells I gp 0 [.string p]) :
    FnIt Tryz.prog 175 [.pointer (some ⟨ga, 0, none⟩), .pointer (some ⟨gw, 0, none⟩), .pointer (some ⟨gc, 0, none⟩), .pointer (some ⟨gd, 0, none⟩), .pointer (some ⟨gp, 0, none⟩)] I (fun I vs (s : List Part) => ∃ w, vs = [.agg #[w]] ∧ RdS I w s) (fun _ _ => True) (fun pre => pre = casTo c own p day all) (fun _ => True) := by
 obtain ⟨AA, ca, rfl, hAA, hca, hma⟩ := ha
 intro ly J I1 Hc hI1 hJm hY hJ0
 have hvc := hvc.le hI1
 have hw := hw.le hI1
 have hAA := hAA.le hI1
 have ka := ka.le hI1
 have kw := kw.le hI1
 have kc := kc.le hI1
 have kd := kd.le hI1
 have kp := kp.le hI1
 refine enter Tryz.func175 Tryz.call175 rfl Tryz.ntmps175 rfl (fun w0 => ?_)
 refine go 2 ?_
 refine o_v rfl (v_ldI he rfl (ka 0 _ rfl)) ?_
 refine go 5 ?_
 refine c_loop4 ((0 : Nat)) ([]) (I1) (Hc) (fun i pre I2 Hc => I2)
  (fun i pre I2 Hc => [(0, .func (.yield ly) #[] #[]), (1, .pointer (some ⟨ga, 0, none⟩)), (2, .pointer (some ⟨gw, 0, none⟩)), (3, .pointer (some ⟨gc, 0, none⟩)), (4, .pointer (some ⟨gd, 0, none⟩)), (5, .pointer (some ⟨gp, 0, none⟩)), (16, .slice AA all.length ca), (17, .int .i64 ((all.length : Nat) : Int)), (18, .int .i64 ((i : Nat) : Int))])
  (fun i pre I2 Hc => Hc)
  (fun i pre I2 Hc => i ≤ all.length ∧ ILe I1 I2 ∧ pre = (casTo c own p day (all.take i)) ∧ J true pre I2 Hc)
  (fun i pre I2 Hc => all.length - i) ⟨Nat.zero_le _, ILe.refl _, rfl, hJ0⟩ rfl sb rfl ?_
 intro i pre I2 Hc ⟨hi, hI2, hpre, hJ⟩
 have hvc := hvc.le hI2
 have hw := hw.le hI2
 have hAA := hAA.le hI2
 have ka := ka.le hI2
 have kw := kw.le hI2
 have kc := kc.le hI2
 have kd := kd.le hI2
 have kp := kp.le hI2
 refine go 6 ?_
 refine cb rfl (fun h19 p19 => ?_) (fun h19 p19 => ?_)
 ·have hlt : i < all.length := by omega
  refine go 6 ?_
  obtain ⟨b20, o20, w20, e20, c20, r20⟩ := RdA.at_ hAA (i := i) (by omega)
  obtain ⟨q20, rfl, S20, d20, rfl, hS20, hd20, hm20⟩ := r20
  refine o_v rfl (v_idx he rfl rfl e20 (i) (by omega) (by omega)) ?_
  refine o_v rfl (v_ldI he rfl (c20 0 _ rfl)) ?_
  refine go 5 ?_
  refine o_v rfl (v_ldI he rfl (kw 0 _ rfl)) ?_
  refine go 2 ?_
  refine o_call (repPicked _ _ own hw how hso _ all[i] ⟨_, _, rfl, hS20, hd20, hm20⟩) rfl rfl (fun v25 I25 j25 q25 => ?_)
  try have hvc := hvc.le j25
  try have hw := hw.le j25
  try have hAA := hAA.le j25
  try have ka := ka.le j25
  try have kw := kw.le j25
  try have kc := kc.le j25
  try have kd := kd.le j25
  try have kp := kp.le j25
  try have hz25 := hz25.le j25
  try have hwb := hwb.le j25
  have hJ := hJm _ _ _ _ _ j25 hJ
  obtain ⟨z25, rfl, hz25⟩ := q25
  refine go 9 ?_
  refine o_v rfl (v_ldIa he rfl kc rfl) ?_
  refine go 1 ?_
  refine o_v rfl (v_ldI he rfl (kd 0 _ rfl)) ?_
  refine go 1 ?_
  refine o_call (cAt _ vc c hvc hsc _ (pickedF own all[i]).1 hz25 (Nat.le_trans (picked_le own all[i]) how) (picked_sm hso) day) rfl rfl (fun v32 I32 j32 q32 => ?_)
  try have hvc := hvc.le j32
  try have hw := hw.le j32
  try have hAA := hAA.le j32
  try have ka := ka.le j32
  try have kw := kw.le j32
  try have kc := kc.le j32
  try have kd := kd.le j32
  try have kp := kp.le j32
  try have hz25 := hz25.le j32
  try have hwb := hwb.le j32
  have hJ := hJm _ _ _ _ _ j32 hJ
  obtain ⟨wb, rfl, hwb⟩ := q32
  refine go 5 ?_
  refine o_alloc he rfl (fun g11 => ?_)
  refine go 1 ?_
  refine o_stw _ he rfl rfl rfl rfl rfl (by simp [RdS.one hwb]) ?_
  refine go 7 ?_
  refine o_v rfl (v_ldI he rfl (kp 0 _ rfl)) ?_
  refine go 1 ?_
  refine o_callE (flFind _ _ _ hwb p) rfl rfl (fun v39 q39 => ?_)
  obtain ⟨vs39, rfl, s39, rfl, hs39⟩ := q39
  refine go 4 ?_
  refine o_alloc he rfl (fun g14 => ?_)
  refine go 1 ?_
  refine o_stw _ he rfl rfl rfl rfl rfl (Enc.one (α := Part) (x := (findP (caseS c own day all[i]) p).getD zPart) ⟨s39, rfl, hs39⟩) ?_
  refine go 7 ?_
  refine sxb 43 rfl (fun h43 p43 => ?_) (fun h43 p43 => ?_)
  ·refine go 3 ?_
   refine o_yes rfl rfl h43 (o_yield2 ((caseS c own day all[i])) hY (hJm _ _ _ _ _ (ILe.refl _) hJ) (⟨_, rfl, hwb⟩) (trivial) rfl rfl rfl (fun b46 I46 Hc46 j46 hJ46 => ?_))
   refine go 4 ?_
   refine cb rfl (fun h48 p48 => ?_) (fun h48 p48 => ?_)
   ·have hb46 : b46 = false := by simpa using h48
    refine go 5 ?_
    refine fin0 rfl ?_
    refine sx_drop ?_
    refine sx_drop ?_
    subst hb46
    exact q_it false _ hJ46 trivial
   ·have hb46 : b46 = true := by simpa using h48
    refine go 8 ?_
    refine sx_drop ?_
    refine sx_drop ?_
    exact q_next4 (i + 1) (pre ++ [(caseS c own day all[i])]) (I46) (Hc46) ⟨by omega, hI2.trans (j25.trans (j32.trans j46)), by rw [casTo_yes hlt h43, hpre], hb46 ▸ hJ46⟩ (by omega) rfl sb rfl
  ·refine go 7 ?_
   refine c_false rfl ?_
   refine go 8 ?_
   refine sx_drop ?_
   refine sx_drop ?_
   exact q_next4 (i + 1) (pre) (_) (Hc) ⟨by omega, hI2.trans (j25.trans j32), by rw [casTo_no hlt h43, ← hpre], hJ⟩ (by omega) rfl sb rfl
 ·have e : i = all.length := by omega
  subst e
  rw [List.take_length] at hpre
  refine go 4 ?_
  refine end0 rfl ?_
  exact q_it true _ hJ hpre

theorem plCases (I : IMap) (vc : Value) (c : List Kind) (hvc : RdS I vc c) (hsc : SmC c) (v : Value) (l : List Rep) (hv : RdS I v l) (hl : l.length ≤ 1000000) (hsl : ∀ r ∈ l, ∀ e ∈ r.options, SmE e) (R : Nat → Nat) (hRt : Rts l R) (p : ByteArray) (day : Int)  :
    FnI Tryz.prog 106 #[.agg #[vc], v, .string p, .int .i64 (day)] I (fun u J => ∃ Fv, u = .tuple #[Fv, .int .i64 (casE c l (ownF l R p))] ∧ ((casE c l (ownF l R p)) = 0 → ∃ a w ga gw gc gd gp, Fv = .func (.func 175) #[] #[.pointer (some ⟨ga, 0, none⟩), .pointer (some ⟨gw, 0, none⟩), .pointer (some ⟨gc, 0, none⟩), .pointer (some ⟨gd, 0, none⟩), .pointer (some ⟨gp, 0, none⟩)] ∧ RdS J a (allF c (ownF l R p) 4096).1 ∧ RdS J w (ownF l R p) ∧ ICells J ga 0 [a] ∧ ICells J gw 0 [w] ∧ ICells J gc 0 [vc] ∧ ICells J gd 0 [.int .i64 (day)] ∧ ICells J gp 0 [.string p])) := by
 have hv0 := hv
 obtain ⟨A, c0, rfl, hA, hc, hm⟩ := hv
 refine enter Tryz.func106 Tryz.call106 rfl Tryz.ntmps106 rfl (fun w0 => ?_)
 refine go 3 ?_
 refine o_box _ rfl rfl rfl (fun g4 => ?_)
 refine go 1 ?_
 refine o_box _ rfl rfl rfl (fun g6 => ?_)
 refine go 1 ?_
 refine o_box _ rfl rfl rfl (fun g7 => ?_)
 refine go 9 ?_
 refine o_callV (catValid _ vc c hvc hsc) rfl rfl ?_
 refine go 2 ?_
 refine sxb 18 rfl (fun h18 p18 => ?_) (fun h18 p18 => ?_)
 ·refine go 5 ?_
  refine c_true rfl ?_
  refine go 8 ?_
  refine fin2 rfl rfl rfl ?_
  have e := casE_c (l := l) (own := (ownF l R p)) (show validC c = false by simpa using h18)
  exact q_i ⟨_, by rw [e], fun h => by rw [e] at h; cases h⟩
 ·refine go 2 ?_
  refine o_yes rfl rfl h18 (o_callV (containsFunc_Rep _ _ l hv0 _ [] (fun r => !validRep r) (fun x hx vs h => plBad _ x vs h (hsl x hx))) rfl rfl ?_)
  refine go 3 ?_
  refine cb rfl (fun h21 p21 => ?_) (fun h21 p21 => ?_)
  ·refine go 8 ?_
   refine fin2 rfl rfl rfl ?_
   have e := casE_l (own := (ownF l R p)) (show validC c = true by simpa using h18) h21
   exact q_i ⟨_, by rw [e], fun h => by rw [e] at h; cases h⟩
  ·have hC : validC c = true := by simpa using h18
   refine go 5 ?_
   refine o_alloc he rfl (fun g10 => ?_)
   refine go 8 ?_
   refine o_call (linkOf _ _ l hv0 hl hsl p R hRt) rfl rfl (fun v24 I24 j24 q24 => ?_)
   try have hvc := hvc.le j24
   try have hv0 := hv0.le j24
   try have hA := hA.le j24
   obtain ⟨CA, cc, rfl, hCA, hcc, hcm⟩ := q24
   rw [nI_len] at hcc ⊢
   refine go 1 ?_
   refine sx_nilrow 64 2 ?_
   refine go 4 ?_
   refine bring2 ?_
   refine bring3 ?_
   refine bring4 ?_
   refine bring4 ?_
   refine bring4 ?_
   refine c_loop4 ((0 : Nat)) (none) (0) ([]) (fun i A10 c10 xs => I24)
    (fun i A10 c10 xs => [(4, .pointer (some ⟨g4, 0, none⟩)), (6, .pointer (some ⟨g6, 0, none⟩)), (7, .pointer (some ⟨g7, 0, none⟩)), (10, .pointer (some ⟨g10, 0, none⟩)), (1, .slice A l.length c0), (24, .slice CA (ofN l R p).length cc), (25, .int .i64 (((ofN l R p).length : Nat) : Int)), (26, .int .i64 ((i : Nat) : Int))])
    (fun i A10 c10 xs => [.row (.slice A10 i c10) 64 2 i xs, .blk g10 25 [.slice A10 i c10], .blk g4 24 [vc], .blk g6 9 [.string p], .blk g7 3 [.int .i64 (day)]])
    (fun i A10 c10 xs => i ≤ (ofN l R p).length ∧ Flat I24 xs (pickN l ((ofN l R p).take i)))
    (fun i A10 c10 xs => (ofN l R p).length - i) ⟨Nat.zero_le _, .nil⟩ rfl sb rfl ?_
   intro i A10 c10 xs ⟨hi, hF⟩
   refine go 6 ?_
   refine cb rfl (fun h27 p27 => ?_) (fun h27 p27 => ?_)
   ·have hlt : i < (ofN l R p).length := by omega
    have hcl : (ofN l R p)[i] < l.length := of_lt (List.getElem_mem hlt)
    have hcl2 := own_len (l := l) (R := R) (p := p)
    have hcl3 : (ownF l R p).length = (ofN l R p).length := pickN_len fun i hi => of_lt hi
    refine go 6 ?_
    obtain ⟨b28, o28, w28, e28, c28, r28⟩ := RdA.at_ hCA (i := i) (by first | exact hlt | (rw [nI_len]; exact hlt))
    rw [nI_at hlt] at r28
    obtain rfl := r28
    refine o_v rfl (v_idx he rfl rfl e28 (i) (by omega) (by first | exact hlt | (rw [nI_len]; exact hlt))) ?_
    refine o_v rfl (v_ldI he rfl (c28 0 _ rfl)) ?_
    refine go 3 ?_
    refine bring1 ?_
    refine bring1 ?_
    refine d_start2 T.mixed ?_
    refine d_tv 1 rfl rfl (by kernel_rfl) rfl (.cons _ (.cons _ (.refl _))) rfl (v_move rfl) ?_
    refine d_tv 2 rfl rfl (by kernel_rfl) rfl (.cons _ (.cons _ (.refl _))) rfl (v_move rfl) ?_
    obtain ⟨b33, o33, w33, e33, c33, r33⟩ := RdA.at_ hA (i := (ofN l R p)[i]) hcl
    obtain ⟨q33, rfl, S33, d33, rfl, hS33, hd33, hm33⟩ := r33
    refine d_tv 3 rfl rfl (by kernel_rfl) rfl (.cons _ (.cons _ (.refl _))) rfl (v_idx he rfl rfl e33 ((ofN l R p)[i]) (by omega) hcl) ?_
    refine d_tv 4 rfl rfl (by kernel_rfl) rfl (.cons _ (.cons _ (.refl _))) rfl (v_ldIa he rfl c33 rfl) ?_
    refine d_two 0 5 (by kernel_rfl) rfl rfl ?_ ?_
    ·refine o_val rfl (v_ld m1 he rfl rfl) ?_
     refine d_on (fun _ m => m.keeps (.cons _ (.cons _ (.refl _)))) ?_
     refine d_one 5 (by kernel_rfl) rfl ?_
     refine o_buildSlice he he rfl rfl rfl rfl rfl rfl rfl (fun v35 => ?_)
     refine d_on (fun _ m => m.keeps (.cons _ (.cons _ (.cons _ (.refl _))))) ?_
     refine d_one 6 (by kernel_rfl) rfl ?_
     refine bring1 ?_
     refine o_appendO he he rfl rfl rfl rfl rfl (by omega) (by omega) rfl (fun v36 => ?_)
     refine sx_rowslice (fun A36 c36 hv36 => ?_)
     subst hv36
     refine d_on (fun _ m => m.keeps (.cons _ (.cons _ (.cons _ (.refl _))))) ?_
     refine d_one 7 (by kernel_rfl) rfl ?_
     refine bring2 ?_
     refine o_stw _ he rfl rfl rfl rfl rfl rfl ?_
     refine d_on (fun _ m => m.keeps (.cons _ (.cons _ (.cons _ (.refl _))))) ?_
     refine d_done (by kernel_rfl) ?_
     refine go 7 ?_
     refine bring2 ?_
     refine sx_drop ?_
     refine bring4 ?_
     refine bring4 ?_
     refine bring4 ?_
     refine bring3 ?_
     refine bring4 ?_
     exact q_next4 (i + 1) (_) (_) (_) ⟨by omega, by rw [pick_step hlt hcl]; exact hF.append (.one ⟨_, rfl, ⟨_, _, rfl, hS33, hd33, hm33⟩⟩)⟩ (by omega) rfl sb rfl
    ·refine o_buildSlice he he rfl rfl rfl rfl rfl rfl rfl (fun v35 => ?_)
     refine d_on (fun _ m => m.keeps (.cons _ (.cons _ (.cons _ (.refl _))))) ?_
     refine d_one 0 (by kernel_rfl) rfl ?_
     refine o_val rfl (v_ld m2 he rfl rfl) ?_
     refine d_on (fun _ m => m.keeps (.cons _ (.cons _ (.cons _ (.refl _))))) ?_
     refine d_one 6 (by kernel_rfl) rfl ?_
     refine bring1 ?_
     refine o_appendO he he rfl rfl rfl rfl rfl (by omega) (by omega) rfl (fun v36 => ?_)
     refine sx_rowslice (fun A36 c36 hv36 => ?_)
     subst hv36
     refine d_on (fun _ m => m.keeps (.cons _ (.cons _ (.cons _ (.refl _))))) ?_
     refine d_one 7 (by kernel_rfl) rfl ?_
     refine bring2 ?_
     refine o_stw _ he rfl rfl rfl rfl rfl rfl ?_
     refine d_on (fun _ m => m.keeps (.cons _ (.cons _ (.cons _ (.refl _))))) ?_
     refine d_done (by kernel_rfl) ?_
     refine go 7 ?_
     refine bring2 ?_
     refine sx_drop ?_
     refine bring4 ?_
     refine bring4 ?_
     refine bring4 ?_
     refine bring3 ?_
     refine bring4 ?_
     exact q_next4 (i + 1) (_) (_) (_) ⟨by omega, by rw [pick_step hlt hcl]; exact hF.append (.one ⟨_, rfl, ⟨_, _, rfl, hS33, hd33, hm33⟩⟩)⟩ (by omega) rfl sb rfl
   ·obtain rfl : i = (ofN l R p).length := by omega
    rw [List.take_length] at hF
    have hcl2 := own_len (l := l) (R := R) (p := p)
    have hcl3 : (ownF l R p).length = (ofN l R p).length := pickN_len fun i hi => of_lt hi
    refine sx_pubrow (l := (ownF l R p)) rfl hcl3.symm hF (fun I9 j9 Ro => ?_)
    have hvc := hvc.le j9
    have hv0 := hv0.le j9
    refine go 13 ?_
    refine cb rfl (fun h40 p40 => ?_) (fun h40 p40 => ?_)
    ·refine go 8 ?_
     refine fin2 rfl rfl rfl ?_
     have e := casE_o (own := (ownF l R p)) hC h21 (List.eq_nil_of_length_eq_zero (by rw [hcl3]; omega))
     exact q_i ⟨_, by rw [e], fun h => by rw [e] at h; cases h⟩
    ·have hne : (ownF l R p) ≠ [] := fun e => by rw [e] at hcl3; simp at hcl3; omega
     have hce := casE_x (own := (ownF l R p)) hC h21 hne
     refine go 7 ?_
     refine o_call (seAll _ vc c hvc hsc _ (ownF l R p) Ro (Nat.le_trans hcl2 hl) (fun r hr => hsl r (own_mem hr)) 4096) rfl rfl (fun v44 I44 j44 q44 => ?_)
     try have hvc := hvc.le j44
     try have hv0 := hv0.le j44
     try have hA := hA.le j44
     try have Ro := Ro.le j44
     try have hw44 := hw44.le j44
     obtain ⟨w44, rfl, hw44⟩ := q44
     have hw44s := hw44
     obtain ⟨A44, c44, rfl, _, _, _⟩ := hw44s
     refine go 4 ?_
     refine o_alloc he rfl (fun g13 => ?_)
     refine go 1 ?_
     refine o_stw _ he rfl rfl rfl rfl rfl rfl ?_
     refine go 4 ?_
     refine c_cut (I' := I44) (L' := [(4, .pointer (some ⟨g4, 0, none⟩)), (6, .pointer (some ⟨g6, 0, none⟩)), (7, .pointer (some ⟨g7, 0, none⟩)), (10, .pointer (some ⟨g10, 0, none⟩)), (13, .pointer (some ⟨g13, 0, none⟩)), (14, .int .i64 (casE c l (ownF l R p)))]) (H' := [.blk g13 112 [.slice A44 (allF c (ownF l R p) 4096).1.length c44], .blk g10 25 [.slice A10 (ofN l R p).length c10], .blk g4 24 [vc], .blk g6 9 [.string p], .blk g7 3 [.int .i64 (day)]]) ?_ ?_
     ·refine go 5 ?_
      refine sxb 49 rfl (fun h49 p49 => ?_) (fun h49 p49 => ?_)
      ·refine go 6 ?_
       refine cb rfl (fun h53 p53 => ?_) (fun h53 p53 => ?_)
       ·refine go 4 ?_
        exact q_cut ⟨rfl, rfl, rfl, rfl, rfl, (congrArg (fun n : Int => some (Value.int .i64 n)) (by rw [hce]; first | rw [if_pos (by simpa using h49)] | rw [if_neg (by simpa using h49), if_pos (by omega)] | (rw [if_neg (by simpa using h49), if_neg (by omega)]; simpa using h49))), trivial⟩ rfl rfl
       ·refine go 2 ?_
        exact q_cut ⟨rfl, rfl, rfl, rfl, rfl, (congrArg (fun n : Int => some (Value.int .i64 n)) (by rw [hce]; first | rw [if_pos (by simpa using h49)] | rw [if_neg (by simpa using h49), if_pos (by omega)] | (rw [if_neg (by simpa using h49), if_neg (by omega)]; simpa using h49))), trivial⟩ rfl rfl
      ·refine go 6 ?_
       refine c_false rfl ?_
       refine go 2 ?_
       exact q_cut ⟨rfl, rfl, rfl, rfl, rfl, (congrArg (fun n : Int => some (Value.int .i64 n)) (by rw [hce]; first | rw [if_pos (by simpa using h49)] | rw [if_neg (by simpa using h49), if_pos (by omega)] | (rw [if_neg (by simpa using h49), if_neg (by omega)]; simpa using h49))), trivial⟩ rfl rfl
     ·refine go 7 ?_
      refine cb rfl (fun h55 p55 => ?_) (fun h55 p55 => ?_)
      ·refine go 9 ?_
       refine fin2 rfl rfl rfl ?_
       exact q_i ⟨_, rfl, fun h => absurd h p55⟩
      ·have h0 : (casE c l (ownF l R p)) = 0 := by simpa using h55
       refine go 4 ?_
       refine sx_pub (fun Ig13 jg13 cg13 => ?_)
       have Ro := Ro.le jg13
       have hw44 := hw44.le jg13
       refine sx_pub (fun Ig10 jg10 cg10 => ?_)
       have Ro := Ro.le jg10
       have hw44 := hw44.le jg10
       have cg13 := cg13.le jg10
       refine sx_pub (fun Ig4 jg4 cg4 => ?_)
       have Ro := Ro.le jg4
       have hw44 := hw44.le jg4
       have cg13 := cg13.le jg4
       have cg10 := cg10.le jg4
       refine bring1 ?_
       refine sx_pub (fun Ig7 jg7 cg7 => ?_)
       have Ro := Ro.le jg7
       have hw44 := hw44.le jg7
       have cg13 := cg13.le jg7
       have cg10 := cg10.le jg7
       have cg4 := cg4.le jg7
       refine sx_pub (fun Ig6 jg6 cg6 => ?_)
       have Ro := Ro.le jg6
       have hw44 := hw44.le jg6
       have cg13 := cg13.le jg6
       have cg10 := cg10.le jg6
       have cg4 := cg4.le jg6
       have cg7 := cg7.le jg6
       refine o_v rfl (v_makeFunc rfl rfl) ?_
       refine go 5 ?_
       refine fin2 rfl rfl rfl ?_
       exact q_i ⟨_, by rw [h0], fun _ => ⟨_, _, g13, g10, g4, g7, g6, rfl, hw44, Ro, cg13, cg10, cg4, cg7, cg6⟩⟩

theorem plShownP (I : IMap) (vc : Value) (c : List Kind) (hvc : RdS I vc c) (hsc : SmC c) (v : Value) (l : List Rep) (hv : RdS I v l) (hl : l.length ≤ 1000000) (hsl : ∀ r ∈ l, ∀ e ∈ r.options, SmE e) (R : Nat → Nat) (hRt : Rts l R) (p : ByteArray) (day : Int) (F : FuncId) (cs : List Value) (f : List Part → Plc) (hsh : ∀ J, ILe I J → ∀ w s, RdS J w s → FnV Tryz.prog F ([Value.agg #[w]] ++ cs).toArray J (.agg (f s).cells.toArray)) :
    FnI Tryz.prog 53 #[.agg #[vc], v, .string p, .int .i64 (day), .func (.func F) #[] cs.toArray, .func (.func 55) #[] #[]] I (fun u J => ∃ w, u = .tuple #[w, .int .i64 (shwF plcLt f c l (ownF l R p) p day).2] ∧ RdS J w (shwF plcLt f c l (ownF l R p) p day).1) := by
 refine enter Tryz.func53 Tryz.call53 rfl Tryz.ntmps53 rfl (fun w0 => ?_)
 refine go 3 ?_
 refine o_box _ rfl rfl rfl (fun g6 => ?_)
 refine go 1 ?_
 refine o_box _ rfl rfl rfl (fun g10 => ?_)
 refine go 11 ?_
 refine o_call (plCases _ vc c hvc hsc v l hv hl hsl R hRt p day) rfl rfl (fun v23 I23 j23 q23 => ?_)
 try have hvc := hvc.le j23
 obtain ⟨F23, rfl, hF23⟩ := q23
 refine go 14 ?_
 refine cb rfl (fun h27 p27 => ?_) (fun h27 p27 => ?_)
 ·refine go 9 ?_
  refine fin2 rfl rfl rfl ?_
  exact q_i ⟨_, by rw [shw_ne p27]; rfl, by rw [shw_ne p27]; exact RdS.nil'⟩
 ·have h0 : (casE c l (ownF l R p)) = 0 := by simpa using h27
  obtain ⟨a, w2, ga, gw, gc, gd, gp, rfl, ra, rw2, ka, kw, kc, kd, kp⟩ := hF23 h0
  refine go 5 ?_
  refine o_map0 (encPlc) he rfl (fun r29 => ?_)
  refine go 1 ?_
  refine o_alloc he rfl (fun g16 => ?_)
  refine go 1 ?_
  refine o_stw _ he rfl rfl rfl rfl rfl rfl ?_
  refine go 9 ?_
  refine bring2 ?_
  refine bring2 ?_
  refine bring2 ?_
  refine c_range (σ := List (Plc × Value)) (ps := [31]) [] (fun kvs => [.blk g16 178 [.map (some r29)], .mp r29 (emap encPlc kvs), .blk g10 103 [.func (.func F) #[] cs.toArray]]) (fun pre I kvs => KeysG kvs (pre.map f)) (fun _ _ _ _ => False) rfl Tryz.call175 (plIt _ vc c hvc hsc w2 (ownF l R p) rw2 (Nat.le_trans own_len hl) (fun r hr => hsl r (own_mem hr)) a (allF c (ownF l R p) 4096).1 ra p day ga gw gc gd gp ka kw kc kd kp) (fun I vs x h => by obtain ⟨w, rfl, _⟩ := h; rfl) rfl (fun pre I I' s hI h => h) (fun _ _ _ _ _ _ h => h) (KeysG.nil) rfl ?_ ?_ ?_
  ·rintro r E1 pre s vs I1 kvs hI1 hK ⟨w, rfl, hw⟩ _
   refine sx_exp3 ?_
   refine go 2 ?_
   refine o_alloc he rfl (fun g17 => ?_)
   refine go 1 ?_
   refine o_stw _ he rfl rfl rfl rfl rfl (by simp [RdS.one hw]) ?_
   refine go 1 ?_
   refine bring1 ?_
   refine r_begin ?_
   refine go 1 ?_
   refine bring4 ?_
   refine d_start1 T.mixed ?_
   refine d_tv 0 rfl rfl (by kernel_rfl) rfl (.cons _ (.refl _)) rfl (v_ld m3 he rfl rfl) ?_
   refine d_tv 1 rfl rfl (by kernel_rfl) rfl (.cons _ (.refl _)) rfl (v_ld m4 he rfl rfl) ?_
   refine d_tv 2 rfl rfl (by kernel_rfl) rfl (.cons _ (.refl _)) rfl (v_ldw m1 he rfl rfl) ?_
   refine d_one 3 (by kernel_rfl) rfl ?_
   refine o_callV (hsh _ (j23.trans hI1) w s hw) rfl rfl ?_
   refine d_on (fun _ m => m.keeps (.cons _ (.refl _))) ?_
   refine d_one 4 (by kernel_rfl) rfl ?_
   refine o_mapPut (mput kvs (f s) (.bool true)) (keyPlc) he (f s) rfl rfl rfl (rfl) ?_
   refine d_on (fun _ m => m.keeps (.cons _ (.refl _))) ?_
   refine d_done (by kernel_rfl) ?_
   refine go 1 ?_
   refine bring2 ?_
   refine sx_drop ?_
   refine bring4 ?_
   refine bring1 ?_
   refine bring4 ?_
   refine bring4 ?_
   refine bring4 ?_
   exact r_next ((mput kvs (f s) (.bool true))) (hI1) ((by rw [List.map_append]; exact hK.put)) rfl
  ·rintro D pre I1 kvs hI1 rfl hK
   rw [casTo_all] at hK
   have hkl := hK.len
   rw [List.length_map] at hkl
   have hkc := casL_len (c := c) (own := (ownF l R p)) (p := p) (day := day)
   refine sx_app3 ?_
   refine go 6 ?_
   refine o_v rfl (v_len_map m2 he rfl) ?_
   refine go 3 ?_
   refine cb rfl (fun h38 p38 => ?_) (fun h38 p38 => ?_)
   ·refine go 8 ?_
    refine q_mark ?_
    refine fin2 rfl rfl rfl ?_
    have hz : casL c (ownF l R p) p day = [] := by
      have h1 : kvs.length = 0 := by simpa [emap] using p38
      simpa using hK.zero_iff.1 h1
    exact q_i ⟨_, by rw [shw_nil h0 hz], by rw [shw_nil h0 hz]; exact RdS.nil'⟩
   ·have hnz : casL c (ownF l R p) p day ≠ [] := fun e => by
      rw [e] at hK
      have h1 := hK.zero_iff.2 rfl
      exact p38 (by simp [emap, h1])
    refine bring2 ?_
    refine sx_openmap (fun S1 hO2 hT2 hS2 => ?_)
    refine sx_pubmap (fun I8 j8 hmp => ?_)
    refine go 6 ?_
    refine o_call (keysCP _ r29) rfl rfl (fun v40 I40 j40 q40 => ?_)
    obtain ⟨g40, rfl, cg40⟩ := q40
    refine go 2 ?_
    refine o_call (sortedFP _ g40 (kvs.map Prod.fst) (by rw [List.length_map]; omega) (by rw [List.length_map]; exact keysItP _ S1 r29 kvs hO2 hT2 hS2 g40 cg40 (j40 _ _ hmp))) rfl rfl (fun v42 I42 j42 q42 => ?_)
    obtain ⟨m, q42, hsr⟩ := q42
    refine go 5 ?_
    refine q_mark ?_
    refine fin2 rfl rfl rfl ?_
    have e := shown_plc hK hsr
    exact q_i ⟨_, by rw [shw_of h0 hnz], by rw [shw_of h0 hnz, ← e]; exact q42⟩
  ·rintro D pre I1 s cd hI1 hpart h
   exact h.elim

theorem plShownT (I : IMap) (vc : Value) (c : List Kind) (hvc : RdS I vc c) (hsc : SmC c) (v : Value) (l : List Rep) (hv : RdS I v l) (hl : l.length ≤ 1000000) (hsl : ∀ r ∈ l, ∀ e ∈ r.options, SmE e) (R : Nat → Nat) (hRt : Rts l R) (p : ByteArray) (day : Int) (F : FuncId) (cs : List Value) (f : List Part → ByteArray) (hsh : ∀ J, ILe I J → ∀ w s, RdS J w s → FnV Tryz.prog F ([Value.agg #[w]] ++ cs).toArray J (.string (f s))) :
    FnI Tryz.prog 61 #[.agg #[vc], v, .string p, .int .i64 (day), .func (.func F) #[] cs.toArray, .func (.func 57) #[] #[]] I (fun u J => ∃ w, u = .tuple #[w, .int .i64 (shwF sLt f c l (ownF l R p) p day).2] ∧ RdS J w (shwF sLt f c l (ownF l R p) p day).1) := by
 refine enter Tryz.func61 Tryz.call61 rfl Tryz.ntmps61 rfl (fun w0 => ?_)
 refine go 3 ?_
 refine o_box _ rfl rfl rfl (fun g6 => ?_)
 refine go 1 ?_
 refine o_box _ rfl rfl rfl (fun g10 => ?_)
 refine go 11 ?_
 refine o_call (plCases _ vc c hvc hsc v l hv hl hsl R hRt p day) rfl rfl (fun v23 I23 j23 q23 => ?_)
 try have hvc := hvc.le j23
 obtain ⟨F23, rfl, hF23⟩ := q23
 refine go 14 ?_
 refine cb rfl (fun h27 p27 => ?_) (fun h27 p27 => ?_)
 ·refine go 9 ?_
  refine fin2 rfl rfl rfl ?_
  exact q_i ⟨_, by rw [shw_ne p27]; rfl, by rw [shw_ne p27]; exact RdS.nil'⟩
 ·have h0 : (casE c l (ownF l R p)) = 0 := by simpa using h27
  obtain ⟨a, w2, ga, gw, gc, gd, gp, rfl, ra, rw2, ka, kw, kc, kd, kp⟩ := hF23 h0
  refine go 5 ?_
  refine o_map0 (Value.string) he rfl (fun r29 => ?_)
  refine go 1 ?_
  refine o_alloc he rfl (fun g16 => ?_)
  refine go 1 ?_
  refine o_stw _ he rfl rfl rfl rfl rfl rfl ?_
  refine go 9 ?_
  refine bring2 ?_
  refine bring2 ?_
  refine bring2 ?_
  refine c_range (σ := List (ByteArray × Value)) (ps := [31]) [] (fun kvs => [.blk g16 184 [.map (some r29)], .mp r29 (emap Value.string kvs), .blk g10 111 [.func (.func F) #[] cs.toArray]]) (fun pre I kvs => KeysG kvs (pre.map f)) (fun _ _ _ _ => False) rfl Tryz.call175 (plIt _ vc c hvc hsc w2 (ownF l R p) rw2 (Nat.le_trans own_len hl) (fun r hr => hsl r (own_mem hr)) a (allF c (ownF l R p) 4096).1 ra p day ga gw gc gd gp ka kw kc kd kp) (fun I vs x h => by obtain ⟨w, rfl, _⟩ := h; rfl) rfl (fun pre I I' s hI h => h) (fun _ _ _ _ _ _ h => h) (KeysG.nil) rfl ?_ ?_ ?_
  ·rintro r E1 pre s vs I1 kvs hI1 hK ⟨w, rfl, hw⟩ _
   refine sx_exp3 ?_
   refine go 2 ?_
   refine o_alloc he rfl (fun g17 => ?_)
   refine go 1 ?_
   refine o_stw _ he rfl rfl rfl rfl rfl (by simp [RdS.one hw]) ?_
   refine go 1 ?_
   refine bring1 ?_
   refine r_begin ?_
   refine go 1 ?_
   refine bring4 ?_
   refine d_start1 T.mixed ?_
   refine d_tv 0 rfl rfl (by kernel_rfl) rfl (.cons _ (.refl _)) rfl (v_ld m3 he rfl rfl) ?_
   refine d_tv 1 rfl rfl (by kernel_rfl) rfl (.cons _ (.refl _)) rfl (v_ld m4 he rfl rfl) ?_
   refine d_tv 2 rfl rfl (by kernel_rfl) rfl (.cons _ (.refl _)) rfl (v_ldw m1 he rfl rfl) ?_
   refine d_one 3 (by kernel_rfl) rfl ?_
   refine o_callV (hsh _ (j23.trans hI1) w s hw) rfl rfl ?_
   refine d_on (fun _ m => m.keeps (.cons _ (.refl _))) ?_
   refine d_one 4 (by kernel_rfl) rfl ?_
   refine o_mapPut (mput kvs (f s) (.bool true)) (key_string he) he (f s) rfl rfl rfl (rfl) ?_
   refine d_on (fun _ m => m.keeps (.cons _ (.refl _))) ?_
   refine d_done (by kernel_rfl) ?_
   refine go 1 ?_
   refine bring2 ?_
   refine sx_drop ?_
   refine bring4 ?_
   refine bring1 ?_
   refine bring4 ?_
   refine bring4 ?_
   refine bring4 ?_
   exact r_next ((mput kvs (f s) (.bool true))) (hI1) ((by rw [List.map_append]; exact hK.put)) rfl
  ·rintro D pre I1 kvs hI1 rfl hK
   rw [casTo_all] at hK
   have hkl := hK.len
   rw [List.length_map] at hkl
   have hkc := casL_len (c := c) (own := (ownF l R p)) (p := p) (day := day)
   refine sx_app3 ?_
   refine go 6 ?_
   refine o_v rfl (v_len_map m2 he rfl) ?_
   refine go 3 ?_
   refine cb rfl (fun h38 p38 => ?_) (fun h38 p38 => ?_)
   ·refine go 8 ?_
    refine q_mark ?_
    refine fin2 rfl rfl rfl ?_
    have hz : casL c (ownF l R p) p day = [] := by
      have h1 : kvs.length = 0 := by simpa [emap] using p38
      simpa using hK.zero_iff.1 h1
    exact q_i ⟨_, by rw [shw_nil h0 hz], by rw [shw_nil h0 hz]; exact RdS.nil'⟩
   ·have hnz : casL c (ownF l R p) p day ≠ [] := fun e => by
      rw [e] at hK
      have h1 := hK.zero_iff.2 rfl
      exact p38 (by simp [emap, h1])
    refine bring2 ?_
    refine sx_openmap (fun S1 hO2 hT2 hS2 => ?_)
    refine sx_pubmap (fun I8 j8 hmp => ?_)
    refine go 6 ?_
    refine o_call (keysCT _ r29) rfl rfl (fun v40 I40 j40 q40 => ?_)
    obtain ⟨g40, rfl, cg40⟩ := q40
    refine go 2 ?_
    refine o_call (sortedFT _ g40 (kvs.map Prod.fst) (by rw [List.length_map]; omega) (by rw [List.length_map]; exact keysItT _ S1 r29 kvs hO2 hT2 hS2 g40 cg40 (j40 _ _ hmp))) rfl rfl (fun v42 I42 j42 q42 => ?_)
    obtain ⟨m, q42, hsr⟩ := q42
    refine go 5 ?_
    refine q_mark ?_
    refine fin2 rfl rfl rfl ?_
    have e := shown_str hK hsr
    exact q_i ⟨_, by rw [shw_of h0 hnz], by rw [shw_of h0 hnz, ← e]; exact q42⟩
  ·rintro D pre I1 s cd hI1 hpart h
   exact h.elim

theorem plOf (I : IMap) (vc : Value) (c : List Kind) (hvc : RdS I vc c) (hsc : SmC c) (v : Value) (l : List Rep) (hv : RdS I v l) (hl : l.length ≤ 1000000) (hsl : ∀ r ∈ l, ∀ e ∈ r.options, SmE e) (R : Nat → Nat) (hRt : Rts l R) (p : ByteArray) (day : Int)  :
    FnI Tryz.prog 18 #[.agg #[vc], v, .string p, .int .i64 (day)] I (fun u J => ∃ w, u = .tuple #[w, .int .i64 (shwF plcLt (plcOf p) c l (ownF l R p) p day).2] ∧ RdS J w (shwF plcLt (plcOf p) c l (ownF l R p) p day).1) := by
 refine enter Tryz.func18 Tryz.call18 rfl Tryz.ntmps18 rfl (fun w0 => ?_)
 refine go 3 ?_
 refine o_box _ rfl rfl rfl (fun g4 => ?_)
 refine go 1 ?_
 refine o_box _ rfl rfl rfl (fun g6 => ?_)
 refine go 10 ?_
 refine o_v rfl (v_makeFunc rfl rfl) ?_
 refine go 1 ?_
 refine sx_pub (fun Ig6 jg6 cg6 => ?_)
 try have hvc := hvc.le jg6
 try have hv := hv.le jg6
 try have cg6 := cg6.le jg6
 try have cg7 := cg7.le jg6
 try have cg8 := cg8.le jg6
 refine o_call (plShownP _ vc c hvc hsc v l hv hl hsl R hRt p day 54 [.pointer (some ⟨g6, 0, none⟩)] (plcOf p) (fun J hJ w s hs => plShowOf J w s hs p g6 (cg6.le hJ))) rfl rfl (fun v15 I15 j15 q15 => ?_)
 try have hvc := hvc.le j15
 try have hv := hv.le j15
 try have cg6 := cg6.le j15
 try have cg7 := cg7.le j15
 try have cg8 := cg8.le j15
 obtain ⟨w15, rfl, hw15⟩ := q15
 refine go 7 ?_
 refine fin2 rfl rfl rfl ?_
 exact q_i ⟨_, rfl, hw15⟩

theorem plRoots (I : IMap) (vc : Value) (c : List Kind) (hvc : RdS I vc c) (hsc : SmC c) (v : Value) (l : List Rep) (hv : RdS I v l) (hl : l.length ≤ 1000000) (hsl : ∀ r ∈ l, ∀ e ∈ r.options, SmE e) (R : Nat → Nat) (hRt : Rts l R) (p : ByteArray) (day : Int)  :
    FnI Tryz.prog 22 #[.agg #[vc], v, .string p, .int .i64 (day)] I (fun u J => ∃ w, u = .tuple #[w, .int .i64 (shwF sLt (rootF p) c l (ownF l R p) p day).2] ∧ RdS J w (shwF sLt (rootF p) c l (ownF l R p) p day).1) := by
 refine enter Tryz.func22 Tryz.call22 rfl Tryz.ntmps22 rfl (fun w0 => ?_)
 refine go 3 ?_
 refine o_box _ rfl rfl rfl (fun g4 => ?_)
 refine go 1 ?_
 refine o_box _ rfl rfl rfl (fun g6 => ?_)
 refine go 10 ?_
 refine o_v rfl (v_makeFunc rfl rfl) ?_
 refine go 1 ?_
 refine sx_pub (fun Ig6 jg6 cg6 => ?_)
 try have hvc := hvc.le jg6
 try have hv := hv.le jg6
 try have cg6 := cg6.le jg6
 try have cg7 := cg7.le jg6
 try have cg8 := cg8.le jg6
 refine o_call (plShownT _ vc c hvc hsc v l hv hl hsl R hRt p day 63 [.pointer (some ⟨g6, 0, none⟩)] (rootF p) (fun J hJ w s hs => plShowRoot J w s hs p g6 (cg6.le hJ))) rfl rfl (fun v15 I15 j15 q15 => ?_)
 try have hvc := hvc.le j15
 try have hv := hv.le j15
 try have cg6 := cg6.le j15
 try have cg7 := cg7.le j15
 try have cg8 := cg8.le j15
 obtain ⟨w15, rfl, hw15⟩ := q15
 refine go 7 ?_
 refine fin2 rfl rfl rfl ?_
 exact q_i ⟨_, rfl, hw15⟩

theorem plOcc (I : IMap) (vc : Value) (c : List Kind) (hvc : RdS I vc c) (hsc : SmC c) (v : Value) (l : List Rep) (hv : RdS I v l) (hl : l.length ≤ 1000000) (hsl : ∀ r ∈ l, ∀ e ∈ r.options, SmE e) (R : Nat → Nat) (hRt : Rts l R) (p z : ByteArray) (day : Int)  :
    FnI Tryz.prog 20 #[.agg #[vc], v, .string p, .string z, .int .i64 (day)] I (fun u J => ∃ w, u = .tuple #[w, .int .i64 (shwF sLt (occOf p z) c l (ownF l R p) p day).2] ∧ RdS J w (shwF sLt (occOf p z) c l (ownF l R p) p day).1) := by
 refine enter Tryz.func20 Tryz.call20 rfl Tryz.ntmps20 rfl (fun w0 => ?_)
 refine go 3 ?_
 refine o_box _ rfl rfl rfl (fun g5 => ?_)
 refine go 1 ?_
 refine o_box _ rfl rfl rfl (fun g7 => ?_)
 refine go 1 ?_
 refine o_box _ rfl rfl rfl (fun g8 => ?_)
 refine go 10 ?_
 refine o_v rfl (v_makeFunc rfl rfl) ?_
 refine go 1 ?_
 refine bring1 ?_
 refine sx_pub (fun Ig7 jg7 cg7 => ?_)
 try have hvc := hvc.le jg7
 try have hv := hv.le jg7
 try have cg6 := cg6.le jg7
 try have cg7 := cg7.le jg7
 try have cg8 := cg8.le jg7
 refine sx_pub (fun Ig8 jg8 cg8 => ?_)
 try have hvc := hvc.le jg8
 try have hv := hv.le jg8
 try have cg6 := cg6.le jg8
 try have cg7 := cg7.le jg8
 try have cg8 := cg8.le jg8
 refine o_call (plShownT _ vc c hvc hsc v l hv hl hsl R hRt p day 62 [.pointer (some ⟨g7, 0, none⟩), .pointer (some ⟨g8, 0, none⟩)] (occOf p z) (fun J hJ w s hs => plShowOcc J w s hs p z g7 g8 (cg7.le hJ) (cg8.le hJ))) rfl rfl (fun v17 I17 j17 q17 => ?_)
 try have hvc := hvc.le j17
 try have hv := hv.le j17
 try have cg6 := cg6.le j17
 try have cg7 := cg7.le j17
 try have cg8 := cg8.le j17
 obtain ⟨w17, rfl, hw17⟩ := q17
 refine go 7 ?_
 refine fin2 rfl rfl rfl ?_
 exact q_i ⟨_, rfl, hw17⟩

end Go.Proofs.YtdapmfkbpnjkmaaGreat

/- What the laws of places call beside. -/
set_option linter.all false
namespace Go.Sx
open Go
def few19 (c : List Kind) (l : List Rep) : Bool := fewC c && few16 l 60
theorem few19_sm {c : List Kind} {l : List Rep} (h : few19 c l = true) : SmC c ∧ l.length ≤ 12 ∧ (∀ r ∈ l, ∀ e ∈ r.options, SmE e) ∧ waysN l ≤ 60 := by
  simp only [few19, Bool.and_eq_true] at h
  obtain ⟨h1, h2⟩ := few16_sm h.2
  have h3 := fewR_sm h1
  exact ⟨fewC_sm h.1, by have := h3.2; omega, h3.1, by omega⟩
def shortN (l : List ByteArray) : Int := l.foldl (fun n s => n + min ((s.size : Nat) : Int) 301) 0
def shortF (l : List ByteArray) : Bool := decide (shortN l ≤ 300)
theorem short_step {l : List ByteArray} {i : Nat} (hi : i < l.length) : shortN (l.take (i + 1)) = shortN (l.take i) + min ((l[i].size : Nat) : Int) 301 := by
  unfold shortN
  rw [← take_succ_of hi, List.foldl_append]; rfl
theorem short_bd {l : List ByteArray} : ∀ i, i ≤ l.length → 0 ≤ shortN (l.take i) ∧ shortN (l.take i) ≤ 301 * i
  | 0, _ => by simp [shortN]
  | i + 1, h => by
    have ih := short_bd (l := l) i (by omega)
    rw [short_step (by omega : i < l.length)]
    omega
section
variable {α : Type} [DecidableEq α] {lt : α → α → Bool} {l : List α} {s : α} {i : Nat}
theorem ins_skip (hi : i < l.length) (hn : insU lt s l = l.take i ++ insU lt s (l.drop i)) (h : lt l[i] s = true) : insU lt s l = l.take (i + 1) ++ insU lt s (l.drop (i + 1)) := by
  rw [hn, List.drop_eq_getElem_cons hi, ← take_succ_of hi, List.append_assoc]
  congr 1
  show insU lt s (l[i] :: _) = _
  rw [insU, if_pos h]; rfl
theorem ins_end (hi : ¬ i < l.length) (hn : insU lt s l = l.take i ++ insU lt s (l.drop i)) : insU lt s l = l.take i ++ [s] ++ l.drop i := by
  rw [hn, List.drop_eq_nil_of_le (by omega), insU, List.append_nil]
theorem ins_same (hi : i < l.length) (hn : insU lt s l = l.take i ++ insU lt s (l.drop i)) (h : ¬ lt l[i] s = true) (h2 : l[i] = s) : insU lt s l = l := by
  rw [hn, List.drop_eq_getElem_cons hi, insU, if_neg h, if_pos h2]
  rw [← List.drop_eq_getElem_cons hi, List.take_append_drop]
theorem ins_put (hi : i < l.length) (hn : insU lt s l = l.take i ++ insU lt s (l.drop i)) (h : ¬ lt l[i] s = true) (h2 : ¬ l[i] = s) : insU lt s l = l.take i ++ [s] ++ l.drop i := by
  rw [hn, List.drop_eq_getElem_cons hi, insU, if_neg h, if_neg h2]
  rw [List.append_assoc]; rfl
end
theorem all_ath {c : List Kind} {own : List Rep} {i : Nat} (hi : i < (allF c own 4096).1.length) : (allF c own 4096).2 = 0 ∧ (allF c own 4096).1[i] ∈ histF c own := by
  have h0 : (allF c own 4096).2 = 0 := by
    refine Decidable.by_contra fun h => ?_
    have := all_nil_of h
    rw [this] at hi; cases hi
  obtain ⟨_, _, h1⟩ := all_ok (by omega) (by omega) h0
  have h2 := List.getElem_mem hi
  exact ⟨h0, List.mem_of_mem_take (i := (4096 : Int).toNat) (by rw [← h1]; exact h2)⟩
theorem case_ok {c : List Kind} {own : List Rep} {t : List Int} (ht : t ∈ histF c own) (day : Int) : (pickedF own t).2 = 0 ∧ (atF11 c (pickedF own t).1 day).2.2 = 0 := by
  rw [(hist_evs ht).1]
  exact ⟨rfl, (hist_case ht day).at0⟩
end Go.Sx

/- Walks, printed by a program out of the code of the functions: each theorem is a contract of one function. -/
namespace Go.Proofs.YtdapmfkbpnjkmaaGreat
open Go Go.Sx
set_option linter.all false
set_option maxRecDepth 20000
set_option maxHeartbeats 4000000
instance T.by_53 : Has (bytesK Tryz.prog 53) ([.slice none 0 0], 1, 24) := ⟨by kernel_rfl⟩
instance T.elt_40 : Has (eltK Tryz.prog 40) (53, 1) := ⟨by kernel_rfl⟩
instance T.pl_64 : Has (plK Tryz.prog 64) [(0, 1), (1, 1)] := ⟨by kernel_rfl⟩
instance T.und_40 : Has (Tryz.prog.underlying 40) (.slice 53) := ⟨by kernel_rfl⟩
theorem law19few (I : IMap) (vc : Value) (c : List Kind) (hvc : RdS I vc c) (v : Value) (l : List Rep) (hv : RdS I v l) :
    FnV Tryz.prog 16 #[.agg #[vc], v] I (.bool (few19 c l)) := by
 refine enter Tryz.func16 Tryz.call16 rfl Tryz.ntmps16 rfl (fun w0 => ?_)
 refine go 3 ?_
 refine o_box _ rfl rfl rfl (fun g2 => ?_)
 refine go 7 ?_
 refine o_callV (refFew _ vc c hvc) rfl rfl ?_
 refine go 1 ?_
 refine sxb 7 rfl (fun h7 p7 => ?_) (fun h7 p7 => ?_)
 ·refine go 2 ?_
  refine o_yes rfl rfl h7 (o_callV (ref16Few _ v l hv 60 (by omega)) rfl rfl ?_)
  refine go 5 ?_
  refine fin1 rfl rfl ?_
  exact q_v (congrArg Value.bool (by simp only [few19, h7, bS]))
 ·refine go 7 ?_
  refine fin1 rfl rfl ?_
  exact q_v (congrArg Value.bool (by simp only [few19, h7, bS]))

theorem law19short (I : IMap) (v : Value) (l : List ByteArray) (hv : RdS I v l) (hl : l.length ≤ 1000) :
    FnV Tryz.prog 17 #[v] I (.bool (shortF l)) := by
 have hv0 := hv
 obtain ⟨A, c0, rfl, hA, hc, hm⟩ := hv
 refine enter Tryz.func17 Tryz.call17 rfl Tryz.ntmps17 rfl (fun w0 => ?_)
 refine go 17 ?_
 refine c_loop (α := Nat) 0 (fun i => I)
  (fun i => [(0, .slice A l.length c0), (3, .int .i64 (shortN (l.take i))), (4, .int .i64 ((i : Nat) : Int))])
  (fun i => [])
  (fun i => i ≤ l.length)
  (fun i => l.length - i) (Nat.zero_le _) rfl sb rfl ?_
 intro i hi
 have hb := short_bd (l := l) i hi
 refine go 9 ?_
 refine cb rfl (fun h8 p8 => ?_) (fun h8 p8 => ?_)
 ·have hlt : i < l.length := by omega
  refine go 8 ?_
  obtain ⟨b14, o14, w14, e14, c14, r14⟩ := RdA.at_ hA (i := i) (by omega)
  obtain rfl := r14
  refine o_v rfl (v_idx he rfl rfl e14 (i) (by omega) (by omega)) ?_
  refine o_v rfl (v_ldI he rfl (c14 0 _ rfl)) ?_
  refine go 1 ?_
  refine o_v rfl (OV.cast (u := .int .i64 (min ((l[i].size : Nat) : Int) 301)) (v_imin rfl rfl) (congrArg (Value.int .i64) (by split <;> omega))) ?_
  refine go 11 ?_
  exact q_next (i + 1) (by omega) (by omega) rfl ⟨rfl, congrArg (fun n : Int => some (Value.int .i64 n)) (short_step hlt).symm, rfl, trivial⟩ rfl
 ·refine go 13 ?_
  refine fin1 rfl rfl ?_
  obtain rfl : i = l.length := by omega
  rw [List.take_length]
  exact q_v rfl

theorem law19in (I : IMap) (v : Value) (l : List ByteArray) (hv : RdS I v l) (s : ByteArray) :
    FnV Tryz.prog 30 #[v, .string s] I (.bool (decide (s ∈ l))) := by
 have hv0 := hv
 obtain ⟨A, c0, rfl, hA, hc, hm⟩ := hv
 refine enter Tryz.func30 Tryz.call30 rfl Tryz.ntmps30 rfl (fun w0 => ?_)
 refine go 12 ?_
 refine c_loop (α := Nat) 0 (fun i => I)
  (fun i => [(0, .slice A l.length c0), (1, .string s), (5, .int .i64 ((i : Nat) : Int))])
  (fun i => [])
  (fun i => i ≤ l.length ∧ s ∉ l.take i)
  (fun i => l.length - i) ⟨Nat.zero_le _, by simp⟩ rfl sb rfl ?_
 intro i ⟨hi, hn⟩
 refine go 9 ?_
 refine cb rfl (fun h9 p9 => ?_) (fun h9 p9 => ?_)
 ·have hlt : i < l.length := by omega
  refine go 8 ?_
  obtain ⟨b14, o14, w14, e14, c14, r14⟩ := RdA.at_ hA (i := i) (by omega)
  obtain rfl := r14
  refine o_v rfl (v_idx he rfl rfl e14 (i) (by omega) (by omega)) ?_
  refine o_v rfl (v_ldI he rfl (c14 0 _ rfl)) ?_
  refine go 4 ?_
  refine cb rfl (fun h17 p17 => ?_) (fun h17 p17 => ?_)
  ·refine go 11 ?_
   refine fin1 rfl rfl ?_
   exact q_v (congrArg Value.bool (decide_eq_true (by rw [← p17]; exact List.getElem_mem hlt)).symm)
  ·refine go 9 ?_
   exact q_next (i + 1) ⟨by omega, fun h => (mem_tk hlt h).elim hn fun h => p17 h.symm⟩ (by omega) rfl sb rfl
 ·refine go 11 ?_
  refine fin1 rfl rfl ?_
  exact q_v (congrArg Value.bool (decide_eq_false (by rwa [List.take_of_length_le (by omega)] at hn)).symm)

theorem law19at (I : IMap) (v : Value) (l : List Plc) (hv : RdS I v l) (s : Plc) :
    FnV Tryz.prog 29 #[v, .agg s.cells.toArray] I (.bool (decide (s ∈ l))) := by
 have hv0 := hv
 obtain ⟨A, c0, rfl, hA, hc, hm⟩ := hv
 refine enter Tryz.func29 Tryz.call29 rfl Tryz.ntmps29 rfl (fun w0 => ?_)
 refine go 3 ?_
 refine o_box _ rfl rfl rfl (fun g3 => ?_)
 refine go 10 ?_
 refine c_loop (α := Nat) 0 (fun i => I)
  (fun i => [(0, .slice A l.length c0), (3, .pointer (some ⟨g3, 0, none⟩)), (5, .int .i64 ((i : Nat) : Int))])
  (fun i => [.blk g3 55 s.cells])
  (fun i => i ≤ l.length ∧ s ∉ l.take i)
  (fun i => l.length - i) ⟨Nat.zero_le _, by simp⟩ rfl sb rfl ?_
 intro i ⟨hi, hn⟩
 refine go 9 ?_
 refine cb rfl (fun h9 p9 => ?_) (fun h9 p9 => ?_)
 ·have hlt : i < l.length := by omega
  refine go 5 ?_
  refine d_startH T.mixed ?_
  refine d_tv 0 rfl rfl (by kernel_rfl) rfl (.refl _) rfl (v_move rfl) ?_
  refine d_tv 1 rfl rfl (by kernel_rfl) rfl (.refl _) rfl (v_move rfl) ?_
  obtain ⟨b14, o14, w14, e14, c14, r14⟩ := RdA.at_ hA (i := i) hlt
  obtain rfl := r14
  refine d_tv 2 rfl rfl (by kernel_rfl) rfl (.refl _) rfl (v_idx he rfl rfl e14 (i) (by omega) hlt) ?_
  refine d_tv 3 rfl rfl (by kernel_rfl) rfl (.refl _) rfl (v_ldIa he rfl c14 rfl) ?_
  refine d_tv 4 rfl rfl (by kernel_rfl) rfl (.refl _) rfl (v_ldw m0 he rfl rfl) ?_
  refine d_tv 5 rfl rfl (by kernel_rfl) rfl (.refl _) rfl (v_steql T.eqg_55 (eqS_Plc l[i] s) rfl rfl) ?_
  refine d_done (by kernel_rfl) ?_
  refine go 1 ?_
  refine cb rfl (fun h17 p17 => ?_) (fun h17 p17 => ?_)
  ·refine go 11 ?_
   refine fin1 rfl rfl ?_
   exact q_v (congrArg Value.bool (decide_eq_true (by rw [← p17]; exact List.getElem_mem hlt)).symm)
  ·refine go 9 ?_
   exact q_next (i + 1) ⟨by omega, fun h => (mem_tk hlt h).elim hn fun h => p17 h.symm⟩ (by omega) rfl sb rfl
 ·refine go 11 ?_
  refine fin1 rfl rfl ?_
  exact q_v (congrArg Value.bool (decide_eq_false (by rwa [List.take_of_length_le (by omega)] at hn)).symm)

theorem ref19Places (I : IMap) (v : Value) (l : List Plc) (hv : RdS I v l) (v2 : Value) (m : List Plc) (hv2 : RdS I v2 m) :
    FnV Tryz.prog 24 #[v, v2] I (.bool (decide (l = m))) := by
 obtain ⟨A, c0, rfl, hA, hc, hm⟩ := hv
 obtain ⟨B, c1, rfl, hB, hc1, hm1⟩ := hv2
 refine enter Tryz.func24 Tryz.call24 rfl Tryz.ntmps24 rfl (fun w0 => ?_)
 refine go 15 ?_
 refine cb rfl (fun h10 p10 => ?_) (fun h10 p10 => ?_)
 ·refine go 7 ?_
  refine fin1 rfl rfl ?_
  exact q_v (congrArg Value.bool (decide_eq_false (by rintro rfl; revert h10; simp)).symm)
 ·have hlm : l.length = m.length := by revert h10; simp; omega
  refine go 9 ?_
  refine c_loop (α := Nat) 0 (fun i => I)
   (fun i => [(0, .slice A l.length c0), (1, .slice B m.length c1), (5, .int .i64 ((i : Nat) : Int))])
   (fun i => [])
   (fun i => i ≤ l.length ∧ l.take i = m.take i)
   (fun i => l.length - i) ⟨Nat.zero_le _, rfl⟩ rfl sb rfl ?_
  intro i ⟨hi, hn⟩
  refine go 9 ?_
  refine cb rfl (fun h14 p14 => ?_) (fun h14 p14 => ?_)
  ·have hlt : i < l.length := by omega
   refine go 5 ?_
   refine d_startH T.mixed ?_
   refine d_tv 0 rfl rfl (by kernel_rfl) rfl .slnil rfl (v_move rfl) ?_
   refine d_tv 1 rfl rfl (by kernel_rfl) rfl .slnil rfl (v_move rfl) ?_
   obtain ⟨b19, o19, w19, e19, c19, r19⟩ := RdA.at_ hA (i := i) hlt
   obtain rfl := r19
   refine d_tv 2 rfl rfl (by kernel_rfl) rfl .slnil rfl (v_idx he rfl rfl e19 (i) (by omega) hlt) ?_
   refine d_tv 3 rfl rfl (by kernel_rfl) rfl .slnil rfl (v_ldIa he rfl c19 rfl) ?_
   refine d_tv 4 rfl rfl (by kernel_rfl) rfl .slnil rfl (v_move rfl) ?_
   refine d_tv 5 rfl rfl (by kernel_rfl) rfl .slnil rfl (v_move rfl) ?_
   obtain ⟨b23, o23, w23, e23, c23, r23⟩ := RdA.at_ hB (i := i) (by omega)
   obtain rfl := r23
   refine d_tv 6 rfl rfl (by kernel_rfl) rfl .slnil rfl (v_idx he rfl rfl e23 (i) (by omega) (by omega)) ?_
   refine d_tv 7 rfl rfl (by kernel_rfl) rfl .slnil rfl (v_ldIa he rfl c23 rfl) ?_
   refine d_tv 8 rfl rfl (by kernel_rfl) rfl .slnil rfl (v_stneq T.eqg_55 (eqS_Plc l[i] m[i]) rfl rfl) ?_
   refine d_done (by kernel_rfl) ?_
   refine go 1 ?_
   refine cb rfl (fun h25 p25 => ?_) (fun h25 p25 => ?_)
   ·refine go 11 ?_
    refine fin1 rfl rfl ?_
    exact q_v (congrArg Value.bool (same_no hlt (by omega) (by simpa using p25)).symm)
   ·refine go 9 ?_
    exact q_next (i + 1) ⟨by omega, same_next hlt (by omega) hn (by simpa using p25)⟩ (by omega) rfl sb rfl
  ·refine go 11 ?_
   refine fin1 rfl rfl ?_
   exact q_v (congrArg Value.bool (decide_eq_true (same_end hlm (by omega) hn)).symm)

theorem ref19Places_t (I : IMap) (v : Value) (l : List Plc) (hv : RdS I v l) (v2 : Value) (m : List Plc) (hv2 : RdS I v2 m) (h : l = m) : FnV Tryz.prog 24 #[v, v2] I (.bool true) := by
  have := ref19Places I v l hv v2 m hv2
  rwa [decide_eq_true h] at this

theorem ref01Same (I : IMap) (v : Value) (l : List ByteArray) (hv : RdS I v l) (v2 : Value) (m : List ByteArray) (hv2 : RdS I v2 m) :
    FnV Tryz.prog 25 #[v, v2] I (.bool (decide (l = m))) := by
 obtain ⟨A, c0, rfl, hA, hc, hm⟩ := hv
 obtain ⟨B, c1, rfl, hB, hc1, hm1⟩ := hv2
 refine enter Tryz.func25 Tryz.call25 rfl Tryz.ntmps25 rfl (fun w0 => ?_)
 refine go 15 ?_
 refine cb rfl (fun h10 p10 => ?_) (fun h10 p10 => ?_)
 ·refine go 7 ?_
  refine fin1 rfl rfl ?_
  exact q_v (congrArg Value.bool (decide_eq_false (by rintro rfl; revert h10; simp)).symm)
 ·have hlm : l.length = m.length := by revert h10; simp; omega
  refine go 9 ?_
  refine c_loop (α := Nat) 0 (fun i => I)
   (fun i => [(0, .slice A l.length c0), (1, .slice B m.length c1), (5, .int .i64 ((i : Nat) : Int))])
   (fun i => [])
   (fun i => i ≤ l.length ∧ l.take i = m.take i)
   (fun i => l.length - i) ⟨Nat.zero_le _, rfl⟩ rfl sb rfl ?_
  intro i ⟨hi, hn⟩
  refine go 9 ?_
  refine cb rfl (fun h14 p14 => ?_) (fun h14 p14 => ?_)
  ·have hlt : i < l.length := by omega
   refine go 5 ?_
   refine d_startH T.mixed ?_
   refine d_tv 0 rfl rfl (by kernel_rfl) rfl .slnil rfl (v_move rfl) ?_
   refine d_tv 1 rfl rfl (by kernel_rfl) rfl .slnil rfl (v_move rfl) ?_
   obtain ⟨b19, o19, w19, e19, c19, r19⟩ := RdA.at_ hA (i := i) hlt
   obtain rfl := r19
   refine d_tv 2 rfl rfl (by kernel_rfl) rfl .slnil rfl (v_idx he rfl rfl e19 (i) (by omega) hlt) ?_
   refine d_tv 3 rfl rfl (by kernel_rfl) rfl .slnil rfl (v_ldI he rfl (c19 0 _ rfl)) ?_
   refine d_tv 4 rfl rfl (by kernel_rfl) rfl .slnil rfl (v_move rfl) ?_
   refine d_tv 5 rfl rfl (by kernel_rfl) rfl .slnil rfl (v_move rfl) ?_
   obtain ⟨b23, o23, w23, e23, c23, r23⟩ := RdA.at_ hB (i := i) (by omega)
   obtain rfl := r23
   refine d_tv 6 rfl rfl (by kernel_rfl) rfl .slnil rfl (v_idx he rfl rfl e23 (i) (by omega) (by omega)) ?_
   refine d_tv 7 rfl rfl (by kernel_rfl) rfl .slnil rfl (v_ldI he rfl (c23 0 _ rfl)) ?_
   refine d_tv 8 rfl rfl (by kernel_rfl) rfl .slnil rfl (v_sneq rfl rfl) ?_
   refine d_done (by kernel_rfl) ?_
   refine go 1 ?_
   refine cb rfl (fun h25 p25 => ?_) (fun h25 p25 => ?_)
   ·refine go 11 ?_
    refine fin1 rfl rfl ?_
    exact q_v (congrArg Value.bool (same_no hlt (by omega) (by simpa using p25)).symm)
   ·refine go 9 ?_
    exact q_next (i + 1) ⟨by omega, same_next hlt (by omega) hn (by simpa using p25)⟩ (by omega) rfl sb rfl
  ·refine go 11 ?_
   refine fin1 rfl rfl ?_
   exact q_v (congrArg Value.bool (decide_eq_true (same_end hlm (by omega) hn)).symm)

theorem ref01Same_t (I : IMap) (v : Value) (l : List ByteArray) (hv : RdS I v l) (v2 : Value) (m : List ByteArray) (hv2 : RdS I v2 m) (h : l = m) : FnV Tryz.prog 25 #[v, v2] I (.bool true) := by
  have := ref01Same I v l hv v2 m hv2
  rwa [decide_eq_true h] at this

theorem law19in_t (I : IMap) (v : Value) (l : List ByteArray) (hv : RdS I v l) (s : ByteArray) (h : s ∈ l) : FnV Tryz.prog 30 #[v, .string s] I (.bool true) := by
  have := law19in I v l hv s
  rwa [decide_eq_true h] at this

theorem law19at_t (I : IMap) (v : Value) (l : List Plc) (hv : RdS I v l) (s : Plc) (h : s ∈ l) : FnV Tryz.prog 29 #[v, .agg s.cells.toArray] I (.bool true) := by
  have := law19at I v l hv s
  rwa [decide_eq_true h] at this

theorem ref19PutS (I : IMap) (v : Value) (l : List ByteArray) (hv : RdS I v l) (hl : l.length ≤ 1000000) (s : ByteArray) :
    FnI Tryz.prog 31 #[v, .string s] I (fun u J => RdS J u (insU sLt s l)) := by
 have hv0 := hv
 obtain ⟨A, c0, rfl, hA, hc, hm⟩ := hv
 refine enter Tryz.func31 Tryz.call31 rfl Tryz.ntmps31 rfl (fun w0 => ?_)
 refine go 11 ?_
 refine c_cutx (α := Nat) (Ix := (fun i => I)) (Lx := (fun i => [(0, .slice A l.length c0), (1, .string s), (5, .int .i64 ((i : Nat) : Int))])) (Hx := (fun i => [])) (p := (fun i => i ≤ l.length ∧ insU sLt s l = l.take i ++ insU sLt s (l.drop i) ∧ ∀ h : i < l.length, ¬ sLt l[i] s = true)) ?_ ?_
 ·refine go 1 ?_
  refine c_loop (α := Nat) 0 (fun i => I)
   (fun i => [(0, .slice A l.length c0), (1, .string s), (5, .int .i64 ((i : Nat) : Int))])
   (fun i => [])
   (fun i => i ≤ l.length ∧ insU sLt s l = l.take i ++ insU sLt s (l.drop i))
   (fun i => l.length - i) ⟨Nat.zero_le _, rfl⟩ rfl sb rfl ?_
  intro i ⟨hi, hn⟩
  refine go 8 ?_
  refine sxb 10 rfl (fun h10 p10 => ?_) (fun h10 p10 => ?_)
  ·have hlt : i < l.length := by omega
   refine go 2 ?_
   obtain ⟨b13, o13, w13, e13, c13, r13⟩ := RdA.at_ hA (i := i) (by omega)
   obtain rfl := r13
   refine o_cons (o_yes rfl rfl h10 (o_val rfl (v_idx he rfl rfl e13 (i) (by omega) (by omega)) ?_))
   refine o_cons (o_yes rfl rfl h10 (o_val rfl (v_ldI he rfl (c13 0 _ rfl)) ?_))
   refine go 5 ?_
   refine cb rfl (fun h17 p17 => ?_) (fun h17 p17 => ?_)
   ·refine go 10 ?_
    exact q_next (i + 1) ⟨by omega, ins_skip hlt hn h17⟩ (by omega) rfl sb rfl
   ·refine go 5 ?_
    exact q_cutx i ⟨by omega, hn, fun _ => by simpa using h17⟩ sb rfl rfl
  ·refine go 9 ?_
   refine c_false rfl ?_
   refine go 5 ?_
   exact q_cutx i ⟨by omega, hn, fun h => absurd h (by omega)⟩ sb rfl rfl
 ·intro i ⟨hi, hn, hs⟩
  refine go 8 ?_
  refine sxb 24 rfl (fun h24 p24 => ?_) (fun h24 p24 => ?_)
  ·have hlt : i < l.length := by omega
   refine go 2 ?_
   obtain ⟨b27, o27, w27, e27, c27, r27⟩ := RdA.at_ hA (i := i) (by omega)
   obtain rfl := r27
   refine o_cons (o_yes rfl rfl h24 (o_val rfl (v_idx he rfl rfl e27 (i) (by omega) (by omega)) ?_))
   refine o_cons (o_yes rfl rfl h24 (o_val rfl (v_ldI he rfl (c27 0 _ rfl)) ?_))
   refine go 5 ?_
   refine cb rfl (fun h31 p31 => ?_) (fun h31 p31 => ?_)
   ·refine go 8 ?_
    refine fin1 rfl rfl ?_
    exact q_i (by rw [ins_same hlt hn (hs hlt) p31]; exact hv0)
   ·refine go 3 ?_
    refine sx_knowI (fun hE6 hf6 => ?_)
    refine d_startH T.mixed ?_
    refine d_tv 1 rfl rfl (by kernel_rfl) rfl .slnil rfl (v_move rfl) ?_
    refine d_tv 2 rfl rfl (by kernel_rfl) rfl .slnil rfl (v_move rfl) ?_
    refine d_tv 3 rfl rfl (by kernel_rfl) rfl .slnil rfl (v_slice_hi he rfl rfl i (by omega) (by omega)) ?_
    refine d_tv 5 rfl rfl (by kernel_rfl) rfl .slnil rfl (v_move rfl) ?_
    refine d_tv 8 rfl rfl (by kernel_rfl) rfl .slnil rfl (v_move rfl) ?_
    refine d_tv 9 rfl rfl (by kernel_rfl) rfl .slnil rfl (v_move rfl) ?_
    refine d_tv 10 rfl rfl (by kernel_rfl) rfl .slnil rfl (v_slice_lo he rfl rfl i (by omega) (by omega)) ?_
    refine d_two 0 6 (by kernel_rfl) rfl rfl ?_ ?_
    ·refine o_buildSlice he he rfl rfl rfl rfl rfl rfl rfl (fun v33 => ?_)
     refine d_on (fun _ m => m.keeps (.cons _ .slnil)) ?_
     refine d_two 4 6 (by kernel_rfl) rfl rfl ?_ ?_
     ·refine o_appendR ((hv0.takeM i (by omega))) rfl he he rfl rfl rfl rfl (by simp only [List.length_append, List.length_take, List.length_drop, List.length_singleton]; omega) (by simp only [List.length_append, List.length_take, List.length_drop, List.length_singleton]; omega) rfl (fun v37 x37 f37 => ?_)
      refine d_on (fun _ m => m.keeps (.cons _ .slnil)) ?_
      refine d_one 6 (by kernel_rfl) rfl ?_
      refine o_buildSlice he he rfl rfl rfl rfl rfl rfl rfl (fun v39 => ?_)
      refine d_on (fun _ m => m.keeps (.cons _ (.cons _ .slnil))) ?_
      refine d_one 7 (by kernel_rfl) rfl ?_
      refine bring1 ?_
      refine o_appendO he he rfl rfl rfl rfl rfl (by simp only [List.length_append, List.length_take, List.length_drop, List.length_singleton]; omega) (by simp only [List.length_append, List.length_take, List.length_drop, List.length_singleton]; omega) rfl (fun v40 => ?_)
      refine d_on (fun _ m => m.keeps (.cons _ (.cons _ .slnil))) ?_
      refine d_one 11 (by kernel_rfl) rfl ?_
      refine o_appendR ((hv0.dropM i (by omega))) rfl he he rfl rfl rfl rfl (by simp only [List.length_append, List.length_take, List.length_drop, List.length_singleton]; omega) (by simp only [List.length_append, List.length_take, List.length_drop, List.length_singleton]; omega) rfl (fun v44 x44 f44 => ?_)
      refine sx_pubrow (l := (l.take i ++ [s] ++ l.drop i)) rfl (by simp only [List.length_append, Nat.zero_add]; rfl) (((f37.append (.one rfl)).append f44)) (fun I44 j44 R44 => ?_)
      refine d_on (fun _ m => m.keepsI (.cons _ .slnil) (j44) hE6 hf6) ?_
      refine d_t 12 rfl rfl (by kernel_rfl) rfl (fun _ m => m.keepsI (.cons _ .slnil) (j44) hE6 hf6) (y_v rfl (v_assign rfl)) ?_
      refine d_done (by kernel_rfl) ?_
      refine go 2 ?_
      refine fin1 rfl rfl ?_
      exact q_i (by rw [ins_put hlt hn (hs hlt) p31]; exact R44)
     ·refine o_buildSlice he he rfl rfl rfl rfl rfl rfl rfl (fun v39 => ?_)
      refine d_on (fun _ m => m.keeps (.cons _ (.cons _ .slnil))) ?_
      refine d_one 4 (by kernel_rfl) rfl ?_
      refine bring1 ?_
      refine o_appendR ((hv0.takeM i (by omega))) rfl he he rfl rfl rfl rfl (by simp only [List.length_append, List.length_take, List.length_drop, List.length_singleton]; omega) (by simp only [List.length_append, List.length_take, List.length_drop, List.length_singleton]; omega) rfl (fun v37 x37 f37 => ?_)
      refine d_on (fun _ m => m.keeps (.cons _ (.cons _ .slnil))) ?_
      refine d_one 7 (by kernel_rfl) rfl ?_
      refine bring1 ?_
      refine bring1 ?_
      refine o_appendO he he rfl rfl rfl rfl rfl (by simp only [List.length_append, List.length_take, List.length_drop, List.length_singleton]; omega) (by simp only [List.length_append, List.length_take, List.length_drop, List.length_singleton]; omega) rfl (fun v40 => ?_)
      refine d_on (fun _ m => m.keeps (.cons _ (.cons _ .slnil))) ?_
      refine d_one 11 (by kernel_rfl) rfl ?_
      refine o_appendR ((hv0.dropM i (by omega))) rfl he he rfl rfl rfl rfl (by simp only [List.length_append, List.length_take, List.length_drop, List.length_singleton]; omega) (by simp only [List.length_append, List.length_take, List.length_drop, List.length_singleton]; omega) rfl (fun v44 x44 f44 => ?_)
      refine sx_pubrow (l := (l.take i ++ [s] ++ l.drop i)) rfl (by simp only [List.length_append, Nat.zero_add]; rfl) (((f37.append (.one rfl)).append f44)) (fun I44 j44 R44 => ?_)
      refine d_on (fun _ m => m.keepsI (.cons _ .slnil) (j44) hE6 hf6) ?_
      refine d_t 12 rfl rfl (by kernel_rfl) rfl (fun _ m => m.keepsI (.cons _ .slnil) (j44) hE6 hf6) (y_v rfl (v_assign rfl)) ?_
      refine d_done (by kernel_rfl) ?_
      refine go 2 ?_
      refine fin1 rfl rfl ?_
      exact q_i (by rw [ins_put hlt hn (hs hlt) p31]; exact R44)
    ·refine o_buildSlice he he rfl rfl rfl rfl rfl rfl rfl (fun v39 => ?_)
     refine d_on (fun _ m => m.keeps (.cons _ .slnil)) ?_
     refine d_one 0 (by kernel_rfl) rfl ?_
     refine o_buildSlice he he rfl rfl rfl rfl rfl rfl rfl (fun v33 => ?_)
     refine d_on (fun _ m => m.keeps (.cons _ (.cons _ .slnil))) ?_
     refine d_one 4 (by kernel_rfl) rfl ?_
     refine o_appendR ((hv0.takeM i (by omega))) rfl he he rfl rfl rfl rfl (by simp only [List.length_append, List.length_take, List.length_drop, List.length_singleton]; omega) (by simp only [List.length_append, List.length_take, List.length_drop, List.length_singleton]; omega) rfl (fun v37 x37 f37 => ?_)
     refine d_on (fun _ m => m.keeps (.cons _ (.cons _ .slnil))) ?_
     refine d_one 7 (by kernel_rfl) rfl ?_
     refine bring1 ?_
     refine bring1 ?_
     refine o_appendO he he rfl rfl rfl rfl rfl (by simp only [List.length_append, List.length_take, List.length_drop, List.length_singleton]; omega) (by simp only [List.length_append, List.length_take, List.length_drop, List.length_singleton]; omega) rfl (fun v40 => ?_)
     refine d_on (fun _ m => m.keeps (.cons _ (.cons _ .slnil))) ?_
     refine d_one 11 (by kernel_rfl) rfl ?_
     refine o_appendR ((hv0.dropM i (by omega))) rfl he he rfl rfl rfl rfl (by simp only [List.length_append, List.length_take, List.length_drop, List.length_singleton]; omega) (by simp only [List.length_append, List.length_take, List.length_drop, List.length_singleton]; omega) rfl (fun v44 x44 f44 => ?_)
     refine sx_pubrow (l := (l.take i ++ [s] ++ l.drop i)) rfl (by simp only [List.length_append, Nat.zero_add]; rfl) (((f37.append (.one rfl)).append f44)) (fun I44 j44 R44 => ?_)
     refine d_on (fun _ m => m.keepsI (.cons _ .slnil) (j44) hE6 hf6) ?_
     refine d_t 12 rfl rfl (by kernel_rfl) rfl (fun _ m => m.keepsI (.cons _ .slnil) (j44) hE6 hf6) (y_v rfl (v_assign rfl)) ?_
     refine d_done (by kernel_rfl) ?_
     refine go 2 ?_
     refine fin1 rfl rfl ?_
     exact q_i (by rw [ins_put hlt hn (hs hlt) p31]; exact R44)
  ·refine go 9 ?_
   refine c_false rfl ?_
   refine go 3 ?_
   refine sx_knowI (fun hE6 hf6 => ?_)
   refine d_startH T.mixed ?_
   refine d_tv 1 rfl rfl (by kernel_rfl) rfl .slnil rfl (v_move rfl) ?_
   refine d_tv 2 rfl rfl (by kernel_rfl) rfl .slnil rfl (v_move rfl) ?_
   refine d_tv 3 rfl rfl (by kernel_rfl) rfl .slnil rfl (v_slice_hi he rfl rfl i (by omega) (by omega)) ?_
   refine d_tv 5 rfl rfl (by kernel_rfl) rfl .slnil rfl (v_move rfl) ?_
   refine d_tv 8 rfl rfl (by kernel_rfl) rfl .slnil rfl (v_move rfl) ?_
   refine d_tv 9 rfl rfl (by kernel_rfl) rfl .slnil rfl (v_move rfl) ?_
   refine d_tv 10 rfl rfl (by kernel_rfl) rfl .slnil rfl (v_slice_lo he rfl rfl i (by omega) (by omega)) ?_
   refine d_two 0 6 (by kernel_rfl) rfl rfl ?_ ?_
   ·refine o_buildSlice he he rfl rfl rfl rfl rfl rfl rfl (fun v33 => ?_)
    refine d_on (fun _ m => m.keeps (.cons _ .slnil)) ?_
    refine d_two 4 6 (by kernel_rfl) rfl rfl ?_ ?_
    ·refine o_appendR ((hv0.takeM i (by omega))) rfl he he rfl rfl rfl rfl (by simp only [List.length_append, List.length_take, List.length_drop, List.length_singleton]; omega) (by simp only [List.length_append, List.length_take, List.length_drop, List.length_singleton]; omega) rfl (fun v37 x37 f37 => ?_)
     refine d_on (fun _ m => m.keeps (.cons _ .slnil)) ?_
     refine d_one 6 (by kernel_rfl) rfl ?_
     refine o_buildSlice he he rfl rfl rfl rfl rfl rfl rfl (fun v39 => ?_)
     refine d_on (fun _ m => m.keeps (.cons _ (.cons _ .slnil))) ?_
     refine d_one 7 (by kernel_rfl) rfl ?_
     refine bring1 ?_
     refine o_appendO he he rfl rfl rfl rfl rfl (by simp only [List.length_append, List.length_take, List.length_drop, List.length_singleton]; omega) (by simp only [List.length_append, List.length_take, List.length_drop, List.length_singleton]; omega) rfl (fun v40 => ?_)
     refine d_on (fun _ m => m.keeps (.cons _ (.cons _ .slnil))) ?_
     refine d_one 11 (by kernel_rfl) rfl ?_
     refine o_appendR ((hv0.dropM i (by omega))) rfl he he rfl rfl rfl rfl (by simp only [List.length_append, List.length_take, List.length_drop, List.length_singleton]; omega) (by simp only [List.length_append, List.length_take, List.length_drop, List.length_singleton]; omega) rfl (fun v44 x44 f44 => ?_)
     refine sx_pubrow (l := (l.take i ++ [s] ++ l.drop i)) rfl (by simp only [List.length_append, Nat.zero_add]; rfl) (((f37.append (.one rfl)).append f44)) (fun I44 j44 R44 => ?_)
     refine d_on (fun _ m => m.keepsI (.cons _ .slnil) (j44) hE6 hf6) ?_
     refine d_t 12 rfl rfl (by kernel_rfl) rfl (fun _ m => m.keepsI (.cons _ .slnil) (j44) hE6 hf6) (y_v rfl (v_assign rfl)) ?_
     refine d_done (by kernel_rfl) ?_
     refine go 2 ?_
     refine fin1 rfl rfl ?_
     exact q_i (by rw [ins_end (by omega) hn]; exact R44)
    ·refine o_buildSlice he he rfl rfl rfl rfl rfl rfl rfl (fun v39 => ?_)
     refine d_on (fun _ m => m.keeps (.cons _ (.cons _ .slnil))) ?_
     refine d_one 4 (by kernel_rfl) rfl ?_
     refine bring1 ?_
     refine o_appendR ((hv0.takeM i (by omega))) rfl he he rfl rfl rfl rfl (by simp only [List.length_append, List.length_take, List.length_drop, List.length_singleton]; omega) (by simp only [List.length_append, List.length_take, List.length_drop, List.length_singleton]; omega) rfl (fun v37 x37 f37 => ?_)
     refine d_on (fun _ m => m.keeps (.cons _ (.cons _ .slnil))) ?_
     refine d_one 7 (by kernel_rfl) rfl ?_
     refine bring1 ?_
     refine bring1 ?_
     refine o_appendO he he rfl rfl rfl rfl rfl (by simp only [List.length_append, List.length_take, List.length_drop, List.length_singleton]; omega) (by simp only [List.length_append, List.length_take, List.length_drop, List.length_singleton]; omega) rfl (fun v40 => ?_)
     refine d_on (fun _ m => m.keeps (.cons _ (.cons _ .slnil))) ?_
     refine d_one 11 (by kernel_rfl) rfl ?_
     refine o_appendR ((hv0.dropM i (by omega))) rfl he he rfl rfl rfl rfl (by simp only [List.length_append, List.length_take, List.length_drop, List.length_singleton]; omega) (by simp only [List.length_append, List.length_take, List.length_drop, List.length_singleton]; omega) rfl (fun v44 x44 f44 => ?_)
     refine sx_pubrow (l := (l.take i ++ [s] ++ l.drop i)) rfl (by simp only [List.length_append, Nat.zero_add]; rfl) (((f37.append (.one rfl)).append f44)) (fun I44 j44 R44 => ?_)
     refine d_on (fun _ m => m.keepsI (.cons _ .slnil) (j44) hE6 hf6) ?_
     refine d_t 12 rfl rfl (by kernel_rfl) rfl (fun _ m => m.keepsI (.cons _ .slnil) (j44) hE6 hf6) (y_v rfl (v_assign rfl)) ?_
     refine d_done (by kernel_rfl) ?_
     refine go 2 ?_
     refine fin1 rfl rfl ?_
     exact q_i (by rw [ins_end (by omega) hn]; exact R44)
   ·refine o_buildSlice he he rfl rfl rfl rfl rfl rfl rfl (fun v39 => ?_)
    refine d_on (fun _ m => m.keeps (.cons _ .slnil)) ?_
    refine d_one 0 (by kernel_rfl) rfl ?_
    refine o_buildSlice he he rfl rfl rfl rfl rfl rfl rfl (fun v33 => ?_)
    refine d_on (fun _ m => m.keeps (.cons _ (.cons _ .slnil))) ?_
    refine d_one 4 (by kernel_rfl) rfl ?_
    refine o_appendR ((hv0.takeM i (by omega))) rfl he he rfl rfl rfl rfl (by simp only [List.length_append, List.length_take, List.length_drop, List.length_singleton]; omega) (by simp only [List.length_append, List.length_take, List.length_drop, List.length_singleton]; omega) rfl (fun v37 x37 f37 => ?_)
    refine d_on (fun _ m => m.keeps (.cons _ (.cons _ .slnil))) ?_
    refine d_one 7 (by kernel_rfl) rfl ?_
    refine bring1 ?_
    refine bring1 ?_
    refine o_appendO he he rfl rfl rfl rfl rfl (by simp only [List.length_append, List.length_take, List.length_drop, List.length_singleton]; omega) (by simp only [List.length_append, List.length_take, List.length_drop, List.length_singleton]; omega) rfl (fun v40 => ?_)
    refine d_on (fun _ m => m.keeps (.cons _ (.cons _ .slnil))) ?_
    refine d_one 11 (by kernel_rfl) rfl ?_
    refine o_appendR ((hv0.dropM i (by omega))) rfl he he rfl rfl rfl rfl (by simp only [List.length_append, List.length_take, List.length_drop, List.length_singleton]; omega) (by simp only [List.length_append, List.length_take, List.length_drop, List.length_singleton]; omega) rfl (fun v44 x44 f44 => ?_)
    refine sx_pubrow (l := (l.take i ++ [s] ++ l.drop i)) rfl (by simp only [List.length_append, Nat.zero_add]; rfl) (((f37.append (.one rfl)).append f44)) (fun I44 j44 R44 => ?_)
    refine d_on (fun _ m => m.keepsI (.cons _ .slnil) (j44) hE6 hf6) ?_
    refine d_t 12 rfl rfl (by kernel_rfl) rfl (fun _ m => m.keepsI (.cons _ .slnil) (j44) hE6 hf6) (y_v rfl (v_assign rfl)) ?_
    refine d_done (by kernel_rfl) ?_
    refine go 2 ?_
    refine fin1 rfl rfl ?_
    exact q_i (by rw [ins_end (by omega) hn]; exact R44)

theorem made16 (I : IMap) (p k : ByteArray) :
    FnI Tryz.prog 102 #[.string p, .string k] I (fun u J => ∃ w, u = .agg #[w, .bool false] ∧ RdS J w [sxMade p k]) := by
 refine enter Tryz.func102 Tryz.call102 rfl Tryz.ntmps102 rfl (fun w0 => ?_)
 refine go 3 ?_
 refine o_alloc he rfl (fun g4 => ?_)
 refine go 7 ?_
 refine o_val rfl (v_build (pl := [(0, 1), (1, 1), (2, 1), (3, 1), (4, 1), (5, 1), (6, 1), (7, 1), (8, 6)]) he he rfl rfl) ?_
 refine go 1 ?_
 refine o_buildSlice he he rfl rfl rfl rfl rfl rfl rfl (fun v8 => ?_)
 refine sx_pubrow (l := [sxMade p k]) rfl rfl (.one rfl) (fun I8 j8 R8 => ?_)
 have R8s := R8
 obtain ⟨A8, c8, rfl, _⟩ := R8s
 refine go 1 ?_
 refine o_val rfl (v_build (pl := [(0, 1), (1, 1)]) he he rfl rfl) ?_
 refine go 1 ?_
 refine o_stw _ he rfl rfl rfl rfl rfl rfl ?_
 refine go 3 ?_
 refine fin1 rfl ⟨_, _, _, rfl, m0, .inr ⟨_, he, rfl, rfl⟩⟩ ?_
 exact q_i ⟨_, rfl, R8⟩

theorem fit16 (I : IMap) (p : ByteArray) :
    FnV Tryz.prog 103 #[.string p] I (.agg (sxFit p).cells.toArray) := by
 refine enter Tryz.func103 Tryz.call103 rfl Tryz.ntmps103 rfl (fun w0 => ?_)
 refine go 3 ?_
 refine o_alloc he rfl (fun g2 => ?_)
 refine go 6 ?_
 refine o_val rfl (v_build (pl := [(0, 1), (1, 1), (2, 1), (3, 1), (4, 1), (5, 1), (6, 1), (7, 1), (8, 6)]) he he rfl rfl) ?_
 refine go 1 ?_
 refine o_stw _ he rfl rfl rfl rfl rfl rfl ?_
 refine go 3 ?_
 refine fin1 rfl ⟨_, _, _, rfl, m0, .inr ⟨_, he, rfl, rfl⟩⟩ ?_
 exact q_v rfl

theorem example16 (I : IMap) :
    FnI Tryz.prog 50 #[] I (fun u J => ∃ vc A, u = .tuple #[.agg #[vc], .slice A sxL.length sxL.length] ∧ RdS J vc sxC ∧ RdA J A sxL) := by
 refine enter Tryz.func50 Tryz.call50 rfl Tryz.ntmps50 rfl (fun w0 => ?_)
 refine go 3 ?_
 refine o_alloc he rfl (fun g0 => ?_)
 refine go 6 ?_
 refine o_val rfl (v_build (pl := [(0, 1), (1, 1), (2, 1)]) he he rfl rfl) ?_
 refine go 1 ?_
 refine o_buildSlice he he rfl rfl rfl rfl rfl rfl rfl (fun v7 => ?_)
 refine sx_pubrow (l := [sAxle]) rfl rfl (.one rfl) (fun I7 j7 R7 => ?_)
 try have R7 := R7.le j7
 try have R9 := R9.le j7
 try have R11 := R11.le j7
 try have R14 := R14.le j7
 try have R16 := R16.le j7
 try have R18 := R18.le j7
 try have R23 := R23.le j7
 have R7s := R7
 obtain ⟨A7, c7, rfl, _⟩ := R7s
 refine go 1 ?_
 refine o_val rfl (v_build (pl := [(0, 1), (1, 1), (2, 1)]) he he rfl rfl) ?_
 refine go 1 ?_
 refine o_buildSlice he he rfl rfl rfl rfl rfl rfl rfl (fun v9 => ?_)
 refine sx_pubrow (l := [(⟨sAxle, [sAxle], 1⟩ : Slot)]) rfl rfl (.one ⟨_, rfl, R7⟩) (fun I9 j9 R9 => ?_)
 try have R7 := R7.le j9
 try have R9 := R9.le j9
 try have R11 := R11.le j9
 try have R14 := R14.le j9
 try have R16 := R16.le j9
 try have R18 := R18.le j9
 try have R23 := R23.le j9
 have R9s := R9
 obtain ⟨A9, c9, rfl, _⟩ := R9s
 refine go 1 ?_
 refine o_val rfl (v_build (pl := [(0, 1), (1, 1), (2, 1)]) he he rfl rfl) ?_
 refine go 1 ?_
 refine o_buildSlice he he rfl rfl rfl rfl rfl rfl rfl (fun v11 => ?_)
 refine sx_pubrow (l := sxC) rfl rfl (.cons ⟨_, rfl, RdS.nil'⟩ (.one ⟨_, rfl, R9⟩)) (fun I11 j11 R11 => ?_)
 try have R7 := R7.le j11
 try have R9 := R9.le j11
 try have R11 := R11.le j11
 try have R14 := R14.le j11
 try have R16 := R16.le j11
 try have R18 := R18.le j11
 try have R23 := R23.le j11
 have R11s := R11
 obtain ⟨A11, c11, rfl, _⟩ := R11s
 refine go 1 ?_
 refine o_val rfl (v_build (pl := [(0, 1)]) he he rfl rfl) ?_
 refine go 1 ?_
 refine o_alloc he rfl (fun g2 => ?_)
 refine go 1 ?_
 refine o_stw _ he rfl rfl rfl rfl rfl rfl ?_
 refine go 16 ?_
 refine o_call (made16 _ sA sAxle) rfl rfl (fun v14 I14 j14 q14 => ?_)
 try have R7 := R7.le j14
 try have R9 := R9.le j14
 try have R11 := R11.le j14
 try have R14 := R14.le j14
 try have R16 := R16.le j14
 try have R18 := R18.le j14
 try have R23 := R23.le j14
 obtain ⟨w14, rfl, R14⟩ := q14
 have R14s := R14
 obtain ⟨A14, c14, rfl, _⟩ := R14s
 refine go 2 ?_
 refine o_call (made16 _ sB sAxle) rfl rfl (fun v16 I16 j16 q16 => ?_)
 try have R7 := R7.le j16
 try have R9 := R9.le j16
 try have R11 := R11.le j16
 try have R14 := R14.le j16
 try have R16 := R16.le j16
 try have R18 := R18.le j16
 try have R23 := R23.le j16
 obtain ⟨w16, rfl, R16⟩ := q16
 have R16s := R16
 obtain ⟨A16, c16, rfl, _⟩ := R16s
 refine go 2 ?_
 refine o_call (made16 _ sW sWheel) rfl rfl (fun v18 I18 j18 q18 => ?_)
 try have R7 := R7.le j18
 try have R9 := R9.le j18
 try have R11 := R11.le j18
 try have R14 := R14.le j18
 try have R16 := R16.le j18
 try have R18 := R18.le j18
 try have R23 := R23.le j18
 obtain ⟨w18, rfl, R18⟩ := q18
 have R18s := R18
 obtain ⟨A18, c18, rfl, _⟩ := R18s
 refine go 2 ?_
 refine o_callV (fit16 _ sA) rfl rfl ?_
 refine go 2 ?_
 refine o_callV (fit16 _ sB) rfl rfl ?_
 refine go 1 ?_
 refine o_buildSlice he he rfl rfl rfl rfl rfl rfl rfl (fun v23 => ?_)
 refine sx_pubrow (l := [sxFit sA, sxFit sB]) rfl rfl (.cons rfl (.one rfl)) (fun I23 j23 R23 => ?_)
 try have R7 := R7.le j23
 try have R9 := R9.le j23
 try have R11 := R11.le j23
 try have R14 := R14.le j23
 try have R16 := R16.le j23
 try have R18 := R18.le j23
 try have R23 := R23.le j23
 have R23s := R23
 obtain ⟨A23, c23, rfl, _⟩ := R23s
 refine go 1 ?_
 refine o_val rfl (v_build (pl := [(0, 1), (1, 1)]) he he rfl rfl) ?_
 refine go 1 ?_
 refine o_val rfl (v_build (pl := [(0, 1), (1, 1), (2, 1), (3, 1), (4, 1), (5, 1), (6, 1), (7, 1), (8, 6)]) he he rfl rfl) ?_
 refine go 1 ?_
 refine o_buildSlice he he rfl rfl rfl rfl rfl rfl rfl (fun v26 => ?_)
 refine sx_pubrow (l := [sxRem sA 6]) rfl rfl (.one rfl) (fun I26 j26 R26 => ?_)
 try have R7 := R7.le j26
 try have R9 := R9.le j26
 try have R11 := R11.le j26
 try have R14 := R14.le j26
 try have R16 := R16.le j26
 try have R18 := R18.le j26
 try have R23 := R23.le j26
 have R26s := R26
 obtain ⟨A26, c26, rfl, _⟩ := R26s
 refine go 1 ?_
 refine o_val rfl (v_build (pl := [(0, 1), (1, 1)]) he he rfl rfl) ?_
 refine go 1 ?_
 refine o_buildSliceB he he rfl rfl rfl rfl rfl rfl rfl (fun g28 => ?_)
 refine sx_pub (fun Ig28 jg28 cg28 => ?_)
 try have R7 := R7.le jg28
 try have R9 := R9.le jg28
 try have R11 := R11.le jg28
 try have R14 := R14.le jg28
 try have R16 := R16.le jg28
 try have R18 := R18.le jg28
 try have R23 := R23.le jg28
 try have R26 := R26.le jg28
 have B28 := Flat.rda (l := sxL) (.cons ⟨_, rfl, R14⟩ (.cons ⟨_, rfl, R16⟩ (.cons ⟨_, rfl, R18⟩ (.cons ⟨_, rfl, R23⟩ (.one ⟨_, rfl, R26⟩))))) cg28
 refine go 8 ?_
 refine bring1 ?_
 refine o_stw _ he rfl rfl rfl rfl rfl rfl ?_
 refine go 4 ?_
 refine fin2 rfl ⟨_, _, _, rfl, m0, .inr ⟨_, he, rfl, rfl⟩⟩ rfl ?_
 exact q_i ⟨_, _, rfl, R11, B28⟩

theorem head19 (I : IMap) :
    FnV Tryz.prog 15 #[] I (.bool true) := by
 refine enter Tryz.func15 Tryz.call15 rfl Tryz.ntmps15 rfl (fun w0 => ?_)
 obtain ⟨R, hR⟩ := roots_ex sxL
 refine go 8 ?_
 refine o_call (example16 _) rfl rfl (fun v13 I13 j13 q13 => ?_)
 obtain ⟨vc, A, rfl, hvc, hA⟩ := q13
 have hv : RdS _ _ sxL := ⟨A, _, rfl, hA, Nat.le_refl _, by decide⟩
 refine go 4 ?_
 refine o_alloc he rfl (fun g1 => ?_)
 refine go 1 ?_
 refine o_stw _ he rfl rfl rfl rfl rfl (by simp [hvc.one]) ?_
 refine go 8 ?_
 refine o_call (plOf _ vc sxC hvc sx_smC _ sxL hv (by decide) sxL_sm R hR sA 5) rfl rfl (fun v19 I19 j19 q19 => ?_)
 try have hvc := hvc.le j19
 try have hv := hv.le j19
 try have hA := hA.le j19
 try have hw19 := hw19.le j19
 try have hw25 := hw25.le j19
 try have hw31 := hw31.le j19
 try have hw37 := hw37.le j19
 rw [(sxL_own hR).1, pl_x1] at q19
 obtain ⟨w19, rfl, hw19⟩ := q19
 refine go 12 ?_
 refine o_call (plOcc _ vc sxC hvc sx_smC _ sxL hv (by decide) sxL_sm R hR sW sAxle 5) rfl rfl (fun v25 I25 j25 q25 => ?_)
 try have hvc := hvc.le j25
 try have hv := hv.le j25
 try have hA := hA.le j25
 try have hw19 := hw19.le j25
 try have hw25 := hw25.le j25
 try have hw31 := hw31.le j25
 try have hw37 := hw37.le j25
 rw [(sxL_own hR).2.2, pl_x2] at q25
 obtain ⟨w25, rfl, hw25⟩ := q25
 refine go 12 ?_
 refine o_call (plOcc _ vc sxC hvc sx_smC _ sxL hv (by decide) sxL_sm R hR sW sAxle 6) rfl rfl (fun v31 I31 j31 q31 => ?_)
 try have hvc := hvc.le j31
 try have hv := hv.le j31
 try have hA := hA.le j31
 try have hw19 := hw19.le j31
 try have hw25 := hw25.le j31
 try have hw31 := hw31.le j31
 try have hw37 := hw37.le j31
 rw [(sxL_own hR).2.2, pl_x3] at q31
 obtain ⟨w31, rfl, hw31⟩ := q31
 refine go 12 ?_
 refine o_call (plRoots _ vc sxC hvc sx_smC _ sxL hv (by decide) sxL_sm R hR sB 6) rfl rfl (fun v37 I37 j37 q37 => ?_)
 try have hvc := hvc.le j37
 try have hv := hv.le j37
 try have hA := hA.le j37
 try have hw19 := hw19.le j37
 try have hw25 := hw25.le j37
 try have hw31 := hw31.le j37
 try have hw37 := hw37.le j37
 rw [(sxL_own hR).2.1, pl_x4] at q37
 obtain ⟨w37, rfl, hw37⟩ := q37
 refine go 10 ?_
 refine o_v rfl (OV.cast (u := .bool true) (v_eql rfl rfl) (congrArg Value.bool (decide_eq_true (rfl)))) ?_
 refine go 3 ?_
 refine o_yes rfl rfl rfl (o_val rfl (v_build (pl := [(0, 1), (1, 1)]) he he rfl rfl) ?_)
 refine go 1 ?_
 refine o_yes rfl rfl rfl (o_val rfl (v_build (pl := [(0, 1), (1, 1)]) he he rfl rfl) ?_)
 refine go 1 ?_
 refine o_yes rfl rfl rfl (o_buildSlice he he rfl rfl rfl rfl rfl rfl rfl (fun v46 => ?_))
 refine sx_pubrow (l := [(⟨nil8, nil8⟩ : Plc), ⟨sW, sAxle⟩]) rfl rfl (.cons rfl (.one rfl)) (fun I46 j46 R46 => ?_)
 try have hvc := hvc.le j46
 try have hv := hv.le j46
 try have hA := hA.le j46
 try have hw19 := hw19.le j46
 try have hw25 := hw25.le j46
 try have hw31 := hw31.le j46
 try have hw37 := hw37.le j46
 refine go 1 ?_
 refine o_yes rfl rfl rfl (o_callV (ref19Places_t _ _ _ hw19 _ _ R46 rfl) rfl rfl ?_)
 refine go 3 ?_
 refine o_cons (o_yes rfl rfl rfl (o_val rfl (OV.cast (u := .bool true) (v_eql rfl rfl) (congrArg Value.bool (decide_eq_true (rfl)))) ?_))
 refine go 4 ?_
 refine o_yes rfl rfl rfl (o_buildSlice he he rfl rfl rfl rfl rfl rfl rfl (fun v55 => ?_))
 refine sx_pubrow (l := [sA, sB]) rfl rfl (.cons rfl (.one rfl)) (fun I55 j55 R55 => ?_)
 try have hvc := hvc.le j55
 try have hv := hv.le j55
 try have hA := hA.le j55
 try have hw19 := hw19.le j55
 try have hw25 := hw25.le j55
 try have hw31 := hw31.le j55
 try have hw37 := hw37.le j55
 refine go 1 ?_
 refine o_yes rfl rfl rfl (o_callV (ref01Same_t _ _ _ hw25 _ _ R55 rfl) rfl rfl ?_)
 refine go 9 ?_
 refine o_cons (o_yes rfl rfl rfl (o_val rfl (OV.cast (u := .bool true) (v_eql rfl rfl) (congrArg Value.bool (decide_eq_true (rfl)))) ?_))
 refine go 4 ?_
 refine o_yes rfl rfl rfl (o_buildSlice he he rfl rfl rfl rfl rfl rfl rfl (fun v65 => ?_))
 refine sx_roweq (ys := [.string nil8] ++ ([.string sA] ++ [.string sB])) (rfl) ?_
 refine sx_pubrow (l := [nil8, sA, sB]) rfl rfl (.cons rfl (.cons rfl (.one rfl))) (fun I65 j65 R65 => ?_)
 try have hvc := hvc.le j65
 try have hv := hv.le j65
 try have hA := hA.le j65
 try have hw19 := hw19.le j65
 try have hw25 := hw25.le j65
 try have hw31 := hw31.le j65
 try have hw37 := hw37.le j65
 refine go 1 ?_
 refine o_yes rfl rfl rfl (o_callV (ref01Same_t _ _ _ hw31 _ _ R65 rfl) rfl rfl ?_)
 refine go 3 ?_
 refine o_cons (o_yes rfl rfl rfl (o_val rfl (OV.cast (u := .bool true) (v_eql rfl rfl) (congrArg Value.bool (decide_eq_true (rfl)))) ?_))
 refine go 4 ?_
 refine o_yes rfl rfl rfl (o_buildSlice he he rfl rfl rfl rfl rfl rfl rfl (fun v74 => ?_))
 refine sx_pubrow (l := [sB, sW]) rfl rfl (.cons rfl (.one rfl)) (fun I74 j74 R74 => ?_)
 try have hvc := hvc.le j74
 try have hv := hv.le j74
 try have hA := hA.le j74
 try have hw19 := hw19.le j74
 try have hw25 := hw25.le j74
 try have hw31 := hw31.le j74
 try have hw37 := hw37.le j74
 refine go 1 ?_
 refine o_yes rfl rfl rfl (o_callV (ref01Same_t _ _ _ hw37 _ _ R74 rfl) rfl rfl ?_)
 refine go 5 ?_
 refine fin1 rfl rfl ?_
 exact q_vI rfl

theorem law19cases (I : IMap) (vc : Value) (c : List Kind) (hvc : RdS I vc c) (hsc : SmC c) (v : Value) (l : List Rep) (hv : RdS I v l) (hl : l.length ≤ 1000000) (hsl : ∀ r ∈ l, ∀ e ∈ r.options, SmE e) (R : Nat → Nat) (hRt : Rts l R) (p : ByteArray) (day : Int)  :
    FnI Tryz.prog 26 #[.agg #[vc], v, .string p, .int .i64 (day)] I (fun u J => RdS J u (casL c (ownF l R p) p day)) := by
 have hv0 := hv
 obtain ⟨A, c0, rfl, hA, hc, hm⟩ := hv
 refine enter Tryz.func26 Tryz.call26 rfl Tryz.ntmps26 rfl (fun w0 => ?_)
 refine go 3 ?_
 refine o_box _ rfl rfl rfl (fun g4 => ?_)
 refine go 5 ?_
 refine sx_nilrow 64 2 ?_
 refine go 8 ?_
 refine o_call (linkOf _ _ l hv0 hl hsl p R hRt) rfl rfl (fun v25 I25 j25 q25 => ?_)
 try have hvc := hvc.le j25
 try have hv0 := hv0.le j25
 try have hA := hA.le j25
 obtain ⟨CA, cc, rfl, hCA, hcc, hcm⟩ := q25
 rw [nI_len] at hcc ⊢
 refine go 10 ?_
 refine c_loop4 ((0 : Nat)) (none) (0) ([]) (fun i A9 c9 xs => I25)
  (fun i A9 c9 xs => [(1, .slice A l.length c0), (2, .string p), (3, .int .i64 (day)), (4, .pointer (some ⟨g4, 0, none⟩)), (9, .slice A9 i c9), (10, .slice CA (ofN l R p).length cc), (11, .int .i64 ((i : Nat) : Int))])
  (fun i A9 c9 xs => [.row (.slice A9 i c9) 64 2 i xs, .blk g4 24 [vc]])
  (fun i A9 c9 xs => i ≤ (ofN l R p).length ∧ Flat I25 xs (pickN l ((ofN l R p).take i)))
  (fun i A9 c9 xs => (ofN l R p).length - i) ⟨Nat.zero_le _, .nil⟩ rfl sb rfl ?_
 intro i A9 c9 xs ⟨hi, hF⟩
 refine go 9 ?_
 refine cb rfl (fun h29 p29 => ?_) (fun h29 p29 => ?_)
 ·have hlt : i < (ofN l R p).length := by omega
  have hcl : (ofN l R p)[i] < l.length := of_lt (List.getElem_mem hlt)
  have hcl2 := own_len (l := l) (R := R) (p := p)
  have hcl3 : (ownF l R p).length = (ofN l R p).length := pickN_len fun i hi => of_lt hi
  refine go 8 ?_
  obtain ⟨b34, o34, w34, e34, c34, r34⟩ := RdA.at_ hCA (i := i) (by first | exact hlt | (rw [nI_len]; exact hlt))
  rw [nI_at hlt] at r34
  obtain rfl := r34
  refine o_v rfl (v_idx he rfl rfl e34 (i) (by omega) (by first | exact hlt | (rw [nI_len]; exact hlt))) ?_
  refine o_v rfl (v_ldI he rfl (c34 0 _ rfl)) ?_
  refine o_v rfl (OV.cast (u := .bool true) (v_geq rfl rfl) (congrArg Value.bool (decide_eq_true (by omega)))) ?_
  refine go 3 ?_
  obtain ⟨b40, o40, w40, e40, c40, r40⟩ := RdA.at_ hCA (i := i) (by first | exact hlt | (rw [nI_len]; exact hlt))
  rw [nI_at hlt] at r40
  obtain rfl := r40
  refine o_cons (o_yes rfl rfl rfl (o_val rfl (v_idx he rfl rfl e40 (i) (by omega) (by first | exact hlt | (rw [nI_len]; exact hlt))) ?_))
  refine o_cons (o_yes rfl rfl rfl (o_val rfl (v_ldI he rfl (c40 0 _ rfl)) ?_))
  refine go 2 ?_
  refine o_cons (o_yes rfl rfl rfl (o_val rfl (OV.cast (u := .bool true) (v_lss rfl rfl) (congrArg Value.bool (decide_eq_true (by omega)))) ?_))
  refine go 3 ?_
  refine c_true rfl ?_
  refine go 5 ?_
  obtain ⟨b50, o50, w50, e50, c50, r50⟩ := RdA.at_ hCA (i := i) (by first | exact hlt | (rw [nI_len]; exact hlt))
  rw [nI_at hlt] at r50
  obtain rfl := r50
  refine o_v rfl (v_idx he rfl rfl e50 (i) (by omega) (by first | exact hlt | (rw [nI_len]; exact hlt))) ?_
  refine o_v rfl (v_ldI he rfl (c50 0 _ rfl)) ?_
  obtain ⟨b52, o52, w52, e52, c52, r52⟩ := RdA.at_ hA (i := (ofN l R p)[i]) hcl
  obtain ⟨q52, rfl, S52, d52, rfl, hS52, hd52, hm52⟩ := r52
  refine o_v rfl (v_idx he rfl rfl e52 ((ofN l R p)[i]) (by omega) hcl) ?_
  refine o_v rfl (v_ldIa he rfl c52 rfl) ?_
  refine go 1 ?_
  refine o_buildSlice he he rfl rfl rfl rfl rfl rfl rfl (fun v54 => ?_)
  refine go 1 ?_
  refine bring1 ?_
  refine o_appendO he he rfl rfl rfl rfl rfl (by omega) (by omega) rfl (fun v55 => ?_)
  refine sx_rowslice (fun A55 c55 hv55 => ?_)
  subst hv55
  refine go 10 ?_
  refine bring1 ?_
  refine sx_drop ?_
  exact q_next4 (i + 1) (_) (_) (_) ⟨by omega, by rw [pick_step hlt hcl]; exact hF.append (.one ⟨_, rfl, ⟨_, _, rfl, hS52, hd52, hm52⟩⟩)⟩ (by omega) rfl sb rfl
 ·obtain rfl : i = (ofN l R p).length := by omega
  rw [List.take_length] at hF
  have hcl2 := own_len (l := l) (R := R) (p := p)
  have hcl3 : (ownF l R p).length = (ofN l R p).length := pickN_len fun i hi => of_lt hi
  refine sx_pubrow (l := (ownF l R p)) rfl hcl3.symm hF (fun I9 j9 Ro => ?_)
  have hvc := hvc.le j9
  rw [← hcl3] at Ro ⊢
  refine go 10 ?_
  refine o_call (seAll _ vc c hvc hsc _ (ownF l R p) Ro (Nat.le_trans hcl2 hl) (fun r hr => hsl r (own_mem hr)) 4096) rfl rfl (fun v59 I59 j59 q59 => ?_)
  try have hvc := hvc.le j59
  try have Ro := Ro.le j59
  try have hAA := hAA.le j59
  try have hz78 := hz78.le j59
  try have hwb := hwb.le j59
  try have hF := hF.le j59
  obtain ⟨w59, rfl, hw59⟩ := q59
  obtain ⟨AA, ca, rfl, hAA, hca, hma⟩ := hw59
  have h46 := casL_len (c := c) (own := (ownF l R p)) (p := p) (day := day)
  have hal : (allF c (ownF l R p) 4096).1.length ≤ 4096 := by have h := (begins_len (c := c) (l := (ownF l R p)) (a := 4096) (b := 4096) (by omega) (by omega) (Int.le_refl _)).2.2.1; omega
  refine go 9 ?_
  refine sx_nilrow 53 1 ?_
  refine go 10 ?_
  refine c_loop4 ((0 : Nat)) (_) ([]) (_) (fun i v14 xs J => J)
   (fun i v14 xs J => [(2, .string p), (3, .int .i64 (day)), (4, .pointer (some ⟨g4, 0, none⟩)), (9, .slice A9 (ownF l R p).length c9), (12, .slice AA (allF c (ownF l R p) 4096).1.length ca), (13, .int .i64 ((allF c (ownF l R p) 4096).2)), (14, v14), (15, .int .i64 ((i : Nat) : Int))])
   (fun i v14 xs J => [.row v14 53 1 (casTo c (ownF l R p) p day ((allF c (ownF l R p) 4096).1.take i)).length xs, .blk g4 24 [vc]])
   (fun i v14 xs J => i ≤ (allF c (ownF l R p) 4096).1.length ∧ ILe I59 J ∧ Flat J xs (casTo c (ownF l R p) p day ((allF c (ownF l R p) 4096).1.take i)))
   (fun i v14 xs J => (allF c (ownF l R p) 4096).1.length - i) ⟨Nat.zero_le _, ILe.refl _, .nil⟩ rfl sb rfl ?_
  intro i v14 xs J ⟨hi, hJ, hF⟩
  have hvc := hvc.le hJ
  have Ro := Ro.le hJ
  have hAA := hAA.le hJ
  have hcl := casTo_len (c := c) (own := (ownF l R p)) (p := p) (day := day) hi
  refine go 8 ?_
  refine sxb 66 rfl (fun h66 p66 => ?_) (fun h66 p66 => ?_)
  ·have hlt : i < (allF c (ownF l R p) 4096).1.length := by omega
   obtain ⟨h00, hmem⟩ := all_ath hlt
   obtain ⟨ho1, ho2⟩ := case_ok hmem day
   refine go 1 ?_
   refine o_cons (o_yes rfl rfl h66 (o_val rfl (OV.cast (u := .bool true) (v_eql rfl rfl) (congrArg Value.bool (decide_eq_true (h00)))) ?_))
   refine go 3 ?_
   refine c_true rfl ?_
   refine go 9 ?_
   obtain ⟨b76, o76, w76, e76, c76, r76⟩ := RdA.at_ hAA (i := i) (by omega)
   obtain ⟨q76, rfl, S76, d76, rfl, hS76, hd76, hm76⟩ := r76
   refine o_v rfl (v_idx he rfl rfl e76 (i) (by omega) (by omega)) ?_
   refine o_v rfl (v_ldI he rfl (c76 0 _ rfl)) ?_
   refine go 1 ?_
   refine o_call (repPicked _ _ (ownF l R p) Ro (Nat.le_trans hcl2 hl) (fun r hr => hsl r (own_mem hr)) _ (allF c (ownF l R p) 4096).1[i] ⟨_, _, rfl, hS76, hd76, hm76⟩) rfl rfl (fun v78 I78 j78 q78 => ?_)
   try have hvc := hvc.le j78
   try have Ro := Ro.le j78
   try have hAA := hAA.le j78
   try have hz78 := hz78.le j78
   try have hwb := hwb.le j78
   try have hF := hF.le j78
   obtain ⟨z78, rfl, hz78⟩ := q78
   refine go 13 ?_
   refine o_call (cAt _ vc c hvc hsc _ (pickedF (ownF l R p) (allF c (ownF l R p) 4096).1[i]).1 hz78 (Nat.le_trans (picked_le (ownF l R p) (allF c (ownF l R p) 4096).1[i]) (Nat.le_trans hcl2 hl)) (picked_sm (fun r hr => hsl r (own_mem hr))) day) rfl rfl (fun v85 I85 j85 q85 => ?_)
   try have hvc := hvc.le j85
   try have Ro := Ro.le j85
   try have hAA := hAA.le j85
   try have hz78 := hz78.le j85
   try have hwb := hwb.le j85
   try have hF := hF.le j85
   obtain ⟨wb, rfl, hwb⟩ := q85
   refine go 5 ?_
   refine o_alloc he rfl (fun g18 => ?_)
   refine go 1 ?_
   refine o_stw _ he rfl rfl rfl rfl rfl (by simp [RdS.one hwb]) ?_
   refine go 9 ?_
   refine o_callE (flFind _ _ _ hwb p) rfl rfl (fun v92 q92 => ?_)
   obtain ⟨vs92, rfl, s92, rfl, hs92⟩ := q92
   refine go 4 ?_
   refine o_alloc he rfl (fun g21 => ?_)
   refine go 1 ?_
   refine o_stw _ he rfl rfl rfl rfl rfl (Enc.one (α := Part) (x := (findP (caseS c (ownF l R p) day (allF c (ownF l R p) 4096).1[i]) p).getD zPart) ⟨s92, rfl, hs92⟩) ?_
   refine go 6 ?_
   refine o_v rfl (OV.cast (u := .bool true) (v_eql rfl rfl) (congrArg Value.bool (decide_eq_true (ho1)))) ?_
   refine go 2 ?_
   refine o_cons (o_yes rfl rfl rfl (o_val rfl (OV.cast (u := .bool true) (v_eql rfl rfl) (congrArg Value.bool (decide_eq_true (ho2)))) ?_))
   refine go 6 ?_
   refine cb rfl (fun h103 p103 => ?_) (fun h103 p103 => ?_)
   ·refine go 4 ?_
    refine o_buildSlice he he rfl rfl rfl rfl rfl rfl rfl (fun v106 => ?_)
    refine go 1 ?_
    refine bring3 ?_
    refine o_appendO he he rfl rfl (by show (wb.oneCell' && true) = true; rw [RdS.one hwb]; rfl) rfl rfl (by omega) (by omega) rfl (fun v107 => ?_)
    refine go 10 ?_
    refine bring1 ?_
    refine sx_drop ?_
    refine bring1 ?_
    refine sx_drop ?_
    refine bring1 ?_
    refine sx_drop ?_
    exact q_next4 (i + 1) (_) (_) (_) ⟨by omega, hJ.trans (j78.trans j85), by rw [casTo_yes hlt h103]; exact hF.append (.one ⟨_, rfl, hwb⟩)⟩ (by omega) rfl sb (by rw [casTo_yes hlt h103, List.length_append]; rfl)
   ·refine go 9 ?_
    refine sx_drop ?_
    refine sx_drop ?_
    exact q_next4 (i + 1) (_) (_) (_) ⟨by omega, hJ.trans (j78.trans j85), by rw [casTo_no hlt h103]; exact hF⟩ (by omega) rfl sb (by rw [casTo_no hlt h103])
  ·refine go 5 ?_
   refine c_false rfl ?_
   refine go 12 ?_
   refine fin1 rfl rfl ?_
   refine bring1 ?_
   refine sx_drop ?_
   have e : i = (allF c (ownF l R p) 4096).1.length := by omega
   subst e
   rw [List.take_length] at hF ⊢
   refine sx_pubrow (l := casL c (ownF l R p) p day) rfl rfl hF (fun I9 j9 R9 => ?_)
   exact q_i R9

end Go.Proofs.YtdapmfkbpnjkmaaGreat

/- What the laws of places say of each step. -/
set_option linter.all false
namespace Go.Sx
open Go
section
variable {c : List Kind} {l : List Rep} {R : Nat → Nat} {p : ByteArray} {day : Int} {i k : Nat}
section
variable {S : List Plc × Int}
theorem both_ways' (hR : Rts l R) (hS : S = shwF plcLt (plcOf p) c l (ownF l R p) p day) (h0 : S.2 = 0) (hi : i < S.1.length) (hn : ¬ S.1[i].into = nil8) :
    (shwF sLt (occOf S.1[i].into S.1[i].slot) c l (ownF l R S.1[i].into) S.1[i].into day).2 = 0 ∧ p ∈ (shwF sLt (occOf S.1[i].into S.1[i].slot) c l (ownF l R S.1[i].into) S.1[i].into day).1 ∧
    ∀ k ∈ (shwF sLt (occOf S.1[i].into S.1[i].slot) c l (ownF l R S.1[i].into) S.1[i].into day).1, ¬ k = nil8 → (shwF plcLt (plcOf k) c l (ownF l R k) k day).2 = 0 ∧ S.1[i] ∈ (shwF plcLt (plcOf k) c l (ownF l R k) k day).1 := by
  subst hS
  exact both_ways hR h0 (List.getElem_mem hi) hn
theorem srt_prev {f : List Part → ByteArray} {own : List Rep} {q : ByteArray} {T : List ByteArray × Int} (hT : T = shwF sLt f c l own q day) (h0 : T.2 = 0) (hk : k < T.1.length) (h : 0 < k) : sLt (T.1[k - 1]'(by omega)) T.1[k] = true := by
  subst hT
  obtain ⟨m, rfl⟩ : ∃ m, k = m + 1 := ⟨k - 1, by omega⟩
  have e := (shw_zero h0).2.2
  have h2 : m + 1 < (srtU sLt ((casL c own q day).map f)).length := by rw [← e]; exact hk
  have h3 := str_ord h2
  simp only [e, Nat.add_sub_cancel]
  exact h3
theorem plc_prev {f : List Part → Plc} {own : List Rep} {q : ByteArray} (hT : S = shwF plcLt f c l own q day) (h0 : S.2 = 0) (hk : k + 1 < S.1.length) : plcLt S.1[k] S.1[k + 1] = true := by
  subst hT
  have e := (shw_zero h0).2.2
  have h2 : k + 1 < (srtU plcLt ((casL c own q day).map f)).length := by rw [← e]; exact hk
  have h3 := plc_ord h2
  simp only [e]
  exact h3
theorem plc_no {a b : Plc} (h : plcLt a b = true) (h2 : a.into = b.into) : sLt a.slot b.slot = true := by
  simp only [plcLt, Bool.or_eq_true, Bool.and_eq_true, decide_eq_true_eq] at h
  rcases h with h | h
  · rw [h2, sLt_irrefl] at h; cases h
  · exact h.2
theorem plc_gt {a b : Plc} (h : plcLt a b = true) : (!(sLt a.into b.into || decide (a.into = b.into))) = false := by
  simp only [plcLt, Bool.or_eq_true, Bool.and_eq_true, decide_eq_true_eq] at h
  rcases h with h | h
  · rw [h]; rfl
  · simp [h.1]
theorem roots_self' (hS : S = shwF plcLt (plcOf p) c l (ownF l R p) p day) {T : List ByteArray × Int} (hT : T = shwF sLt (rootF p) c l (ownF l R p) p day) (h0 : S.2 = 0) : (decide (p ∈ T.1) == decide ((⟨nil8, nil8⟩ : Plc) ∈ S.1)) = true := by
  subst hS hT
  rw [beq_iff_eq, decide_eq_decide]
  exact roots_self h0
def upG (c : List Kind) (l : List Rep) (R : Nat → Nat) (day : Int) (r : ByteArray) (x : Plc) : Prop := ¬ x.into = nil8 ∧ (shwF sLt (rootF x.into) c l (ownF l R x.into) x.into day).2 = 0 ∧ r ∈ (shwF sLt (rootF x.into) c l (ownF l R x.into) x.into day).1
theorem roots_done (hR : Rts l R) (hS : S = shwF plcLt (plcOf p) c l (ownF l R p) p day) {T : List ByteArray × Int} (hT : T = shwF sLt (rootF p) c l (ownF l R p) p day) (h0 : S.2 = 0) (hi : i < T.1.length) (hne : ¬ T.1[i] = p)
    (hall : ∀ j (h : j < S.1.length), ¬ upG c l R day T.1[i] S.1[j]) : False := by
  subst hS hT
  obtain ⟨x, hx, h1, h2, h3⟩ := roots_up hR h0 (List.getElem_mem hi) hne
  obtain ⟨j, hj, rfl⟩ := List.getElem_of_mem hx
  exact hall j hj ⟨h1, h2, h3⟩
theorem up_next {r : ByteArray} {L : List Plc} (hk : k < L.length) (h : ∀ j (h : j < L.length), j < k → ¬ upG c l R day r L[j]) (h2 : ¬ upG c l R day r L[k]) : ∀ j (h : j < L.length), j < k + 1 → ¬ upG c l R day r L[j] := fun j hj h3 => by
  rcases Nat.lt_or_ge j k with h4 | h4
  · exact h j hj h4
  · have : j = k := by omega
    subst this; exact h2
end
theorem sure_len19 {α : Type} [DecidableEq α] {lt : α → α → Bool} {f : List Part → α} {S : List α × Int} (hS : S = shwF lt f c l (ownF l R p) p day) (h : ∀ r ∈ l, chs r = 1) : S.1.length = if S.2 = 0 then 1 else 0 := by
  subst hS
  split
  · rename_i h0; exact sure_one19 (fun r hr => h r (own_mem hr)) h0
  · rename_i h0; rw [shw_bad h0]; rfl
theorem vals_next {i : Nat} (hi : i < l.length) (h : ∀ r ∈ l.take i, validRep r = true) (h2 : validRep l[i] = true) : ∀ r ∈ l.take (i + 1), validRep r = true := fun r hr => by
  rw [← take_succ_of hi] at hr
  rcases List.mem_append.1 hr with hr | hr
  · exact h r hr
  · rw [List.mem_singleton.1 hr]; exact h2
theorem ev_place {R' : Nat → Nat} {n : Nat} (hR : Rts l R) (hl : l.length ≤ 30) (hk : k < l.length) (hn : n < l[k].options.length) (hR' : Rts (l.set k (oneOf l[k] n)) R') {S S' : List Plc × Int} (hS : S = shwF plcLt (plcOf p) c l (ownF l R p) p day) (hS' : S' = shwF plcLt (plcOf p) c (l.set k (oneOf l[k] n)) (ownF (l.set k (oneOf l[k] n)) R' p) p day)
    (h0 : S.2 = 0) (h1 : S'.2 = 0) (hF : (firstF c (l.set k (oneOf l[k] n))).2 = 0) (hi : i < S'.1.length) : S'.1[i] ∈ S.1 := by
  subst hS hS'
  exact evidence (fun s s2 h _ => by unfold plcOf partF; rw [h]) hR hl hk hn hR' h0 h1 (List.ne_nil_of_mem (first_mem hF)) (List.getElem_mem hi)
theorem ev_root {R' : Nat → Nat} {n : Nat} (hR : Rts l R) (hl : l.length ≤ 30) (hk : k < l.length) (hn : n < l[k].options.length) (hR' : Rts (l.set k (oneOf l[k] n)) R') {S S' : List ByteArray × Int} (hS : S = shwF sLt (rootF p) c l (ownF l R p) p day) (hS' : S' = shwF sLt (rootF p) c (l.set k (oneOf l[k] n)) (ownF (l.set k (oneOf l[k] n)) R' p) p day)
    (h0 : S.2 = 0) (h1 : S'.2 = 0) (hF : (firstF c (l.set k (oneOf l[k] n))).2 = 0) (hi : i < S'.1.length) : S'.1[i] ∈ S.1 := by
  subst hS hS'
  exact evidence (fun s s2 _ h => h) hR hl hk hn hR' h0 h1 (List.ne_nil_of_mem (first_mem hF)) (List.getElem_mem hi)
/-! what the law of histories counts -/
theorem once_map {β : Type} [DecidableEq β] {L : List (List Part)} {f : List Part → β} (hi : i < L.length) : onceF ((L.take (i + 1)).map f) = if f L[i] ∈ onceF ((L.take i).map f) then onceF ((L.take i).map f) else onceF ((L.take i).map f) ++ [f L[i]] := by
  have h := once_step (l := L.map f) (i := i) (by simpa using hi)
  simpa [List.map_take] using h
theorem srt_map {L : List (List Part)} {f : List Part → ByteArray} (hi : i < L.length) : srtU sLt ((L.take (i + 1)).map f) = insU sLt (f L[i]) (srtU sLt ((L.take i).map f)) := by
  have h := srtU_step (lt := sLt) (l := L.map f) (i := i) (by simpa using hi)
  simpa [List.map_take] using h
theorem his_in {S : List Plc × Int} {T : List ByteArray × Int} {L : List (List Part)} (hL : L = casL c (ownF l R p) p day) (hS : S = shwF plcLt (plcOf p) c l (ownF l R p) p day) (hT : T = shwF sLt (rootF p) c l (ownF l R p) p day) (h0 : S.2 = 0) (hi : i < L.length) : plcOf p L[i] ∈ S.1 ∧ rootF p L[i] ∈ T.1 := by
  subst hS hT hL
  have h1 : (shwF sLt (rootF p) c l (ownF l R p) p day).2 = 0 := by rw [shw_code (lt' := plcLt) (g := plcOf p)]; exact h0
  exact ⟨(shw_mem h0).2 ⟨_, List.getElem_mem hi, rfl⟩, (shw_mem h1).2 ⟨_, List.getElem_mem hi, rfl⟩⟩
theorem his_end {S : List Plc × Int} {T : List ByteArray × Int} {L : List (List Part)} (hL : L = casL c (ownF l R p) p day) (hS : S = shwF plcLt (plcOf p) c l (ownF l R p) p day) (hT : T = shwF sLt (rootF p) c l (ownF l R p) p day) (h0 : S.2 = 0) : 0 < S.1.length ∧ (onceF (L.map (plcOf p))).length = S.1.length ∧ srtU sLt (L.map (rootF p)) = T.1 := by
  subst hS hT hL
  have h1 : (shwF sLt (rootF p) c l (ownF l R p) p day).2 = 0 := by rw [shw_code (lt' := plcLt) (g := plcOf p)]; exact h0
  have e0 := (shw_zero h0).2
  have e1 := (shw_zero h1).2
  refine ⟨?_, ?_, e1.2.symm⟩
  · obtain ⟨s, hs⟩ := List.exists_mem_of_ne_nil _ e0.1
    exact List.length_pos_of_mem ((shw_mem h0).2 ⟨s, hs, rfl⟩)
  · rw [e0.2, once_srt]
theorem his_none {S : List Plc × Int} {L : List (List Part)} (hL : L = casL c (ownF l R p) p day) (hS : S = shwF plcLt (plcOf p) c l (ownF l R p) p day) (h : S.2 = 2) : L.length = 0 := by
  subst hS hL
  rw [shw_none h]; rfl
theorem srt_len {α : Type} [DecidableEq α] {lt : α → α → Bool} {f : List Part → α} {L : List (List Part)} : (srtU lt ((L.take i).map f)).length ≤ i := by
  refine Nat.le_trans (srtU_len _) ?_
  rw [List.length_map, List.length_take]; omega
theorem once_len {β : Type} [DecidableEq β] {L : List (List Part)} {f : List Part → β} : (onceF ((L.take i).map f)).length ≤ i := by
  refine Nat.le_trans (once_le _) ?_
  rw [List.length_map, List.length_take]; omega
end
end Go.Sx

