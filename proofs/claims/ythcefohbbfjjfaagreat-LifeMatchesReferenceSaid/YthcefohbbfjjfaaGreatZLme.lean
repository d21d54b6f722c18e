/- The library of a symbolic run and the walks: merged. -/
import Derived.Test.YthcefohbbfjjfaaGreatZLmd
/- Walks, printed by a program out of the code of the functions: each theorem is a contract of one function. -/
namespace Go.Proofs.YthcefohbbfjjfaaGreat
open Go Go.Sx
set_option linter.all false
set_option maxRecDepth 20000
set_option maxHeartbeats 4000000
instance T.fld_29_0 : Has (fldK Tryz.prog 29 0) (0, true, 1) := ⟨by kernel_rfl⟩
instance T.fld_29_1 : Has (fldK Tryz.prog 29 1) (1, true, 3) := ⟨by kernel_rfl⟩
instance T.und_124 : Has (Tryz.prog.underlying 124) (.map 9 9) := ⟨by kernel_rfl⟩
theorem flInside (I : IMap) (v : Value) (l : List Part) (hv : RdS I v l) (s : ByteArray) (hN : fitN l ≤ 12) :
    FnX Tryz.prog 32 #[.agg #[v], .string s] I [] (fun u r => ∃ ns, r = .row u 9 1 ns.length (strCh ns).flatten ∧ (∀ n, n ∈ ns ↔ InsP l s n) ∧ ns.length ≤ 12) := by
 have hv0 := hv
 obtain ⟨A, c0, rfl, hA, hc, hm⟩ := hv
 refine enter Tryz.func32 Tryz.call32 rfl Tryz.ntmps32 rfl (fun w0 => ?_)
 refine go 3 ?_
 refine o_box _ rfl rfl rfl (fun g2 => ?_)
 refine go 7 ?_
 refine o_callX0 (flOf _ _ l hv0) rfl rfl (fun v20 s20 q20 => ?_)
 obtain ⟨m20, kvs, rfl, rfl, hIx, hnd⟩ := q20
 obtain ⟨z, b, hz, hb, hfs, hfn⟩ := hIx.look s
 refine go 1 ?_
 refine o_alloc he rfl (fun g5 => ?_)
 refine go 1 ?_
 refine o_stw _ he rfl rfl rfl rfl rfl rfl ?_
 refine go 8 ?_
 refine o_v rfl (v_get2 m1 (key_string he) he he (s) rfl rfl hz hb) ?_
 refine go 13 ?_
 refine cb rfl (fun h29 p29 => ?_) (fun h29 p29 => ?_)
 ·refine go 7 ?_
  refine fin1 rfl rfl ?_
  refine sx_drop ?_
  refine sx_drop ?_
  refine sx_drop ?_
  refine sx_nilrow 9 1 ?_
  exact q_x ⟨[], rfl, fun n => ⟨fun h => (by cases h), fun h => absurd h (not_ins (hfn (by simpa using h29)) n)⟩, Nat.zero_le _⟩
 ·have hsome : (findP l s).isSome = true := by
    obtain ⟨i, hi, _, hF⟩ := hfs (by simpa using h29)
    rw [hF]; rfl
  refine go 5 ?_
  refine o_map0 (Value.string) he rfl (fun r30 => ?_)
  refine go 7 ?_
  refine bring2 ?_
  refine sx_openmap (fun S0 hO0 hT0 hS0 => ?_)
  refine go 2 ?_
  refine o_range hS0 he rfl rfl (fun i33 => ?_)
  refine go 3 ?_
  refine bring4 ?_
  refine sx_drop ?_
  refine c_loop3 (S0) (kvs) ([]) (fun S todo done => I)
   (fun S todo done => [(1, .string s), (5, .pointer (some ⟨g5, 0, none⟩)), (8, .map (some r30)), (33, .pointer (some ⟨i33, 0, none⟩))])
   (fun S todo done => [.any i33 (S.it m20), .any m20 S.mp, .mp r30 (emap Value.string (encNU (fillR l (done.map Prod.fst)))), .blk g5 121 [.slice A l.length c0, .map (some m20)]])
   (fun S todo done => S.Ok Value.string kvs ∧ S.Todo Value.string todo ∧ (done ++ todo).Perm kvs)
   (fun S todo done => todo.length) ⟨hO0, hT0, .refl _⟩ rfl sb rfl ?_
  intro S todo done ⟨hO, hT, hP⟩
  refine go 3 ?_
  refine bring1 ?_
  refine bring1 ?_
  refine o_next hO hT rfl rfl (fun q34 S34 t34 hst => ?_)
  refine o_v rfl (v_extract rfl (nextA_0 _ _)) ?_
  refine go 3 ?_
  refine cb rfl (fun h35 p35 => ?_) (fun h35 p35 => ?_)
  ·obtain ⟨p, a, b, htd, hO1, hT1, hA1, rfl, rfl⟩ := hst.some h35
   have hpk := perm_mem hP htd
   have hpn := perm_new hP htd hnd
   obtain ⟨i, hi, hpv, hF⟩ := hIx.mem hnd hpk
   have hup : upP l p.1 = l[i].into := by unfold upP; rw [hF]; rfl
   refine go 5 ?_
   refine o_v rfl (v_entry m0 m1 hO1 hA1 rfl) ?_
   refine go 1 ?_
   refine o_v rfl (OV.cast (u := .int .i64 ((i : Nat) : Int)) (v_extract rfl rfl) hpv) ?_
   refine go 9 ?_
   obtain ⟨b42, o42, w42, e42, c42, r42⟩ := RdA.at_ hA (i := i) hi
   obtain ⟨q42, rfl, B42, d42, rfl, hB42, hd42, hm42⟩ := r42
   refine o_v rfl (v_idx he rfl rfl e42 (i) rfl hi) ?_
   refine go 1 ?_
   refine o_v rfl (OV.cast (u := .string (upP l p.1)) (v_ldI he rfl (c42 2 _ rfl)) (congrArg Value.string hup.symm)) ?_
   refine go 9 ?_
   refine cb rfl (fun h46 p46 => ?_) (fun h46 p46 => ?_)
   ·refine go 5 ?_
    refine bring2 ?_
    refine o_mapPut (encNU ((fillR l (done.map Prod.fst)) ++ [(p.1, upP l p.1)])) (key_string he) he (p.1) rfl rfl rfl (encNU_put (fill_new hpn)) ?_
    refine go 3 ?_
    refine bring3 ?_
    refine bring1 ?_
    refine bring3 ?_
    refine bring3 ?_
    exact q_next3 (S34) (a ++ b) (done ++ [p]) ⟨hO1, hT1, perm_step hP htd⟩ (by rw [htd]; simp) rfl sb (by rw [fill_mapY p46])
   ·refine go 3 ?_
    exact q_next3 (S34) (a ++ b) (done ++ [p]) ⟨hO1, hT1, perm_step hP htd⟩ (by rw [htd]; simp) rfl sb (by rw [fill_mapN (by simpa using h46)])
  ·obtain ⟨rfl, rfl, rfl⟩ := hst.none h35
   have hdp : done.Perm kvs := by simpa using hP
   refine go 10 ?_
   refine bring2 ?_
   refine o_mapDel (key_string he) he s rfl rfl ?_
   rw [encNU_del (fill_kn hnd hdp)]
   have hB0 := Bfs.start (v := s) hIx hnd hdp
   refine go 4 ?_
   refine sx_nilrow 9 1 ?_
   refine go 8 ?_
   refine o_buildSlice he he rfl rfl rfl rfl rfl rfl rfl (fun v53 => ?_)
   refine sx_pubrow (l := [s]) rfl rfl ((.one rfl)) (fun I53 j53 R53 => ?_)
   have R53s := R53
   obtain ⟨A53, c53, rfl, _, _, _⟩ := R53s
   refine go 4 ?_
   refine bring2 ?_
   refine sx_drop ?_
   refine bring2 ?_
   refine sx_drop ?_
   refine bring2 ?_
   refine sx_drop ?_
   refine c_loop8 (_) ([s]) ([]) (A53) (c53) (_) ([]) (I53) (fun R lst out A1 c1 v12 xs J => J)
    (fun R lst out A1 c1 v12 xs J => [(8, .map (some r30)), (12, v12), (13, .slice A1 lst.length c1)])
    (fun R lst out A1 c1 v12 xs J => [.row v12 9 1 out.length xs, .mp r30 (emap Value.string (encNU R))])
    (fun R lst out A1 c1 v12 xs J => RdS J (.slice A1 lst.length c1) lst ∧ Flat J xs out ∧ Bfs l s R lst out)
    (fun R lst out A1 c1 v12 xs J => R.length + R.length + min lst.length 1) ⟨R53, .nil, hB0⟩ rfl sb rfl ?_
   intro R lst out A1 c1 v12 xs J ⟨hL, hFo, hB⟩
   have hlen := hB.len
   refine go 8 ?_
   refine cb rfl (fun h56 p56 => ?_) (fun h56 p56 => ?_)
   ·refine go 5 ?_
    refine sx_nilrow 9 1 ?_
    refine go 6 ?_
    refine bring2 ?_
    refine sx_openmap (fun S0 hO0 hT0 hS0 => ?_)
    refine go 2 ?_
    refine o_range hS0 he rfl rfl (fun i58 => ?_)
    refine go 3 ?_
    refine c_loop5 (S0) (R) ([]) (_) ([]) (fun S todo done v14 ys => J)
     (fun S todo done v14 ys => [(8, .map (some r30)), (12, v12), (13, .slice A1 lst.length c1), (14, v14), (58, .pointer (some ⟨i58, 0, none⟩))])
     (fun S todo done v14 ys => [.any i58 (S.it r30), .any r30 S.mp, .row v14 9 1 (nextN lst done).length ys, .row v12 9 1 out.length xs])
     (fun S todo done v14 ys => S.Ok Value.string (encNU R) ∧ S.Todo Value.string (encNU todo) ∧ (done ++ todo).Perm R ∧ Flat J ys (nextN lst done))
     (fun S todo done v14 ys => todo.length) ⟨hO0, hT0, .refl _, .nil⟩ rfl sb rfl ?_
    intro S todo done v14 ys ⟨hO, hT, hP, hFy⟩
    have hdl := hP.length_eq
    rw [List.length_append] at hdl
    have hnl := nextN_len (lst := lst) done
    refine go 3 ?_
    refine bring1 ?_
    refine bring1 ?_
    refine o_next hO hT rfl rfl (fun q59 S59 t59 hst => ?_)
    refine o_v rfl (v_extract rfl (nextA_0 _ _)) ?_
    refine go 3 ?_
    refine cb rfl (fun h60 p60 => ?_) (fun h60 p60 => ?_)
    ·obtain ⟨n, u, a, b, htd, hO1, hT1, hA1, rfl⟩ := hst.nu h60
     refine go 5 ?_
     refine o_v rfl (v_entry m0 m1 hO1 hA1 rfl) ?_
     refine go 11 ?_
     refine o_callV (contains_string _ _ lst hL u) rfl rfl ?_
     refine go 2 ?_
     refine cb rfl (fun h66 p66 => ?_) (fun h66 p66 => ?_)
     ·refine go 4 ?_
      refine o_buildSlice he he rfl rfl rfl rfl rfl rfl rfl (fun v69 => ?_)
      refine go 1 ?_
      refine bring3 ?_
      refine o_appendO he he rfl rfl rfl rfl rfl (by omega) (by omega) rfl (fun v70 => ?_)
      refine go 4 ?_
      refine bring1 ?_
      refine sx_drop ?_
      refine bring3 ?_
      refine bring1 ?_
      refine bring3 ?_
      refine bring3 ?_
      exact q_next5 (S59) (a ++ b) (done ++ [(n, u)]) (_) (_) ⟨hO1, hT1, perm_step hP htd, by rw [nextN_yes (p := (n, u)) p66]; exact hFy.append (.one rfl)⟩ (by rw [htd]; simp) rfl sb (by rw [nextN_yes (p := (n, u)) p66, List.length_append]; rfl)
     ·refine go 3 ?_
      exact q_next5 (S59) (a ++ b) (done ++ [(n, u)]) (_) (_) ⟨hO1, hT1, perm_step hP htd, by rw [nextN_no (p := (n, u)) p66]; exact hFy⟩ (by rw [htd]; simp) rfl sb (by rw [nextN_no (p := (n, u)) p66])
    ·obtain ⟨rfl, rfl, rfl⟩ := hst.nuNone h60
     have hdp : done.Perm R := by simpa using hP
     refine bring1 ?_
     refine sx_shutmap hO ?_
     refine go 8 ?_
     refine bring2 ?_
     refine sx_pubrow (l := (nextN lst done)) rfl rfl (hFy) (fun I71 j71 R71 => ?_)
     have hFo := hFo.le j71
     have R71s := R71
     obtain ⟨A14, c14, rfl, hA71, _, _⟩ := R71s
     refine go 6 ?_
     refine bring1 ?_
     refine sx_drop ?_
     refine c_loop (α := Nat) 0 (fun i => I71)
      (fun i => [(8, .map (some r30)), (12, v12), (14, .slice A14 (nextN lst done).length c14), (71, .slice A14 (nextN lst done).length c14), (72, .int .i64 (((nextN lst done).length : Nat) : Int)), (73, .int .i64 ((i : Nat) : Int))])
      (fun i => [.mp r30 (emap Value.string (encNU (restN R ((nextN lst done).take i)))), .row v12 9 1 out.length xs])
      (fun i => i ≤ (nextN lst done).length)
      (fun i => (nextN lst done).length - i) (Nat.zero_le _) rfl sb (by rw [List.take_zero, restN_nil]) ?_
     intro i hi
     refine go 6 ?_
     refine cb rfl (fun h74 p74 => ?_) (fun h74 p74 => ?_)
     ·have hlt : i < (nextN lst done).length := by omega
      refine go 6 ?_
      obtain ⟨b75, o75, w75, e75, c75, r75⟩ := RdA.at_ hA71 (i := i) (by omega)
      obtain rfl := r75
      refine o_v rfl (v_idx he rfl rfl e75 (i) (by omega) (by omega)) ?_
      refine o_v rfl (v_ldI he rfl (c75 0 _ rfl)) ?_
      refine go 7 ?_
      refine o_mapDel (key_string he) he ((nextN lst done)[i]) rfl rfl ?_
      rw [restN_step hlt hB.kn]
      refine go 8 ?_
      exact q_next (i + 1) (by omega) (by omega) rfl sb rfl
     ·obtain rfl : i = (nextN lst done).length := by omega
      rw [List.take_length]
      refine go 10 ?_
      refine bring1 ?_
      refine o_appendR (R71) rfl he he rfl rfl rfl rfl (by omega) (by omega) rfl (fun v82 x82 f82 => ?_)
      refine go 9 ?_
      exact q_next8 (restN R (nextN lst done)) ((nextN lst done)) (out ++ (nextN lst done)) (A14) (c14) (_) (_) (I71) ⟨R71, hFo.append f82, hB.step hsome hdp⟩ (by have := next_len (lst := lst) hB.kn hdp; omega) rfl sb (by rw [List.length_append])
   ·obtain rfl : lst = [] := List.eq_nil_of_length_eq_zero (by omega)
    refine go 9 ?_
    refine o_callX1 (sortRow0 _ _ out xs hFo (by omega)) rfl rfl (fun v85 s85 q85 => ?_)
    obtain ⟨rfl, m, ys, hpm, hFm, rfl⟩ := q85
    refine go 9 ?_
    refine fin1 rfl rfl ?_
    refine bring1 ?_
    refine sx_drop ?_
    exact q_x ⟨m, by rw [hpm.1, flat_str hFm], fun n => (hpm.2 n).trans hB.over, by have := hpm.1; omega⟩

theorem lifeAdd (I : IMap) {xss : List (List Value)} (g t i : Nat) (hU : Uk 14 xss) (p : Part) (q : Value) (hi : xss[i]? = some (p.cells q)) (u : Use) (dd : Ivl) (off : Nat) (ho : off = i * 14 + 8) :
    FnM Tryz.prog 43 #[.pointer (some ⟨g, off, none⟩), .agg u.cells.toArray, .agg dd.cells.toArray] I (.blk g t xss.flatten) (.blk g t (xss.set i ((addLife dd u p).cells q)).flatten) := by
 refine enter Tryz.func43 Tryz.call43 rfl Tryz.ntmps43 rfl (fun w0 => ?_)
 refine go 3 ?_
 refine o_box _ rfl rfl rfl (fun g4 => ?_)
 refine go 1 ?_
 refine o_box _ rfl rfl rfl (fun g5 => ?_)
 refine go 2 ?_
 refine bring2 ?_
 refine d_start1 T.mixed ?_
 refine d_tv 0 rfl rfl (by kernel_rfl) rfl (.cons _ (.refl _)) rfl (v_move rfl) ?_
 refine d_tv 1 rfl rfl (by kernel_rfl) rfl (.cons _ (.refl _)) rfl (v_move rfl) ?_
 refine d_tv 2 rfl rfl (by kernel_rfl) rfl (.cons _ (.refl _)) rfl (v_move rfl) ?_
 refine d_tv 3 rfl rfl (by kernel_rfl) rfl (.cons _ (.refl _)) rfl (v_move rfl) ?_
 refine d_tv 4 rfl rfl (by kernel_rfl) rfl (.cons _ (.refl _)) rfl (v_nilCheck rfl) ?_
 refine d_tv 5 rfl rfl (by kernel_rfl) rfl (.cons _ (.refl _)) rfl (v_fieldAddr he rfl) ?_
 refine d_tv 7 rfl rfl (by kernel_rfl) rfl (.cons _ (.refl _)) rfl (v_fieldAddr he rfl) ?_
 refine d_tv 8 rfl rfl (by kernel_rfl) rfl (.cons _ (.refl _)) rfl (v_ldp (u.km.cells) m1 he rfl rfl rfl) ?_
 refine d_tv 10 rfl rfl (by kernel_rfl) rfl (.cons _ (.refl _)) rfl (v_move rfl) ?_
 refine d_tv 11 rfl rfl (by kernel_rfl) rfl (.cons _ (.refl _)) rfl (v_nilCheck rfl) ?_
 refine d_tv 12 rfl rfl (by kernel_rfl) rfl (.cons _ (.refl _)) rfl (v_fieldAddr he rfl) ?_
 refine d_tv 14 rfl rfl (by kernel_rfl) rfl (.cons _ (.refl _)) rfl (v_fieldAddr he rfl) ?_
 refine d_tv 15 rfl rfl (by kernel_rfl) rfl (.cons _ (.refl _)) rfl (v_ldp (u.cycles.cells) m1 he rfl rfl rfl) ?_
 refine d_tv 17 rfl rfl (by kernel_rfl) rfl (.cons _ (.refl _)) rfl (v_move rfl) ?_
 refine d_tv 18 rfl rfl (by kernel_rfl) rfl (.cons _ (.refl _)) rfl (v_nilCheck rfl) ?_
 refine d_tv 19 rfl rfl (by kernel_rfl) rfl (.cons _ (.refl _)) rfl (v_fieldAddr he rfl) ?_
 refine d_tv 21 rfl rfl (by kernel_rfl) rfl (.cons _ (.refl _)) rfl (v_ldw m0 he rfl rfl) ?_
 refine d_three 6 13 20 (by kernel_rfl) rfl rfl rfl ?_ ?_ ?_
 ·refine o_val rfl (v_ldcf (p.life.km.cells) m0 hU he rfl (i) 8 (by omega) hi rfl rfl rfl) ?_
  refine d_on (fun _ m => m.keeps (.cons _ (.refl _))) ?_
  refine d_three 9 13 20 (by kernel_rfl) rfl rfl rfl ?_ ?_ ?_
  ·refine o_callV (ivAdd _ p.life.km u.km) rfl rfl ?_
   refine d_on (fun _ m => m.keeps (.cons _ (.refl _))) ?_
   refine d_two 13 20 (by kernel_rfl) rfl rfl ?_ ?_
   ·refine o_val rfl (v_ldcf (p.life.cycles.cells) m0 hU he rfl (i) 10 (by omega) hi rfl rfl rfl) ?_
    refine d_on (fun _ m => m.keeps (.cons _ (.refl _))) ?_
    refine d_two 16 20 (by kernel_rfl) rfl rfl ?_ ?_
    ·refine o_callV (ivAdd _ p.life.cycles u.cycles) rfl rfl ?_
     refine d_on (fun _ m => m.keeps (.cons _ (.refl _))) ?_
     refine d_one 20 (by kernel_rfl) rfl ?_
     refine o_val rfl (v_ldcf (p.life.damage.cells) m0 hU he rfl (i) 12 (by omega) hi rfl rfl rfl) ?_
     refine d_on (fun _ m => m.keeps (.cons _ (.refl _))) ?_
     refine d_one 22 (by kernel_rfl) rfl ?_
     refine o_callV (ivAdd _ p.life.damage dd) rfl rfl ?_
     refine d_on (fun _ m => m.keeps (.cons _ (.refl _))) ?_
     refine d_tv 23 rfl rfl (by kernel_rfl) rfl (.cons _ (.refl _)) rfl (v_nilCheck rfl) ?_
     refine d_tv 24 rfl rfl (by kernel_rfl) rfl (.cons _ (.refl _)) rfl (v_fieldAddr he rfl) ?_
     refine d_one 25 (by kernel_rfl) rfl ?_
     refine o_stcf _ _ (by first | exact hU | exact hU.set rfl _ | exact (hU.set rfl _).set rfl _) he rfl rfl rfl rfl rfl (i) 8 (by omega) (by first | exact hi | exact set_at hi | exact set_at (set_at hi)) (by decide) rfl ?_
     refine d_on (fun _ m => m.keeps (.cons _ (.refl _))) ?_
     refine d_tv 26 rfl rfl (by kernel_rfl) rfl (.cons _ (.refl _)) rfl (v_nilCheck rfl) ?_
     refine d_tv 27 rfl rfl (by kernel_rfl) rfl (.cons _ (.refl _)) rfl (v_fieldAddr he rfl) ?_
     refine d_one 28 (by kernel_rfl) rfl ?_
     refine o_stcf _ _ (by first | exact hU | exact hU.set rfl _ | exact (hU.set rfl _).set rfl _) he rfl rfl rfl rfl rfl (i) 10 (by omega) (by first | exact hi | exact set_at hi | exact set_at (set_at hi)) (by decide) rfl ?_
     refine d_on (fun _ m => m.keeps (.cons _ (.refl _))) ?_
     refine d_tv 29 rfl rfl (by kernel_rfl) rfl (.cons _ (.refl _)) rfl (v_nilCheck rfl) ?_
     refine d_tv 30 rfl rfl (by kernel_rfl) rfl (.cons _ (.refl _)) rfl (v_fieldAddr he rfl) ?_
     refine d_one 31 (by kernel_rfl) rfl ?_
     refine o_stcf _ _ (by first | exact hU | exact hU.set rfl _ | exact (hU.set rfl _).set rfl _) he rfl rfl rfl rfl rfl (i) 12 (by omega) (by first | exact hi | exact set_at hi | exact set_at (set_at hi)) (by decide) rfl ?_
     refine d_on (fun _ m => m.keeps (.cons _ (.refl _))) ?_
     refine d_done (by kernel_rfl) ?_
     refine end0 rfl ?_
     refine bring1 ?_
     refine sx_drop ?_
     refine bring1 ?_
     refine sx_drop ?_
     exact q_m' (by rw [List.set_set, List.set_set]; rfl)
    ·refine o_val rfl (v_ldcf (p.life.damage.cells) m0 hU he rfl (i) 12 (by omega) hi rfl rfl rfl) ?_
     refine d_on (fun _ m => m.keeps (.cons _ (.refl _))) ?_
     refine d_one 16 (by kernel_rfl) rfl ?_
     refine o_callV (ivAdd _ p.life.cycles u.cycles) rfl rfl ?_
     refine d_on (fun _ m => m.keeps (.cons _ (.refl _))) ?_
     refine d_one 22 (by kernel_rfl) rfl ?_
     refine o_callV (ivAdd _ p.life.damage dd) rfl rfl ?_
     refine d_on (fun _ m => m.keeps (.cons _ (.refl _))) ?_
     refine d_tv 23 rfl rfl (by kernel_rfl) rfl (.cons _ (.refl _)) rfl (v_nilCheck rfl) ?_
     refine d_tv 24 rfl rfl (by kernel_rfl) rfl (.cons _ (.refl _)) rfl (v_fieldAddr he rfl) ?_
     refine d_one 25 (by kernel_rfl) rfl ?_
     refine o_stcf _ _ (by first | exact hU | exact hU.set rfl _ | exact (hU.set rfl _).set rfl _) he rfl rfl rfl rfl rfl (i) 8 (by omega) (by first | exact hi | exact set_at hi | exact set_at (set_at hi)) (by decide) rfl ?_
     refine d_on (fun _ m => m.keeps (.cons _ (.refl _))) ?_
     refine d_tv 26 rfl rfl (by kernel_rfl) rfl (.cons _ (.refl _)) rfl (v_nilCheck rfl) ?_
     refine d_tv 27 rfl rfl (by kernel_rfl) rfl (.cons _ (.refl _)) rfl (v_fieldAddr he rfl) ?_
     refine d_one 28 (by kernel_rfl) rfl ?_
     refine o_stcf _ _ (by first | exact hU | exact hU.set rfl _ | exact (hU.set rfl _).set rfl _) he rfl rfl rfl rfl rfl (i) 10 (by omega) (by first | exact hi | exact set_at hi | exact set_at (set_at hi)) (by decide) rfl ?_
     refine d_on (fun _ m => m.keeps (.cons _ (.refl _))) ?_
     refine d_tv 29 rfl rfl (by kernel_rfl) rfl (.cons _ (.refl _)) rfl (v_nilCheck rfl) ?_
     refine d_tv 30 rfl rfl (by kernel_rfl) rfl (.cons _ (.refl _)) rfl (v_fieldAddr he rfl) ?_
     refine d_one 31 (by kernel_rfl) rfl ?_
     refine o_stcf _ _ (by first | exact hU | exact hU.set rfl _ | exact (hU.set rfl _).set rfl _) he rfl rfl rfl rfl rfl (i) 12 (by omega) (by first | exact hi | exact set_at hi | exact set_at (set_at hi)) (by decide) rfl ?_
     refine d_on (fun _ m => m.keeps (.cons _ (.refl _))) ?_
     refine d_done (by kernel_rfl) ?_
     refine end0 rfl ?_
     refine bring1 ?_
     refine sx_drop ?_
     refine bring1 ?_
     refine sx_drop ?_
     exact q_m' (by rw [List.set_set, List.set_set]; rfl)
   ·refine o_val rfl (v_ldcf (p.life.damage.cells) m0 hU he rfl (i) 12 (by omega) hi rfl rfl rfl) ?_
    refine d_on (fun _ m => m.keeps (.cons _ (.refl _))) ?_
    refine d_one 13 (by kernel_rfl) rfl ?_
    refine o_val rfl (v_ldcf (p.life.cycles.cells) m0 hU he rfl (i) 10 (by omega) hi rfl rfl rfl) ?_
    refine d_on (fun _ m => m.keeps (.cons _ (.refl _))) ?_
    refine d_one 16 (by kernel_rfl) rfl ?_
    refine o_callV (ivAdd _ p.life.cycles u.cycles) rfl rfl ?_
    refine d_on (fun _ m => m.keeps (.cons _ (.refl _))) ?_
    refine d_one 22 (by kernel_rfl) rfl ?_
    refine o_callV (ivAdd _ p.life.damage dd) rfl rfl ?_
    refine d_on (fun _ m => m.keeps (.cons _ (.refl _))) ?_
    refine d_tv 23 rfl rfl (by kernel_rfl) rfl (.cons _ (.refl _)) rfl (v_nilCheck rfl) ?_
    refine d_tv 24 rfl rfl (by kernel_rfl) rfl (.cons _ (.refl _)) rfl (v_fieldAddr he rfl) ?_
    refine d_one 25 (by kernel_rfl) rfl ?_
    refine o_stcf _ _ (by first | exact hU | exact hU.set rfl _ | exact (hU.set rfl _).set rfl _) he rfl rfl rfl rfl rfl (i) 8 (by omega) (by first | exact hi | exact set_at hi | exact set_at (set_at hi)) (by decide) rfl ?_
    refine d_on (fun _ m => m.keeps (.cons _ (.refl _))) ?_
    refine d_tv 26 rfl rfl (by kernel_rfl) rfl (.cons _ (.refl _)) rfl (v_nilCheck rfl) ?_
    refine d_tv 27 rfl rfl (by kernel_rfl) rfl (.cons _ (.refl _)) rfl (v_fieldAddr he rfl) ?_
    refine d_one 28 (by kernel_rfl) rfl ?_
    refine o_stcf _ _ (by first | exact hU | exact hU.set rfl _ | exact (hU.set rfl _).set rfl _) he rfl rfl rfl rfl rfl (i) 10 (by omega) (by first | exact hi | exact set_at hi | exact set_at (set_at hi)) (by decide) rfl ?_
    refine d_on (fun _ m => m.keeps (.cons _ (.refl _))) ?_
    refine d_tv 29 rfl rfl (by kernel_rfl) rfl (.cons _ (.refl _)) rfl (v_nilCheck rfl) ?_
    refine d_tv 30 rfl rfl (by kernel_rfl) rfl (.cons _ (.refl _)) rfl (v_fieldAddr he rfl) ?_
    refine d_one 31 (by kernel_rfl) rfl ?_
    refine o_stcf _ _ (by first | exact hU | exact hU.set rfl _ | exact (hU.set rfl _).set rfl _) he rfl rfl rfl rfl rfl (i) 12 (by omega) (by first | exact hi | exact set_at hi | exact set_at (set_at hi)) (by decide) rfl ?_
    refine d_on (fun _ m => m.keeps (.cons _ (.refl _))) ?_
    refine d_done (by kernel_rfl) ?_
    refine end0 rfl ?_
    refine bring1 ?_
    refine sx_drop ?_
    refine bring1 ?_
    refine sx_drop ?_
    exact q_m' (by rw [List.set_set, List.set_set]; rfl)
  ·refine o_val rfl (v_ldcf (p.life.cycles.cells) m0 hU he rfl (i) 10 (by omega) hi rfl rfl rfl) ?_
   refine d_on (fun _ m => m.keeps (.cons _ (.refl _))) ?_
   refine d_two 9 20 (by kernel_rfl) rfl rfl ?_ ?_
   ·refine o_callV (ivAdd _ p.life.km u.km) rfl rfl ?_
    refine d_on (fun _ m => m.keeps (.cons _ (.refl _))) ?_
    refine d_two 16 20 (by kernel_rfl) rfl rfl ?_ ?_
    ·refine o_callV (ivAdd _ p.life.cycles u.cycles) rfl rfl ?_
     refine d_on (fun _ m => m.keeps (.cons _ (.refl _))) ?_
     refine d_one 20 (by kernel_rfl) rfl ?_
     refine o_val rfl (v_ldcf (p.life.damage.cells) m0 hU he rfl (i) 12 (by omega) hi rfl rfl rfl) ?_
     refine d_on (fun _ m => m.keeps (.cons _ (.refl _))) ?_
     refine d_one 22 (by kernel_rfl) rfl ?_
     refine o_callV (ivAdd _ p.life.damage dd) rfl rfl ?_
     refine d_on (fun _ m => m.keeps (.cons _ (.refl _))) ?_
     refine d_tv 23 rfl rfl (by kernel_rfl) rfl (.cons _ (.refl _)) rfl (v_nilCheck rfl) ?_
     refine d_tv 24 rfl rfl (by kernel_rfl) rfl (.cons _ (.refl _)) rfl (v_fieldAddr he rfl) ?_
     refine d_one 25 (by kernel_rfl) rfl ?_
     refine o_stcf _ _ (by first | exact hU | exact hU.set rfl _ | exact (hU.set rfl _).set rfl _) he rfl rfl rfl rfl rfl (i) 8 (by omega) (by first | exact hi | exact set_at hi | exact set_at (set_at hi)) (by decide) rfl ?_
     refine d_on (fun _ m => m.keeps (.cons _ (.refl _))) ?_
     refine d_tv 26 rfl rfl (by kernel_rfl) rfl (.cons _ (.refl _)) rfl (v_nilCheck rfl) ?_
     refine d_tv 27 rfl rfl (by kernel_rfl) rfl (.cons _ (.refl _)) rfl (v_fieldAddr he rfl) ?_
     refine d_one 28 (by kernel_rfl) rfl ?_
     refine o_stcf _ _ (by first | exact hU | exact hU.set rfl _ | exact (hU.set rfl _).set rfl _) he rfl rfl rfl rfl rfl (i) 10 (by omega) (by first | exact hi | exact set_at hi | exact set_at (set_at hi)) (by decide) rfl ?_
     refine d_on (fun _ m => m.keeps (.cons _ (.refl _))) ?_
     refine d_tv 29 rfl rfl (by kernel_rfl) rfl (.cons _ (.refl _)) rfl (v_nilCheck rfl) ?_
     refine d_tv 30 rfl rfl (by kernel_rfl) rfl (.cons _ (.refl _)) rfl (v_fieldAddr he rfl) ?_
     refine d_one 31 (by kernel_rfl) rfl ?_
     refine o_stcf _ _ (by first | exact hU | exact hU.set rfl _ | exact (hU.set rfl _).set rfl _) he rfl rfl rfl rfl rfl (i) 12 (by omega) (by first | exact hi | exact set_at hi | exact set_at (set_at hi)) (by decide) rfl ?_
     refine d_on (fun _ m => m.keeps (.cons _ (.refl _))) ?_
     refine d_done (by kernel_rfl) ?_
     refine end0 rfl ?_
     refine bring1 ?_
     refine sx_drop ?_
     refine bring1 ?_
     refine sx_drop ?_
     exact q_m' (by rw [List.set_set, List.set_set]; rfl)
    ·refine o_val rfl (v_ldcf (p.life.damage.cells) m0 hU he rfl (i) 12 (by omega) hi rfl rfl rfl) ?_
     refine d_on (fun _ m => m.keeps (.cons _ (.refl _))) ?_
     refine d_one 16 (by kernel_rfl) rfl ?_
     refine o_callV (ivAdd _ p.life.cycles u.cycles) rfl rfl ?_
     refine d_on (fun _ m => m.keeps (.cons _ (.refl _))) ?_
     refine d_one 22 (by kernel_rfl) rfl ?_
     refine o_callV (ivAdd _ p.life.damage dd) rfl rfl ?_
     refine d_on (fun _ m => m.keeps (.cons _ (.refl _))) ?_
     refine d_tv 23 rfl rfl (by kernel_rfl) rfl (.cons _ (.refl _)) rfl (v_nilCheck rfl) ?_
     refine d_tv 24 rfl rfl (by kernel_rfl) rfl (.cons _ (.refl _)) rfl (v_fieldAddr he rfl) ?_
     refine d_one 25 (by kernel_rfl) rfl ?_
     refine o_stcf _ _ (by first | exact hU | exact hU.set rfl _ | exact (hU.set rfl _).set rfl _) he rfl rfl rfl rfl rfl (i) 8 (by omega) (by first | exact hi | exact set_at hi | exact set_at (set_at hi)) (by decide) rfl ?_
     refine d_on (fun _ m => m.keeps (.cons _ (.refl _))) ?_
     refine d_tv 26 rfl rfl (by kernel_rfl) rfl (.cons _ (.refl _)) rfl (v_nilCheck rfl) ?_
     refine d_tv 27 rfl rfl (by kernel_rfl) rfl (.cons _ (.refl _)) rfl (v_fieldAddr he rfl) ?_
     refine d_one 28 (by kernel_rfl) rfl ?_
     refine o_stcf _ _ (by first | exact hU | exact hU.set rfl _ | exact (hU.set rfl _).set rfl _) he rfl rfl rfl rfl rfl (i) 10 (by omega) (by first | exact hi | exact set_at hi | exact set_at (set_at hi)) (by decide) rfl ?_
     refine d_on (fun _ m => m.keeps (.cons _ (.refl _))) ?_
     refine d_tv 29 rfl rfl (by kernel_rfl) rfl (.cons _ (.refl _)) rfl (v_nilCheck rfl) ?_
     refine d_tv 30 rfl rfl (by kernel_rfl) rfl (.cons _ (.refl _)) rfl (v_fieldAddr he rfl) ?_
     refine d_one 31 (by kernel_rfl) rfl ?_
     refine o_stcf _ _ (by first | exact hU | exact hU.set rfl _ | exact (hU.set rfl _).set rfl _) he rfl rfl rfl rfl rfl (i) 12 (by omega) (by first | exact hi | exact set_at hi | exact set_at (set_at hi)) (by decide) rfl ?_
     refine d_on (fun _ m => m.keeps (.cons _ (.refl _))) ?_
     refine d_done (by kernel_rfl) ?_
     refine end0 rfl ?_
     refine bring1 ?_
     refine sx_drop ?_
     refine bring1 ?_
     refine sx_drop ?_
     exact q_m' (by rw [List.set_set, List.set_set]; rfl)
   ·refine o_val rfl (v_ldcf (p.life.damage.cells) m0 hU he rfl (i) 12 (by omega) hi rfl rfl rfl) ?_
    refine d_on (fun _ m => m.keeps (.cons _ (.refl _))) ?_
    refine d_one 9 (by kernel_rfl) rfl ?_
    refine o_callV (ivAdd _ p.life.km u.km) rfl rfl ?_
    refine d_on (fun _ m => m.keeps (.cons _ (.refl _))) ?_
    refine d_one 16 (by kernel_rfl) rfl ?_
    refine o_callV (ivAdd _ p.life.cycles u.cycles) rfl rfl ?_
    refine d_on (fun _ m => m.keeps (.cons _ (.refl _))) ?_
    refine d_one 22 (by kernel_rfl) rfl ?_
    refine o_callV (ivAdd _ p.life.damage dd) rfl rfl ?_
    refine d_on (fun _ m => m.keeps (.cons _ (.refl _))) ?_
    refine d_tv 23 rfl rfl (by kernel_rfl) rfl (.cons _ (.refl _)) rfl (v_nilCheck rfl) ?_
    refine d_tv 24 rfl rfl (by kernel_rfl) rfl (.cons _ (.refl _)) rfl (v_fieldAddr he rfl) ?_
    refine d_one 25 (by kernel_rfl) rfl ?_
    refine o_stcf _ _ (by first | exact hU | exact hU.set rfl _ | exact (hU.set rfl _).set rfl _) he rfl rfl rfl rfl rfl (i) 8 (by omega) (by first | exact hi | exact set_at hi | exact set_at (set_at hi)) (by decide) rfl ?_
    refine d_on (fun _ m => m.keeps (.cons _ (.refl _))) ?_
    refine d_tv 26 rfl rfl (by kernel_rfl) rfl (.cons _ (.refl _)) rfl (v_nilCheck rfl) ?_
    refine d_tv 27 rfl rfl (by kernel_rfl) rfl (.cons _ (.refl _)) rfl (v_fieldAddr he rfl) ?_
    refine d_one 28 (by kernel_rfl) rfl ?_
    refine o_stcf _ _ (by first | exact hU | exact hU.set rfl _ | exact (hU.set rfl _).set rfl _) he rfl rfl rfl rfl rfl (i) 10 (by omega) (by first | exact hi | exact set_at hi | exact set_at (set_at hi)) (by decide) rfl ?_
    refine d_on (fun _ m => m.keeps (.cons _ (.refl _))) ?_
    refine d_tv 29 rfl rfl (by kernel_rfl) rfl (.cons _ (.refl _)) rfl (v_nilCheck rfl) ?_
    refine d_tv 30 rfl rfl (by kernel_rfl) rfl (.cons _ (.refl _)) rfl (v_fieldAddr he rfl) ?_
    refine d_one 31 (by kernel_rfl) rfl ?_
    refine o_stcf _ _ (by first | exact hU | exact hU.set rfl _ | exact (hU.set rfl _).set rfl _) he rfl rfl rfl rfl rfl (i) 12 (by omega) (by first | exact hi | exact set_at hi | exact set_at (set_at hi)) (by decide) rfl ?_
    refine d_on (fun _ m => m.keeps (.cons _ (.refl _))) ?_
    refine d_done (by kernel_rfl) ?_
    refine end0 rfl ?_
    refine bring1 ?_
    refine sx_drop ?_
    refine bring1 ?_
    refine sx_drop ?_
    exact q_m' (by rw [List.set_set, List.set_set]; rfl)
  ·refine o_val rfl (v_ldcf (p.life.damage.cells) m0 hU he rfl (i) 12 (by omega) hi rfl rfl rfl) ?_
   refine d_on (fun _ m => m.keeps (.cons _ (.refl _))) ?_
   refine d_two 9 13 (by kernel_rfl) rfl rfl ?_ ?_
   ·refine o_callV (ivAdd _ p.life.km u.km) rfl rfl ?_
    refine d_on (fun _ m => m.keeps (.cons _ (.refl _))) ?_
    refine d_one 13 (by kernel_rfl) rfl ?_
    refine o_val rfl (v_ldcf (p.life.cycles.cells) m0 hU he rfl (i) 10 (by omega) hi rfl rfl rfl) ?_
    refine d_on (fun _ m => m.keeps (.cons _ (.refl _))) ?_
    refine d_one 16 (by kernel_rfl) rfl ?_
    refine o_callV (ivAdd _ p.life.cycles u.cycles) rfl rfl ?_
    refine d_on (fun _ m => m.keeps (.cons _ (.refl _))) ?_
    refine d_one 22 (by kernel_rfl) rfl ?_
    refine o_callV (ivAdd _ p.life.damage dd) rfl rfl ?_
    refine d_on (fun _ m => m.keeps (.cons _ (.refl _))) ?_
    refine d_tv 23 rfl rfl (by kernel_rfl) rfl (.cons _ (.refl _)) rfl (v_nilCheck rfl) ?_
    refine d_tv 24 rfl rfl (by kernel_rfl) rfl (.cons _ (.refl _)) rfl (v_fieldAddr he rfl) ?_
    refine d_one 25 (by kernel_rfl) rfl ?_
    refine o_stcf _ _ (by first | exact hU | exact hU.set rfl _ | exact (hU.set rfl _).set rfl _) he rfl rfl rfl rfl rfl (i) 8 (by omega) (by first | exact hi | exact set_at hi | exact set_at (set_at hi)) (by decide) rfl ?_
    refine d_on (fun _ m => m.keeps (.cons _ (.refl _))) ?_
    refine d_tv 26 rfl rfl (by kernel_rfl) rfl (.cons _ (.refl _)) rfl (v_nilCheck rfl) ?_
    refine d_tv 27 rfl rfl (by kernel_rfl) rfl (.cons _ (.refl _)) rfl (v_fieldAddr he rfl) ?_
    refine d_one 28 (by kernel_rfl) rfl ?_
    refine o_stcf _ _ (by first | exact hU | exact hU.set rfl _ | exact (hU.set rfl _).set rfl _) he rfl rfl rfl rfl rfl (i) 10 (by omega) (by first | exact hi | exact set_at hi | exact set_at (set_at hi)) (by decide) rfl ?_
    refine d_on (fun _ m => m.keeps (.cons _ (.refl _))) ?_
    refine d_tv 29 rfl rfl (by kernel_rfl) rfl (.cons _ (.refl _)) rfl (v_nilCheck rfl) ?_
    refine d_tv 30 rfl rfl (by kernel_rfl) rfl (.cons _ (.refl _)) rfl (v_fieldAddr he rfl) ?_
    refine d_one 31 (by kernel_rfl) rfl ?_
    refine o_stcf _ _ (by first | exact hU | exact hU.set rfl _ | exact (hU.set rfl _).set rfl _) he rfl rfl rfl rfl rfl (i) 12 (by omega) (by first | exact hi | exact set_at hi | exact set_at (set_at hi)) (by decide) rfl ?_
    refine d_on (fun _ m => m.keeps (.cons _ (.refl _))) ?_
    refine d_done (by kernel_rfl) ?_
    refine end0 rfl ?_
    refine bring1 ?_
    refine sx_drop ?_
    refine bring1 ?_
    refine sx_drop ?_
    exact q_m' (by rw [List.set_set, List.set_set]; rfl)
   ·refine o_val rfl (v_ldcf (p.life.cycles.cells) m0 hU he rfl (i) 10 (by omega) hi rfl rfl rfl) ?_
    refine d_on (fun _ m => m.keeps (.cons _ (.refl _))) ?_
    refine d_one 9 (by kernel_rfl) rfl ?_
    refine o_callV (ivAdd _ p.life.km u.km) rfl rfl ?_
    refine d_on (fun _ m => m.keeps (.cons _ (.refl _))) ?_
    refine d_one 16 (by kernel_rfl) rfl ?_
    refine o_callV (ivAdd _ p.life.cycles u.cycles) rfl rfl ?_
    refine d_on (fun _ m => m.keeps (.cons _ (.refl _))) ?_
    refine d_one 22 (by kernel_rfl) rfl ?_
    refine o_callV (ivAdd _ p.life.damage dd) rfl rfl ?_
    refine d_on (fun _ m => m.keeps (.cons _ (.refl _))) ?_
    refine d_tv 23 rfl rfl (by kernel_rfl) rfl (.cons _ (.refl _)) rfl (v_nilCheck rfl) ?_
    refine d_tv 24 rfl rfl (by kernel_rfl) rfl (.cons _ (.refl _)) rfl (v_fieldAddr he rfl) ?_
    refine d_one 25 (by kernel_rfl) rfl ?_
    refine o_stcf _ _ (by first | exact hU | exact hU.set rfl _ | exact (hU.set rfl _).set rfl _) he rfl rfl rfl rfl rfl (i) 8 (by omega) (by first | exact hi | exact set_at hi | exact set_at (set_at hi)) (by decide) rfl ?_
    refine d_on (fun _ m => m.keeps (.cons _ (.refl _))) ?_
    refine d_tv 26 rfl rfl (by kernel_rfl) rfl (.cons _ (.refl _)) rfl (v_nilCheck rfl) ?_
    refine d_tv 27 rfl rfl (by kernel_rfl) rfl (.cons _ (.refl _)) rfl (v_fieldAddr he rfl) ?_
    refine d_one 28 (by kernel_rfl) rfl ?_
    refine o_stcf _ _ (by first | exact hU | exact hU.set rfl _ | exact (hU.set rfl _).set rfl _) he rfl rfl rfl rfl rfl (i) 10 (by omega) (by first | exact hi | exact set_at hi | exact set_at (set_at hi)) (by decide) rfl ?_
    refine d_on (fun _ m => m.keeps (.cons _ (.refl _))) ?_
    refine d_tv 29 rfl rfl (by kernel_rfl) rfl (.cons _ (.refl _)) rfl (v_nilCheck rfl) ?_
    refine d_tv 30 rfl rfl (by kernel_rfl) rfl (.cons _ (.refl _)) rfl (v_fieldAddr he rfl) ?_
    refine d_one 31 (by kernel_rfl) rfl ?_
    refine o_stcf _ _ (by first | exact hU | exact hU.set rfl _ | exact (hU.set rfl _).set rfl _) he rfl rfl rfl rfl rfl (i) 12 (by omega) (by first | exact hi | exact set_at hi | exact set_at (set_at hi)) (by decide) rfl ?_
    refine d_on (fun _ m => m.keeps (.cons _ (.refl _))) ?_
    refine d_done (by kernel_rfl) ?_
    refine end0 rfl ?_
    refine bring1 ?_
    refine sx_drop ?_
    refine bring1 ?_
    refine sx_drop ?_
    exact q_m' (by rw [List.set_set, List.set_set]; rfl)
 ·refine o_val rfl (v_ldcf (p.life.cycles.cells) m0 hU he rfl (i) 10 (by omega) hi rfl rfl rfl) ?_
  refine d_on (fun _ m => m.keeps (.cons _ (.refl _))) ?_
  refine d_two 6 20 (by kernel_rfl) rfl rfl ?_ ?_
  ·refine o_val rfl (v_ldcf (p.life.km.cells) m0 hU he rfl (i) 8 (by omega) hi rfl rfl rfl) ?_
   refine d_on (fun _ m => m.keeps (.cons _ (.refl _))) ?_
   refine d_two 9 20 (by kernel_rfl) rfl rfl ?_ ?_
   ·refine o_callV (ivAdd _ p.life.km u.km) rfl rfl ?_
    refine d_on (fun _ m => m.keeps (.cons _ (.refl _))) ?_
    refine d_two 16 20 (by kernel_rfl) rfl rfl ?_ ?_
    ·refine o_callV (ivAdd _ p.life.cycles u.cycles) rfl rfl ?_
     refine d_on (fun _ m => m.keeps (.cons _ (.refl _))) ?_
     refine d_one 20 (by kernel_rfl) rfl ?_
     refine o_val rfl (v_ldcf (p.life.damage.cells) m0 hU he rfl (i) 12 (by omega) hi rfl rfl rfl) ?_
     refine d_on (fun _ m => m.keeps (.cons _ (.refl _))) ?_
     refine d_one 22 (by kernel_rfl) rfl ?_
     refine o_callV (ivAdd _ p.life.damage dd) rfl rfl ?_
     refine d_on (fun _ m => m.keeps (.cons _ (.refl _))) ?_
     refine d_tv 23 rfl rfl (by kernel_rfl) rfl (.cons _ (.refl _)) rfl (v_nilCheck rfl) ?_
     refine d_tv 24 rfl rfl (by kernel_rfl) rfl (.cons _ (.refl _)) rfl (v_fieldAddr he rfl) ?_
     refine d_one 25 (by kernel_rfl) rfl ?_
     refine o_stcf _ _ (by first | exact hU | exact hU.set rfl _ | exact (hU.set rfl _).set rfl _) he rfl rfl rfl rfl rfl (i) 8 (by omega) (by first | exact hi | exact set_at hi | exact set_at (set_at hi)) (by decide) rfl ?_
     refine d_on (fun _ m => m.keeps (.cons _ (.refl _))) ?_
     refine d_tv 26 rfl rfl (by kernel_rfl) rfl (.cons _ (.refl _)) rfl (v_nilCheck rfl) ?_
     refine d_tv 27 rfl rfl (by kernel_rfl) rfl (.cons _ (.refl _)) rfl (v_fieldAddr he rfl) ?_
     refine d_one 28 (by kernel_rfl) rfl ?_
     refine o_stcf _ _ (by first | exact hU | exact hU.set rfl _ | exact (hU.set rfl _).set rfl _) he rfl rfl rfl rfl rfl (i) 10 (by omega) (by first | exact hi | exact set_at hi | exact set_at (set_at hi)) (by decide) rfl ?_
     refine d_on (fun _ m => m.keeps (.cons _ (.refl _))) ?_
     refine d_tv 29 rfl rfl (by kernel_rfl) rfl (.cons _ (.refl _)) rfl (v_nilCheck rfl) ?_
     refine d_tv 30 rfl rfl (by kernel_rfl) rfl (.cons _ (.refl _)) rfl (v_fieldAddr he rfl) ?_
     refine d_one 31 (by kernel_rfl) rfl ?_
     refine o_stcf _ _ (by first | exact hU | exact hU.set rfl _ | exact (hU.set rfl _).set rfl _) he rfl rfl rfl rfl rfl (i) 12 (by omega) (by first | exact hi | exact set_at hi | exact set_at (set_at hi)) (by decide) rfl ?_
     refine d_on (fun _ m => m.keeps (.cons _ (.refl _))) ?_
     refine d_done (by kernel_rfl) ?_
     refine end0 rfl ?_
     refine bring1 ?_
     refine sx_drop ?_
     refine bring1 ?_
     refine sx_drop ?_
     exact q_m' (by rw [List.set_set, List.set_set]; rfl)
    ·refine o_val rfl (v_ldcf (p.life.damage.cells) m0 hU he rfl (i) 12 (by omega) hi rfl rfl rfl) ?_
     refine d_on (fun _ m => m.keeps (.cons _ (.refl _))) ?_
     refine d_one 16 (by kernel_rfl) rfl ?_
     refine o_callV (ivAdd _ p.life.cycles u.cycles) rfl rfl ?_
     refine d_on (fun _ m => m.keeps (.cons _ (.refl _))) ?_
     refine d_one 22 (by kernel_rfl) rfl ?_
     refine o_callV (ivAdd _ p.life.damage dd) rfl rfl ?_
     refine d_on (fun _ m => m.keeps (.cons _ (.refl _))) ?_
     refine d_tv 23 rfl rfl (by kernel_rfl) rfl (.cons _ (.refl _)) rfl (v_nilCheck rfl) ?_
     refine d_tv 24 rfl rfl (by kernel_rfl) rfl (.cons _ (.refl _)) rfl (v_fieldAddr he rfl) ?_
     refine d_one 25 (by kernel_rfl) rfl ?_
     refine o_stcf _ _ (by first | exact hU | exact hU.set rfl _ | exact (hU.set rfl _).set rfl _) he rfl rfl rfl rfl rfl (i) 8 (by omega) (by first | exact hi | exact set_at hi | exact set_at (set_at hi)) (by decide) rfl ?_
     refine d_on (fun _ m => m.keeps (.cons _ (.refl _))) ?_
     refine d_tv 26 rfl rfl (by kernel_rfl) rfl (.cons _ (.refl _)) rfl (v_nilCheck rfl) ?_
     refine d_tv 27 rfl rfl (by kernel_rfl) rfl (.cons _ (.refl _)) rfl (v_fieldAddr he rfl) ?_
     refine d_one 28 (by kernel_rfl) rfl ?_
     refine o_stcf _ _ (by first | exact hU | exact hU.set rfl _ | exact (hU.set rfl _).set rfl _) he rfl rfl rfl rfl rfl (i) 10 (by omega) (by first | exact hi | exact set_at hi | exact set_at (set_at hi)) (by decide) rfl ?_
     refine d_on (fun _ m => m.keeps (.cons _ (.refl _))) ?_
     refine d_tv 29 rfl rfl (by kernel_rfl) rfl (.cons _ (.refl _)) rfl (v_nilCheck rfl) ?_
     refine d_tv 30 rfl rfl (by kernel_rfl) rfl (.cons _ (.refl _)) rfl (v_fieldAddr he rfl) ?_
     refine d_one 31 (by kernel_rfl) rfl ?_
     refine o_stcf _ _ (by first | exact hU | exact hU.set rfl _ | exact (hU.set rfl _).set rfl _) he rfl rfl rfl rfl rfl (i) 12 (by omega) (by first | exact hi | exact set_at hi | exact set_at (set_at hi)) (by decide) rfl ?_
     refine d_on (fun _ m => m.keeps (.cons _ (.refl _))) ?_
     refine d_done (by kernel_rfl) ?_
     refine end0 rfl ?_
     refine bring1 ?_
     refine sx_drop ?_
     refine bring1 ?_
     refine sx_drop ?_
     exact q_m' (by rw [List.set_set, List.set_set]; rfl)
   ·refine o_val rfl (v_ldcf (p.life.damage.cells) m0 hU he rfl (i) 12 (by omega) hi rfl rfl rfl) ?_
    refine d_on (fun _ m => m.keeps (.cons _ (.refl _))) ?_
    refine d_one 9 (by kernel_rfl) rfl ?_
    refine o_callV (ivAdd _ p.life.km u.km) rfl rfl ?_
    refine d_on (fun _ m => m.keeps (.cons _ (.refl _))) ?_
    refine d_one 16 (by kernel_rfl) rfl ?_
    refine o_callV (ivAdd _ p.life.cycles u.cycles) rfl rfl ?_
    refine d_on (fun _ m => m.keeps (.cons _ (.refl _))) ?_
    refine d_one 22 (by kernel_rfl) rfl ?_
    refine o_callV (ivAdd _ p.life.damage dd) rfl rfl ?_
    refine d_on (fun _ m => m.keeps (.cons _ (.refl _))) ?_
    refine d_tv 23 rfl rfl (by kernel_rfl) rfl (.cons _ (.refl _)) rfl (v_nilCheck rfl) ?_
    refine d_tv 24 rfl rfl (by kernel_rfl) rfl (.cons _ (.refl _)) rfl (v_fieldAddr he rfl) ?_
    refine d_one 25 (by kernel_rfl) rfl ?_
    refine o_stcf _ _ (by first | exact hU | exact hU.set rfl _ | exact (hU.set rfl _).set rfl _) he rfl rfl rfl rfl rfl (i) 8 (by omega) (by first | exact hi | exact set_at hi | exact set_at (set_at hi)) (by decide) rfl ?_
    refine d_on (fun _ m => m.keeps (.cons _ (.refl _))) ?_
    refine d_tv 26 rfl rfl (by kernel_rfl) rfl (.cons _ (.refl _)) rfl (v_nilCheck rfl) ?_
    refine d_tv 27 rfl rfl (by kernel_rfl) rfl (.cons _ (.refl _)) rfl (v_fieldAddr he rfl) ?_
    refine d_one 28 (by kernel_rfl) rfl ?_
    refine o_stcf _ _ (by first | exact hU | exact hU.set rfl _ | exact (hU.set rfl _).set rfl _) he rfl rfl rfl rfl rfl (i) 10 (by omega) (by first | exact hi | exact set_at hi | exact set_at (set_at hi)) (by decide) rfl ?_
    refine d_on (fun _ m => m.keeps (.cons _ (.refl _))) ?_
    refine d_tv 29 rfl rfl (by kernel_rfl) rfl (.cons _ (.refl _)) rfl (v_nilCheck rfl) ?_
    refine d_tv 30 rfl rfl (by kernel_rfl) rfl (.cons _ (.refl _)) rfl (v_fieldAddr he rfl) ?_
    refine d_one 31 (by kernel_rfl) rfl ?_
    refine o_stcf _ _ (by first | exact hU | exact hU.set rfl _ | exact (hU.set rfl _).set rfl _) he rfl rfl rfl rfl rfl (i) 12 (by omega) (by first | exact hi | exact set_at hi | exact set_at (set_at hi)) (by decide) rfl ?_
    refine d_on (fun _ m => m.keeps (.cons _ (.refl _))) ?_
    refine d_done (by kernel_rfl) ?_
    refine end0 rfl ?_
    refine bring1 ?_
    refine sx_drop ?_
    refine bring1 ?_
    refine sx_drop ?_
    exact q_m' (by rw [List.set_set, List.set_set]; rfl)
  ·refine o_val rfl (v_ldcf (p.life.damage.cells) m0 hU he rfl (i) 12 (by omega) hi rfl rfl rfl) ?_
   refine d_on (fun _ m => m.keeps (.cons _ (.refl _))) ?_
   refine d_one 6 (by kernel_rfl) rfl ?_
   refine o_val rfl (v_ldcf (p.life.km.cells) m0 hU he rfl (i) 8 (by omega) hi rfl rfl rfl) ?_
   refine d_on (fun _ m => m.keeps (.cons _ (.refl _))) ?_
   refine d_one 9 (by kernel_rfl) rfl ?_
   refine o_callV (ivAdd _ p.life.km u.km) rfl rfl ?_
   refine d_on (fun _ m => m.keeps (.cons _ (.refl _))) ?_
   refine d_one 16 (by kernel_rfl) rfl ?_
   refine o_callV (ivAdd _ p.life.cycles u.cycles) rfl rfl ?_
   refine d_on (fun _ m => m.keeps (.cons _ (.refl _))) ?_
   refine d_one 22 (by kernel_rfl) rfl ?_
   refine o_callV (ivAdd _ p.life.damage dd) rfl rfl ?_
   refine d_on (fun _ m => m.keeps (.cons _ (.refl _))) ?_
   refine d_tv 23 rfl rfl (by kernel_rfl) rfl (.cons _ (.refl _)) rfl (v_nilCheck rfl) ?_
   refine d_tv 24 rfl rfl (by kernel_rfl) rfl (.cons _ (.refl _)) rfl (v_fieldAddr he rfl) ?_
   refine d_one 25 (by kernel_rfl) rfl ?_
   refine o_stcf _ _ (by first | exact hU | exact hU.set rfl _ | exact (hU.set rfl _).set rfl _) he rfl rfl rfl rfl rfl (i) 8 (by omega) (by first | exact hi | exact set_at hi | exact set_at (set_at hi)) (by decide) rfl ?_
   refine d_on (fun _ m => m.keeps (.cons _ (.refl _))) ?_
   refine d_tv 26 rfl rfl (by kernel_rfl) rfl (.cons _ (.refl _)) rfl (v_nilCheck rfl) ?_
   refine d_tv 27 rfl rfl (by kernel_rfl) rfl (.cons _ (.refl _)) rfl (v_fieldAddr he rfl) ?_
   refine d_one 28 (by kernel_rfl) rfl ?_
   refine o_stcf _ _ (by first | exact hU | exact hU.set rfl _ | exact (hU.set rfl _).set rfl _) he rfl rfl rfl rfl rfl (i) 10 (by omega) (by first | exact hi | exact set_at hi | exact set_at (set_at hi)) (by decide) rfl ?_
   refine d_on (fun _ m => m.keeps (.cons _ (.refl _))) ?_
   refine d_tv 29 rfl rfl (by kernel_rfl) rfl (.cons _ (.refl _)) rfl (v_nilCheck rfl) ?_
   refine d_tv 30 rfl rfl (by kernel_rfl) rfl (.cons _ (.refl _)) rfl (v_fieldAddr he rfl) ?_
   refine d_one 31 (by kernel_rfl) rfl ?_
   refine o_stcf _ _ (by first | exact hU | exact hU.set rfl _ | exact (hU.set rfl _).set rfl _) he rfl rfl rfl rfl rfl (i) 12 (by omega) (by first | exact hi | exact set_at hi | exact set_at (set_at hi)) (by decide) rfl ?_
   refine d_on (fun _ m => m.keeps (.cons _ (.refl _))) ?_
   refine d_done (by kernel_rfl) ?_
   refine end0 rfl ?_
   refine bring1 ?_
   refine sx_drop ?_
   refine bring1 ?_
   refine sx_drop ?_
   exact q_m' (by rw [List.set_set, List.set_set]; rfl)
 ·refine o_val rfl (v_ldcf (p.life.damage.cells) m0 hU he rfl (i) 12 (by omega) hi rfl rfl rfl) ?_
  refine d_on (fun _ m => m.keeps (.cons _ (.refl _))) ?_
  refine d_two 6 13 (by kernel_rfl) rfl rfl ?_ ?_
  ·refine o_val rfl (v_ldcf (p.life.km.cells) m0 hU he rfl (i) 8 (by omega) hi rfl rfl rfl) ?_
   refine d_on (fun _ m => m.keeps (.cons _ (.refl _))) ?_
   refine d_two 9 13 (by kernel_rfl) rfl rfl ?_ ?_
   ·refine o_callV (ivAdd _ p.life.km u.km) rfl rfl ?_
    refine d_on (fun _ m => m.keeps (.cons _ (.refl _))) ?_
    refine d_one 13 (by kernel_rfl) rfl ?_
    refine o_val rfl (v_ldcf (p.life.cycles.cells) m0 hU he rfl (i) 10 (by omega) hi rfl rfl rfl) ?_
    refine d_on (fun _ m => m.keeps (.cons _ (.refl _))) ?_
    refine d_one 16 (by kernel_rfl) rfl ?_
    refine o_callV (ivAdd _ p.life.cycles u.cycles) rfl rfl ?_
    refine d_on (fun _ m => m.keeps (.cons _ (.refl _))) ?_
    refine d_one 22 (by kernel_rfl) rfl ?_
    refine o_callV (ivAdd _ p.life.damage dd) rfl rfl ?_
    refine d_on (fun _ m => m.keeps (.cons _ (.refl _))) ?_
    refine d_tv 23 rfl rfl (by kernel_rfl) rfl (.cons _ (.refl _)) rfl (v_nilCheck rfl) ?_
    refine d_tv 24 rfl rfl (by kernel_rfl) rfl (.cons _ (.refl _)) rfl (v_fieldAddr he rfl) ?_
    refine d_one 25 (by kernel_rfl) rfl ?_
    refine o_stcf _ _ (by first | exact hU | exact hU.set rfl _ | exact (hU.set rfl _).set rfl _) he rfl rfl rfl rfl rfl (i) 8 (by omega) (by first | exact hi | exact set_at hi | exact set_at (set_at hi)) (by decide) rfl ?_
    refine d_on (fun _ m => m.keeps (.cons _ (.refl _))) ?_
    refine d_tv 26 rfl rfl (by kernel_rfl) rfl (.cons _ (.refl _)) rfl (v_nilCheck rfl) ?_
    refine d_tv 27 rfl rfl (by kernel_rfl) rfl (.cons _ (.refl _)) rfl (v_fieldAddr he rfl) ?_
    refine d_one 28 (by kernel_rfl) rfl ?_
    refine o_stcf _ _ (by first | exact hU | exact hU.set rfl _ | exact (hU.set rfl _).set rfl _) he rfl rfl rfl rfl rfl (i) 10 (by omega) (by first | exact hi | exact set_at hi | exact set_at (set_at hi)) (by decide) rfl ?_
    refine d_on (fun _ m => m.keeps (.cons _ (.refl _))) ?_
    refine d_tv 29 rfl rfl (by kernel_rfl) rfl (.cons _ (.refl _)) rfl (v_nilCheck rfl) ?_
    refine d_tv 30 rfl rfl (by kernel_rfl) rfl (.cons _ (.refl _)) rfl (v_fieldAddr he rfl) ?_
    refine d_one 31 (by kernel_rfl) rfl ?_
    refine o_stcf _ _ (by first | exact hU | exact hU.set rfl _ | exact (hU.set rfl _).set rfl _) he rfl rfl rfl rfl rfl (i) 12 (by omega) (by first | exact hi | exact set_at hi | exact set_at (set_at hi)) (by decide) rfl ?_
    refine d_on (fun _ m => m.keeps (.cons _ (.refl _))) ?_
    refine d_done (by kernel_rfl) ?_
    refine end0 rfl ?_
    refine bring1 ?_
    refine sx_drop ?_
    refine bring1 ?_
    refine sx_drop ?_
    exact q_m' (by rw [List.set_set, List.set_set]; rfl)
   ·refine o_val rfl (v_ldcf (p.life.cycles.cells) m0 hU he rfl (i) 10 (by omega) hi rfl rfl rfl) ?_
    refine d_on (fun _ m => m.keeps (.cons _ (.refl _))) ?_
    refine d_one 9 (by kernel_rfl) rfl ?_
    refine o_callV (ivAdd _ p.life.km u.km) rfl rfl ?_
    refine d_on (fun _ m => m.keeps (.cons _ (.refl _))) ?_
    refine d_one 16 (by kernel_rfl) rfl ?_
    refine o_callV (ivAdd _ p.life.cycles u.cycles) rfl rfl ?_
    refine d_on (fun _ m => m.keeps (.cons _ (.refl _))) ?_
    refine d_one 22 (by kernel_rfl) rfl ?_
    refine o_callV (ivAdd _ p.life.damage dd) rfl rfl ?_
    refine d_on (fun _ m => m.keeps (.cons _ (.refl _))) ?_
    refine d_tv 23 rfl rfl (by kernel_rfl) rfl (.cons _ (.refl _)) rfl (v_nilCheck rfl) ?_
    refine d_tv 24 rfl rfl (by kernel_rfl) rfl (.cons _ (.refl _)) rfl (v_fieldAddr he rfl) ?_
    refine d_one 25 (by kernel_rfl) rfl ?_
    refine o_stcf _ _ (by first | exact hU | exact hU.set rfl _ | exact (hU.set rfl _).set rfl _) he rfl rfl rfl rfl rfl (i) 8 (by omega) (by first | exact hi | exact set_at hi | exact set_at (set_at hi)) (by decide) rfl ?_
    refine d_on (fun _ m => m.keeps (.cons _ (.refl _))) ?_
    refine d_tv 26 rfl rfl (by kernel_rfl) rfl (.cons _ (.refl _)) rfl (v_nilCheck rfl) ?_
    refine d_tv 27 rfl rfl (by kernel_rfl) rfl (.cons _ (.refl _)) rfl (v_fieldAddr he rfl) ?_
    refine d_one 28 (by kernel_rfl) rfl ?_
    refine o_stcf _ _ (by first | exact hU | exact hU.set rfl _ | exact (hU.set rfl _).set rfl _) he rfl rfl rfl rfl rfl (i) 10 (by omega) (by first | exact hi | exact set_at hi | exact set_at (set_at hi)) (by decide) rfl ?_
    refine d_on (fun _ m => m.keeps (.cons _ (.refl _))) ?_
    refine d_tv 29 rfl rfl (by kernel_rfl) rfl (.cons _ (.refl _)) rfl (v_nilCheck rfl) ?_
    refine d_tv 30 rfl rfl (by kernel_rfl) rfl (.cons _ (.refl _)) rfl (v_fieldAddr he rfl) ?_
    refine d_one 31 (by kernel_rfl) rfl ?_
    refine o_stcf _ _ (by first | exact hU | exact hU.set rfl _ | exact (hU.set rfl _).set rfl _) he rfl rfl rfl rfl rfl (i) 12 (by omega) (by first | exact hi | exact set_at hi | exact set_at (set_at hi)) (by decide) rfl ?_
    refine d_on (fun _ m => m.keeps (.cons _ (.refl _))) ?_
    refine d_done (by kernel_rfl) ?_
    refine end0 rfl ?_
    refine bring1 ?_
    refine sx_drop ?_
    refine bring1 ?_
    refine sx_drop ?_
    exact q_m' (by rw [List.set_set, List.set_set]; rfl)
  ·refine o_val rfl (v_ldcf (p.life.cycles.cells) m0 hU he rfl (i) 10 (by omega) hi rfl rfl rfl) ?_
   refine d_on (fun _ m => m.keeps (.cons _ (.refl _))) ?_
   refine d_one 6 (by kernel_rfl) rfl ?_
   refine o_val rfl (v_ldcf (p.life.km.cells) m0 hU he rfl (i) 8 (by omega) hi rfl rfl rfl) ?_
   refine d_on (fun _ m => m.keeps (.cons _ (.refl _))) ?_
   refine d_one 9 (by kernel_rfl) rfl ?_
   refine o_callV (ivAdd _ p.life.km u.km) rfl rfl ?_
   refine d_on (fun _ m => m.keeps (.cons _ (.refl _))) ?_
   refine d_one 16 (by kernel_rfl) rfl ?_
   refine o_callV (ivAdd _ p.life.cycles u.cycles) rfl rfl ?_
   refine d_on (fun _ m => m.keeps (.cons _ (.refl _))) ?_
   refine d_one 22 (by kernel_rfl) rfl ?_
   refine o_callV (ivAdd _ p.life.damage dd) rfl rfl ?_
   refine d_on (fun _ m => m.keeps (.cons _ (.refl _))) ?_
   refine d_tv 23 rfl rfl (by kernel_rfl) rfl (.cons _ (.refl _)) rfl (v_nilCheck rfl) ?_
   refine d_tv 24 rfl rfl (by kernel_rfl) rfl (.cons _ (.refl _)) rfl (v_fieldAddr he rfl) ?_
   refine d_one 25 (by kernel_rfl) rfl ?_
   refine o_stcf _ _ (by first | exact hU | exact hU.set rfl _ | exact (hU.set rfl _).set rfl _) he rfl rfl rfl rfl rfl (i) 8 (by omega) (by first | exact hi | exact set_at hi | exact set_at (set_at hi)) (by decide) rfl ?_
   refine d_on (fun _ m => m.keeps (.cons _ (.refl _))) ?_
   refine d_tv 26 rfl rfl (by kernel_rfl) rfl (.cons _ (.refl _)) rfl (v_nilCheck rfl) ?_
   refine d_tv 27 rfl rfl (by kernel_rfl) rfl (.cons _ (.refl _)) rfl (v_fieldAddr he rfl) ?_
   refine d_one 28 (by kernel_rfl) rfl ?_
   refine o_stcf _ _ (by first | exact hU | exact hU.set rfl _ | exact (hU.set rfl _).set rfl _) he rfl rfl rfl rfl rfl (i) 10 (by omega) (by first | exact hi | exact set_at hi | exact set_at (set_at hi)) (by decide) rfl ?_
   refine d_on (fun _ m => m.keeps (.cons _ (.refl _))) ?_
   refine d_tv 29 rfl rfl (by kernel_rfl) rfl (.cons _ (.refl _)) rfl (v_nilCheck rfl) ?_
   refine d_tv 30 rfl rfl (by kernel_rfl) rfl (.cons _ (.refl _)) rfl (v_fieldAddr he rfl) ?_
   refine d_one 31 (by kernel_rfl) rfl ?_
   refine o_stcf _ _ (by first | exact hU | exact hU.set rfl _ | exact (hU.set rfl _).set rfl _) he rfl rfl rfl rfl rfl (i) 12 (by omega) (by first | exact hi | exact set_at hi | exact set_at (set_at hi)) (by decide) rfl ?_
   refine d_on (fun _ m => m.keeps (.cons _ (.refl _))) ?_
   refine d_done (by kernel_rfl) ?_
   refine end0 rfl ?_
   refine bring1 ?_
   refine sx_drop ?_
   refine bring1 ?_
   refine sx_drop ?_
   exact q_m' (by rw [List.set_set, List.set_set]; rfl)

theorem lifeAfter (I : IMap) (x : Evt) (g : Nat) (day : Int) (cg : ICells I g 0 [ci day]) :
    FnV Tryz.prog 38 #[.agg (Day.ch x).toArray, .pointer (some ⟨g, 0, none⟩)] I (.bool (decide (x.day > day))) := by
 refine enter Tryz.func38 Tryz.call38 rfl Tryz.ntmps38 rfl (fun w0 => ?_)
 show SX _ _ _ (argsL [.agg x.cells.toArray, .pointer (some ⟨g, 0, none⟩)] 0) _ _
 refine go 3 ?_
 refine o_box _ rfl rfl rfl (fun g2 => ?_)
 refine go 7 ?_
 refine o_v rfl (v_ldI he rfl (cg 0 _ rfl)) ?_
 refine go 5 ?_
 refine fin1 rfl rfl ?_
 exact q_v rfl

theorem lifeRun (I : IMap) (vc : Value) (c : List Kind) (hvc : RdS I vc c) (hsc : SmC c) (f : Fm) (sf : Value) (hf : FmRd I [ci f.op, ci f.n, sf] f) (v : Value) (l : List Evt) (hv : RdS I v l) (hl : l.length ≤ 25) (hse : ∀ e ∈ l, SmE e) (day : Int) :
    FnI Tryz.prog 16 #[.agg #[vc, ci f.op, ci f.n, sf], v, .int .i64 day] I (fun u J => ∃ w, u = .tuple #[.agg #[w], .int .i64 (runL f c l day).2.1, .int .i64 (runL f c l day).2.2] ∧ RdS J w (runL f c l day).1) := by
 obtain ⟨U, hUe⟩ : ∃ U, sortF (l.filter fun e => !decide (e.day > day)) = U := ⟨_, rfl⟩
 have hUl : U.length ≤ 25 := by rw [← hUe, sortF_len]; exact Nat.le_trans (List.length_filter_le _ _) hl
 have hUs : ∀ e ∈ U, SmE e := fun e he => hse e (List.mem_filter.1 (sortF_mem.1 (hUe ▸ he))).1
 refine enter Tryz.func16 Tryz.call16 rfl Tryz.ntmps16 rfl (fun w0 => ?_)
 refine go 3 ?_
 refine o_box _ rfl rfl rfl (fun g3 => ?_)
 refine go 1 ?_
 refine o_box _ rfl rfl rfl (fun g5 => ?_)
 refine go 1 ?_
 refine o_alloc he rfl (fun g6 => ?_)
 refine go 6 ?_
 refine c_cut (I' := I) (L' := [(1, v), (3, .pointer (some ⟨g3, 0, none⟩)), (5, .pointer (some ⟨g5, 0, none⟩)), (6, .pointer (some ⟨g6, 0, none⟩)), (27, .bool (!validC c || !validFm f))]) (H' := [.blk g3 29 [vc, ci f.op, ci f.n, sf], .blk g5 3 [ci day], .blk g6 39 [.slice none 0 0]]) ?_ ?_
 ·refine go 2 ?_
  refine o_v rfl (v_ldp ([vc]) m2 he rfl rfl rfl) ?_
  refine go 1 ?_
  refine o_callV (catValid _ vc c hvc hsc) rfl rfl ?_
  refine go 2 ?_
  refine sxb 22 rfl (fun h22 p22 => ?_) (fun h22 p22 => ?_)
  ·refine go 7 ?_
   refine bring1 ?_
   refine bring2 ?_
   exact q_cut ⟨rfl, rfl, rfl, rfl, (congrArg (fun b => some (Value.bool b)) (by simp only [h22, bS])), trivial⟩ rfl rfl
  ·refine go 1 ?_
   refine o_cons (o_yes rfl rfl h22 (o_val rfl (v_ldp ([ci f.op, ci f.n, sf]) m2 he rfl rfl rfl) ?_))
   refine go 1 ?_
   refine o_yes rfl rfl h22 (o_callV (fmValid _ f _ hf) rfl rfl ?_)
   refine go 4 ?_
   refine bring1 ?_
   refine bring2 ?_
   exact q_cut ⟨rfl, rfl, rfl, rfl, (congrArg (fun b => some (Value.bool b)) (by simp only [h22, bS])), trivial⟩ rfl rfl
 ·refine cb rfl (fun h27 p27 => ?_) (fun h27 p27 => ?_)
  ·refine go 3 ?_
   refine o_val rfl (v_build (pl := [(0, 1)]) he he rfl rfl) ?_
   refine go 1 ?_
   refine bring2 ?_
   refine o_stw _ he rfl rfl rfl rfl rfl rfl ?_
   refine go 6 ?_
   refine fin3 rfl ⟨_, _, _, rfl, m0, .inr ⟨_, he, rfl, rfl⟩⟩ rfl rfl ?_
   exact q_i ⟨_, by rw [runL_bad h27], by rw [runL_bad h27]; exact RdS.nil'⟩
  ·refine go 6 ?_
   refine bring1 ?_
   refine sx_pub (fun Ig5 jg5 cg5 => ?_)
   have hvc := hvc.le jg5
   have hv := hv.le jg5
   have hf := hf.le jg5
   refine o_callX0 (clone_Evt _ v l hv (by omega)) rfl rfl (fun v30 s30 q30 => ?_)
   obtain ⟨xss, rfl, hx⟩ := q30
   obtain rfl := evCh_of hx
   refine o_v rfl (v_makeFunc rfl rfl) ?_
   refine go 1 ?_
   refine o_callD (deleteFunc_Evt _ _ l (by omega) 38 [.pointer (some ⟨g5, 0, none⟩)] (fun x => decide (x.day > day)) (fun I2 hI2 x => lifeAfter I2 x g5 day (cg5.le hI2))) rfl rfl (fun v32 I32 j32 q32 => ?_)
   have hvc := hvc.le j32
   have hf := hf.le j32
   refine go 6 ?_
   refine o_alloc he rfl (fun g10 => ?_)
   refine go 7 ?_
   refine o_call (cSort _ _ (l.filter fun e => !decide (e.day > day)) q32 (Nat.le_trans (List.length_filter_le _ _) (by omega))) rfl rfl (fun v34 I34 j34 q34 => ?_)
   have hvc := hvc.le j34
   have hf := hf.le j34
   rw [hUe] at q34
   have R34 := q34
   obtain ⟨A34, c34, rfl, hA34, _, _⟩ := q34
   refine go 5 ?_
   refine bring1 ?_
   refine bring2 ?_
   refine bring2 ?_
   refine c_loop4 ((0 : Nat)) ([]) (.slice none 0 0) (I34) (fun i st v10 J => J)
    (fun i st v10 J => [(3, .pointer (some ⟨g3, 0, none⟩)), (6, .pointer (some ⟨g6, 0, none⟩)), (10, .pointer (some ⟨g10, 0, none⟩)), (34, .slice A34 U.length c34), (35, .int .i64 ((U.length : Nat) : Int)), (36, .int .i64 ((i : Nat) : Int))])
    (fun i st v10 J => [.blk g10 39 [v10], .blk g6 39 [.slice none 0 0], .blk g3 29 [vc, ci f.op, ci f.n, sf]])
    (fun i st v10 J => i ≤ U.length ∧ ILe I34 J ∧ RdS J v10 st ∧ SmF st ∧ cntS st ≤ i ∧ runLGo f c st (i : Nat) (U.drop i) = runL f c l day)
    (fun i st v10 J => U.length - i) ⟨Nat.zero_le _, ILe.refl _, RdS.nil', SmF.nil, Nat.le_refl _, by rw [runL_go h27, hUe]; rfl⟩ rfl sb rfl ?_
   intro i st v10 J ⟨hi, hJ, hv10, hsf, hcn, hgo⟩
   have hvc := hvc.le hJ
   have hf := hf.le hJ
   have hA34 := hA34.le hJ
   refine go 6 ?_
   refine cb rfl (fun h37 p37 => ?_) (fun h37 p37 => ?_)
   ·have hlt : i < U.length := by omega
    refine go 7 ?_
    obtain ⟨b39, o39, w39, e39, c39, r39⟩ := RdA.at_ hA34 (i := i) (by omega)
    obtain rfl := r39
    refine o_v rfl (v_idx he rfl rfl e39 (i) (by omega) (by omega)) ?_
    refine o_v rfl (v_ldIa he rfl c39 rfl) ?_
    refine go 1 ?_
    refine o_alloc he rfl (fun g12 => ?_)
    refine go 2 ?_
    refine o_stw _ he rfl rfl rfl rfl rfl rfl ?_
    refine go 5 ?_
    refine o_v rfl (v_ldp ([vc]) m3 he rfl rfl rfl) ?_
    refine go 3 ?_
    refine o_call (flApply _ vc c hvc hsc v10 st hv10 hsf U[i] (hUs _ (List.getElem_mem hlt))) rfl rfl (fun v46 I46 j46 q46 => ?_)
    have hvc := hvc.le j46
    have hf := hf.le j46
    have hA34 := hA34.le j46
    obtain ⟨w46, rfl, hw46⟩ := q46
    refine go 4 ?_
    refine o_alloc he rfl (fun g13 => ?_)
    refine go 1 ?_
    refine o_stw _ he rfl rfl rfl rfl rfl (by simp [RdS.one hw46]) ?_
    refine go 10 ?_
    refine cb rfl (fun h50 p50 => ?_) (fun h50 p50 => ?_)
    ·refine go 3 ?_
     refine o_val rfl (v_build (pl := [(0, 1)]) he he rfl rfl) ?_
     refine go 3 ?_
     refine bring3 ?_
     refine o_stw _ he rfl rfl rfl rfl rfl rfl ?_
     refine go 11 ?_
     refine fin3 rfl ⟨_, _, _, rfl, m0, .inr ⟨_, he, rfl, rfl⟩⟩ rfl rfl ?_
     have hr : runL f c l day = ([], ((i : Nat) : Int), (applyF c st U[i]).2) := by rw [← hgo, goL_stop hlt p50]
     exact q_i ⟨_, by rw [hr] <;> rfl, by rw [hr]; exact RdS.nil'⟩
    ·have h0 : (applyF c st U[i]).2 = 0 := by simpa using h50
     have hsm := applyF_sm (c := c) hsf (hUs _ (List.getElem_mem hlt))
     have hc1 := cnt_apply h0
     have hc2 : (applyF c st U[i]).1.length + fitN (applyF c st U[i]).1 ≤ i + 1 := by unfold cntS at *; omega
     have hfl : fitN (applyF c st U[i]).1 ≤ (applyF c st U[i]).1.length := List.length_filter_le _ _
     have hfn : fitN (applyF c st U[i]).1 ≤ 12 := by omega
     refine go 7 ?_
     refine bring2 ?_
     refine o_stw _ he rfl rfl rfl rfl rfl (by simp [RdS.one hw46]) ?_
     refine go 9 ?_
     refine cb rfl (fun h57 p57 => ?_) (fun h57 p57 => ?_)
     ·refine go 9 ?_
      refine bring1 ?_
      refine sx_drop ?_
      refine bring1 ?_
      refine sx_drop ?_
      exact q_next4 (i + 1) ((applyF c st U[i]).1) (w46) (I46) ⟨by omega, hJ.trans j46, hw46, hsm, by omega, (goL_plain hlt h0 p57).symm.trans hgo⟩ (by omega) rfl sb rfl
     ·have h4 : U[i].op = 4 := by simpa using h57
      refine go 3 ?_
      refine c_cutx3 (Ix := (fun v15 ns ys => I46)) (Lx := (fun v15 ns ys => [(3, .pointer (some ⟨g3, 0, none⟩)), (6, .pointer (some ⟨g6, 0, none⟩)), (10, .pointer (some ⟨g10, 0, none⟩)), (34, .slice A34 U.length c34), (35, .int .i64 ((U.length : Nat) : Int)), (36, .int .i64 ((i : Nat) : Int)), (12, .pointer (some ⟨g12, 0, none⟩)), (15, v15)])) (Hx := (fun v15 ns ys => [.row v15 9 1 (ns ++ [U[i].part]).length ys, .blk g10 39 [w46], .blk g12 43 U[i].cells, .blk g6 39 [.slice none 0 0], .blk g3 29 [vc, ci f.op, ci f.n, sf]])) (p := (fun v15 ns ys => Flat I46 ys (ns ++ [U[i].part]) ∧ ∀ n, n ∈ ns ↔ InsP (applyF c st U[i]).1 U[i].part n)) ?_ ?_
      ·refine d_startH T.mixed ?_
       refine d_tv 0 rfl rfl (by kernel_rfl) rfl (.refl _) rfl (v_ldw m0 he rfl rfl) ?_
       refine d_tv 1 rfl rfl (by kernel_rfl) rfl (.refl _) rfl (v_fieldAddr he rfl) ?_
       refine d_tv 2 rfl rfl (by kernel_rfl) rfl (.refl _) rfl (v_ld m2 he rfl rfl) ?_
       refine d_tv 4 rfl rfl (by kernel_rfl) rfl (.refl _) rfl (v_fieldAddr he rfl) ?_
       refine d_tv 5 rfl rfl (by kernel_rfl) rfl (.refl _) rfl (v_ld m2 he rfl rfl) ?_
       refine d_two 3 6 (by kernel_rfl) rfl rfl ?_ ?_
       ·refine o_callX0 (flInside _ _ (applyF c st U[i]).1 hw46 U[i].part hfn) rfl rfl (fun v61 s61 q61 => ?_)
        obtain ⟨ns, rfl, hns, hnl⟩ := q61
        refine d_on (fun _ m => m.keeps (.cons _ (.refl _))) ?_
        refine d_one 6 (by kernel_rfl) rfl ?_
        refine o_buildSlice he he rfl rfl rfl rfl rfl rfl rfl (fun v64 => ?_)
        refine d_on (fun _ m => m.keeps (.cons _ (.cons _ (.refl _)))) ?_
        refine d_one 7 (by kernel_rfl) rfl ?_
        refine bring1 ?_
        refine o_appendO he he rfl rfl rfl rfl rfl (by omega) (by omega) rfl (fun v65 => ?_)
        refine d_on (fun _ m => m.keeps (.cons _ (.cons _ (.refl _)))) ?_
        refine d_tv 8 rfl rfl (by kernel_rfl) rfl (.cons _ (.cons _ (.refl _))) rfl (v_assign rfl) ?_
        refine d_done (by kernel_rfl) ?_
        refine go 1 ?_
        refine bring1 ?_
        refine sx_drop ?_
        refine bring2 ?_
        refine sx_drop ?_
        exact q_cutx3 (_) (ns) (_) ⟨(str_flat _ ns).flat.append (.one rfl), hns⟩ sb (by rw [List.length_append]; rfl) rfl
       ·refine o_buildSlice he he rfl rfl rfl rfl rfl rfl rfl (fun v64 => ?_)
        refine d_on (fun _ m => m.keeps (.cons _ (.refl _))) ?_
        refine d_one 3 (by kernel_rfl) rfl ?_
        refine o_callX0 (flInside _ _ (applyF c st U[i]).1 hw46 U[i].part hfn) rfl rfl (fun v61 s61 q61 => ?_)
        obtain ⟨ns, rfl, hns, hnl⟩ := q61
        refine d_on (fun _ m => m.keeps (.cons _ (.cons _ (.refl _)))) ?_
        refine d_one 7 (by kernel_rfl) rfl ?_
        refine bring1 ?_
        refine bring1 ?_
        refine o_appendO he he rfl rfl rfl rfl rfl (by omega) (by omega) rfl (fun v65 => ?_)
        refine d_on (fun _ m => m.keeps (.cons _ (.cons _ (.refl _)))) ?_
        refine d_tv 8 rfl rfl (by kernel_rfl) rfl (.cons _ (.cons _ (.refl _))) rfl (v_assign rfl) ?_
        refine d_done (by kernel_rfl) ?_
        refine go 1 ?_
        refine bring1 ?_
        refine sx_drop ?_
        refine bring2 ?_
        refine sx_drop ?_
        exact q_cutx3 (_) (ns) (_) ⟨(str_flat _ ns).flat.append (.one rfl), hns⟩ sb (by rw [List.length_append]; rfl) rfl
      ·intro v15 ns ys ⟨hF15, hns⟩
       refine go 2 ?_
       refine sx_pubrow (l := (ns ++ [U[i].part])) rfl rfl (hF15) (fun I66 j66 R66 => ?_)
       have hvc := hvc.le j66
       have hf := hf.le j66
       have hA34 := hA34.le j66
       have hw46 := hw46.le j66
       have R66s := R66
       obtain ⟨A15, c15, rfl, _, _, _⟩ := R66s
       refine go 1 ?_
       refine o_v rfl (v_ldp ([ci f.op, ci f.n, sf]) m3 he rfl rfl rfl) ?_
       refine go 1 ?_
       refine o_v rfl (v_ldp (U[i].use.cells) m1 he rfl rfl rfl) ?_
       refine go 1 ?_
       refine o_callV (fmDamage _ f _ hf U[i].use) rfl rfl ?_
       refine go 1 ?_
       refine o_alloc he rfl (fun g16 => ?_)
       refine go 1 ?_
       refine o_stw _ he rfl rfl rfl rfl rfl rfl ?_
       refine go 7 ?_
       refine o_callX0 (clone_Part _ _ (applyF c st U[i]).1 hw46 (by omega)) rfl rfl (fun v73 s73 q73 => ?_)
       obtain ⟨xss, rfl, hx⟩ := q73
       have hpos : 0 < (applyF c st U[i]).1.length := by rw [apply_run h0 h4]; exact run_pos h0 h4
       refine sx_row hx.uk hx.len (fun h9 _ => absurd h9 (by omega)) (fun g73 cap73 rest73 e73 hR73 hc73 hm73 => ?_)
       subst e73
       refine go 2 ?_
       refine bring2 ?_
       refine o_st1 he rfl rfl rfl rfl ?_
       refine go 11 ?_
       refine bring5 ?_
       refine bring5 ?_
       refine bring5 ?_
       refine bring3 ?_
       refine bring5 ?_
       refine bring5 ?_
       refine c_loop2 ((0 : Nat)) (xss) (fun k xss => I66)
        (fun k xss => [(3, .pointer (some ⟨g3, 0, none⟩)), (6, .pointer (some ⟨g6, 0, none⟩)), (10, .pointer (some ⟨g10, 0, none⟩)), (34, .slice A34 U.length c34), (35, .int .i64 ((U.length : Nat) : Int)), (36, .int .i64 ((i : Nat) : Int)), (12, .pointer (some ⟨g12, 0, none⟩)), (15, .slice A15 (ns ++ [U[i].part]).length c15), (16, .pointer (some ⟨g16, 0, none⟩)), (77, .int .i64 (((applyF c st U[i]).1.length : Nat) : Int)), (78, .int .i64 ((k : Nat) : Int))])
        (fun k xss => [.blk g73 49 (xss ++ rest73).flatten, .blk g16 32 (damF f U[i].use).cells, .blk g10 39 [.slice (some ⟨g73, 0, none⟩) (applyF c st U[i]).1.length cap73], .blk g12 43 U[i].cells, .blk g6 39 [.slice none 0 0], .blk g3 29 [vc, ci f.op, ci f.n, sf]])
        (fun k xss => k ≤ (applyF c st U[i]).1.length ∧ FlatC I66 xss (useUp (applyF c st U[i]).1 U[i] (damF f U[i].use) k))
        (fun k xss => (applyF c st U[i]).1.length - k) ⟨Nat.zero_le _, by rw [useUp_zero]; exact hx⟩ rfl sb rfl ?_
       intro k xss ⟨hk, hx⟩
       refine go 6 ?_
       refine cb rfl (fun h79 p79 => ?_) (fun h79 p79 => ?_)
       ·have hlk : k < (applyF c st U[i]).1.length := by omega
        have hlx : k < xss.length := by rw [hx.len, useUp_len]; exact hlk
        obtain ⟨q, hkc, hq⟩ := chunk_at hx (useUp_at hlk) rest73
        have hU14 : Uk 14 (xss ++ rest73) := hx.uk.append hR73
        refine go 16 ?_
        refine o_v rfl (v_idx he rfl rfl rfl (k) (by omega) (by omega)) ?_
        refine go 1 ?_
        refine o_v rfl (v_ldc1 m0 hU14 he rfl (k) 0 (by omega) hkc rfl) ?_
        refine go 1 ?_
        refine o_callV (contains_string _ _ (ns ++ [U[i].part]) R66 _) rfl rfl ?_
        refine go 2 ?_
        refine cb rfl (fun h88 p88 => ?_) (fun h88 p88 => ?_)
        ·refine d_start1 T.mixed ?_
         refine d_tv 0 rfl rfl (by kernel_rfl) rfl (.cons _ (.refl _)) rfl (v_fieldAddr he rfl) ?_
         refine d_tv 1 rfl rfl (by kernel_rfl) rfl (.cons _ (.refl _)) rfl (v_ld m1 he rfl rfl) ?_
         refine d_tv 2 rfl rfl (by kernel_rfl) rfl (.cons _ (.refl _)) rfl (v_move rfl) ?_
         refine d_tv 3 rfl rfl (by kernel_rfl) rfl (.cons _ (.refl _)) rfl (v_idx he rfl rfl rfl (k) (by omega) (by omega)) ?_
         refine d_tv 4 rfl rfl (by kernel_rfl) rfl (.cons _ (.refl _)) rfl (v_fieldAddr he rfl) ?_
         refine d_tv 5 rfl rfl (by kernel_rfl) rfl (.cons _ (.refl _)) rfl (v_fieldAddr he rfl) ?_
         refine d_tv 6 rfl rfl (by kernel_rfl) rfl (.cons _ (.refl _)) rfl (v_ldp (U[i].use.cells) m2 he rfl rfl rfl) ?_
         refine d_tv 7 rfl rfl (by kernel_rfl) rfl (.cons _ (.refl _)) rfl (v_ldw m0 he rfl rfl) ?_
         refine d_one 8 (by kernel_rfl) rfl ?_
         refine o_callM (lifeAdd _ g73 49 k hU14 (applyF c st U[i]).1[k] q hkc U[i].use (damF f U[i].use) _ (by omega)) rfl rfl ?_
         refine d_on (fun _ m => m.keeps (.cons _ (.refl _))) ?_
         refine d_done (by kernel_rfl) ?_
         refine go 7 ?_
         exact q_next2 (k + 1) (_) ⟨by omega, by rw [useUp_succ hlk, use_yes' hlk hns p88]; exact hx.set (x := addLife (damF f U[i].use) U[i].use (applyF c st U[i]).1[k]) ⟨q, rfl, hq⟩ k⟩ (by omega) rfl sb (by rw [List.set_append_left _ _ hlx])
        ·refine go 8 ?_
         exact q_next2 (k + 1) (_) ⟨by omega, by rw [useUp_no hlk hns p88]; exact hx⟩ (by omega) rfl sb rfl
       ·obtain rfl : k = (applyF c st U[i]).1.length := by omega
        rw [useUp_all] at hx
        refine sx_unrow hx.uk hR73 (by rw [hx.len, use_len]) hc73 hm73 ?_
        refine sx_pubrow (l := useL (applyF c st U[i]).1 U[i] (damF f U[i].use)) rfl use_len.symm hx.flat (fun I9 j9 R9 => ?_)
        refine go 11 ?_
        refine sx_drop ?_
        refine bring1 ?_
        refine sx_drop ?_
        exact q_next4 (i + 1) (useL (applyF c st U[i]).1 U[i] (damF f U[i].use)) (_) (I9) ⟨by omega, hJ.trans (j46.trans (j66.trans j9)), R9, use_sm hsm, by rw [cnt_use]; omega, (goL_use hlt h0 h4).symm.trans hgo⟩ (by omega) rfl sb rfl
   ·refine go 9 ?_
    refine bring1 ?_
    refine o_stw _ he rfl rfl rfl rfl rfl (by simp [RdS.one hv10]) ?_
    refine go 5 ?_
    refine fin3 rfl ⟨_, _, _, rfl, m0, .inr ⟨_, he, rfl, rfl⟩⟩ rfl rfl ?_
    have hr : runL f c l day = (st, -1, 0) := by rw [← hgo, goL_end (by omega)]
    exact q_i ⟨_, by rw [hr] <;> rfl, by rw [hr]; exact hv10⟩

end Go.Proofs.YthcefohbbfjjfaaGreat

/- Currencies: what they are, what the life of a part is in each. -/
set_option linter.all false
namespace Go.Sx
open Go
def sKm : ByteArray := ⟨#[107, 109]⟩
def sCycles : ByteArray := ⟨#[99, 121, 99, 108, 101, 115]⟩
def sDamage : ByteArray := ⟨#[100, 97, 109, 97, 103, 101]⟩
def sDays : ByteArray := ⟨#[100, 97, 121, 115]⟩
def sAge : ByteArray := ⟨#[97, 103, 101]⟩
def curL : List ByteArray := [sKm, sCycles, sDamage, sDays, sAge]
def isCur (s : ByteArray) : Bool := decide (s ∈ curL)
def sinceI (day a : Int) : Ivl := if a ≥ day then zIvl else ⟨day - max a (day - (1000000000000 : Int)), day - max a (day - (1000000000000 : Int))⟩
def curI (p : Part) (s : ByteArray) (day : Int) : Ivl := if s = sKm then p.life.km else if s = sCycles then p.life.cycles else if s = sDamage then p.life.damage else if s = sDays then sinceI day p.since else sinceI day p.made
def valueF (p : Part) (s : ByteArray) (day : Int) : Ivl × Int := if isCur s = false then (zIvl, 15) else if (decide (day < 0) || decide (day > 40000)) = true then (zIvl, 13) else (curI p s day, 0)
section
variable {p : Part} {s : ByteArray} {day : Int}
theorem value_no (h : isCur s = false) : valueF p s day = (zIvl, 15) := if_pos h
theorem value_bad (h : isCur s = true) (hd : (decide (day < 0) || decide (day > 40000)) = true) : valueF p s day = (zIvl, 13) := by unfold valueF; rw [if_neg (by rw [h]; decide), if_pos hd]
theorem value_yes (h : isCur s = true) (hd : (decide (day < 0) || decide (day > 40000)) = false) : valueF p s day = (curI p s day, 0) := by unfold valueF; rw [if_neg (by rw [h]; decide), if_neg (by rw [hd]; decide)]
/-- a table of five -/
theorem cur_look (v1 v2 v3 v4 v5 : Value) (s : ByteArray) : mget [(sKm, v1), (sCycles, v2), (sDamage, v3), (sDays, v4), (sAge, v5)] s = if s = sKm then some v1 else if s = sCycles then some v2 else if s = sDamage then some v3 else if s = sDays then some v4 else if s = sAge then some v5 else none := by
  simp only [mget]
  simp only [eq_comm (b := s)]
theorem cur_cases (s : ByteArray) : (s = sKm ∨ s = sCycles ∨ s = sDamage ∨ s = sDays ∨ s = sAge) ∨ isCur s = false := by
  cases h : isCur s with
  | false => exact .inr rfl
  | true =>
    left
    have h1 : s ∈ curL := of_decide_eq_true h
    simpa [curL] using h1
theorem cur_ne : (sKm ≠ sCycles ∧ sKm ≠ sDamage ∧ sKm ≠ sDays ∧ sKm ≠ sAge) ∧ (sCycles ≠ sDamage ∧ sCycles ≠ sDays ∧ sCycles ≠ sAge) ∧ (sDamage ≠ sDays ∧ sDamage ≠ sAge) ∧ sDays ≠ sAge := by decide +kernel
/-- the reference -/
def isCurR (s : ByteArray) : Bool := (((decide (s = sKm) || decide (s = sCycles)) || decide (s = sDamage)) || decide (s = sDays)) || decide (s = sAge)
theorem isCurR_is : isCurR s = isCur s := by
  rw [Bool.eq_iff_iff]
  simp only [isCurR, isCur, curL, Bool.or_eq_true, decide_eq_true_eq, List.mem_cons, List.not_mem_nil, or_false]
  constructor
  · rintro ((((h | h) | h) | h) | h) <;> simp [h]
  · rintro (h | h | h | h | h) <;> simp [h]
theorem since_ref (day a : Int) (n : Int) (h : (a < day - 1000000000000 ∧ n = 1000000000000) ∨ (¬ a < day - 1000000000000 ∧ a < day ∧ n = day - a) ∨ (¬ a < day - 1000000000000 ∧ ¬ a < day ∧ n = 0)) : sinceI day a = ⟨n, n⟩ := by
  unfold sinceI zIvl
  split
  · rcases h with ⟨h1, h2⟩ | ⟨h1, h2, h3⟩ | ⟨h1, h2, h3⟩
    · omega
    · omega
    · rw [h3]
  · rename_i hd
    rcases h with ⟨h1, h2⟩ | ⟨h1, h2, h3⟩ | ⟨h1, h2, h3⟩
    · congr 1 <;> omega
    · congr 1 <;> omega
    · omega
end
section
variable {P : Program} {ρ : Option Nat} {n : Sz} {E : Ent} {I I' : IMap} {L : LL} {H H0 : List Res} {Q : Exit → Act → World → Prop} {ops : Array Oper} {K : Act → World → Prop}
variable {d ty : Nat} {pos : String} {af : Array Edge} {fo x y z : Operand} {as_ : List Operand} {ats : Array TypeId} {f : FuncId} {args : List Value}
theorem o_callH0 {post : Value → IMap → List Res → Prop} (hc : FnH P f args.toArray I [] post) (h : callArgs L fo as_ = some (f, args)) (hd : Nat.blt d n.sz = true)
    (k : ∀ v I' H', ILe I I' → post v I' H' → SX n E I' ((d, v) :: L) (H' ++ H0) K) :
    SX n E I L H0 (one P ops Q ⟨some d, .call { callee := .value fo, args := as_.toArray, argTypes := ats }, ty, pos, af, none⟩ K) := o_callH (Hc := []) hc h hd k
theorem o_mapIns {κ : Type} [DecidableEq κ] {enc : κ → Value} {mt kt et r : Nat} {v : Value} {kvs : List (κ × Value)} (kvs' : List (κ × Value)) (hK : KeyOK P kt enc) (ht : P.underlying mt = some (.map kt et)) (key : κ) (hx : ev L x = some (.map (some r))) (hy : ev L y = some (enc key)) (hv : ev L z = some v)
    (he : mput kvs key v = kvs') (k : SX n E I L (.mp r (emap enc kvs') :: H) K) : SX n E I L (.mp r (emap enc kvs) :: H) (one P ops Q ⟨none, .insert mt x y z, ty, pos, af, none⟩ K) := by
  intro a w st mm
  have h1 := o_mapPut (P := P) (n := n) (E := E) (I := I) (L := L) (H := H) (Q := Q) (ops := ops) (K := K) (ty := ty) (pos := pos) (af := af) kvs' hK ht key hx hy hv he k a w st mm
  exact h1
end
end Go.Sx

/- Walks, printed by a program out of the code of the functions: each theorem is a contract of one function. -/
namespace Go.Proofs.YthcefohbbfjjfaaGreat
open Go Go.Sx
set_option linter.all false
set_option maxRecDepth 20000
set_option maxHeartbeats 4000000
instance T.ty_151 : Has (tyK Tryz.prog 151) (false, 1) := ⟨by kernel_rfl⟩
instance T.und_103 : Has (Tryz.prog.underlying 103) (.map 9 101) := ⟨by kernel_rfl⟩
instance T.zero_151 : Has (zeroK Tryz.prog 151) [.nilFunc] := ⟨by kernel_rfl⟩
instance T.zv_101 : Has (zvK Tryz.prog 101) (.nilFunc) := ⟨by kernel_rfl⟩
theorem lifeSince (I : IMap) (day a : Int) (hd : 0 ≤ day ∧ day ≤ 40000) :
    FnV Tryz.prog 93 #[.int .i64 (day), .int .i64 (a)] I (.agg (sinceI day a).cells.toArray) := by
 refine enter Tryz.func93 Tryz.call93 rfl Tryz.ntmps93 rfl (fun w0 => ?_)
 refine go 3 ?_
 refine o_alloc he rfl (fun g4 => ?_)
 refine go 10 ?_
 refine cb rfl (fun h8 p8 => ?_) (fun h8 p8 => ?_)
 ·refine go 3 ?_
  refine o_val rfl (v_build (pl := [(0, 1), (1, 1)]) he he rfl rfl) ?_
  refine go 1 ?_
  refine o_stw _ he rfl rfl rfl rfl rfl rfl ?_
  refine go 4 ?_
  refine fin1 rfl ⟨_, _, _, rfl, m0, .inr ⟨_, he, rfl, rfl⟩⟩ ?_
  exact q_v (by unfold sinceI; rw [if_pos p8]; rfl)
 ·refine go 8 ?_
  refine o_v rfl (OV.cast (u := .int .i64 (max a (day - (1000000000000 : Int)))) (v_imax rfl rfl) (congrArg (Value.int .i64) (by omega))) ?_
  refine go 9 ?_
  refine o_val rfl (v_build (pl := [(0, 1), (1, 1)]) he he rfl rfl) ?_
  refine go 1 ?_
  refine o_stw _ he rfl rfl rfl rfl rfl rfl ?_
  refine go 3 ?_
  refine fin1 rfl ⟨_, _, _, rfl, m0, .inr ⟨_, he, rfl, rfl⟩⟩ ?_
  exact q_v (by unfold sinceI; rw [if_neg p8]; rfl)

theorem cur_km (I : IMap) (p : Part) (q : Value) (day : Int) (hd : 0 ≤ day ∧ day ≤ 40000) :
    FnV Tryz.prog 94 #[.agg (p.cells q).toArray, .int .i64 (day)] I (.agg p.life.km.cells.toArray) := by
 refine enter Tryz.func94 Tryz.call94 rfl Tryz.ntmps94 rfl (fun w0 => ?_)
 refine go 3 ?_
 refine o_box _ rfl rfl rfl (fun g2 => ?_)
 refine go 1 ?_
 refine o_alloc he rfl (fun g4 => ?_)
 refine go 6 ?_
 refine o_v rfl (v_ldp (p.life.km.cells) m1 he rfl rfl rfl) ?_
 refine go 1 ?_
 refine o_stw _ he rfl rfl rfl rfl rfl rfl ?_
 refine go 3 ?_
 refine fin1 rfl ⟨_, _, _, rfl, m0, .inr ⟨_, he, rfl, rfl⟩⟩ ?_
 exact q_v rfl

theorem cur_cycles (I : IMap) (p : Part) (q : Value) (day : Int) (hd : 0 ≤ day ∧ day ≤ 40000) :
    FnV Tryz.prog 95 #[.agg (p.cells q).toArray, .int .i64 (day)] I (.agg p.life.cycles.cells.toArray) := by
 refine enter Tryz.func95 Tryz.call95 rfl Tryz.ntmps95 rfl (fun w0 => ?_)
 refine go 3 ?_
 refine o_box _ rfl rfl rfl (fun g2 => ?_)
 refine go 1 ?_
 refine o_alloc he rfl (fun g4 => ?_)
 refine go 6 ?_
 refine o_v rfl (v_ldp (p.life.cycles.cells) m1 he rfl rfl rfl) ?_
 refine go 1 ?_
 refine o_stw _ he rfl rfl rfl rfl rfl rfl ?_
 refine go 3 ?_
 refine fin1 rfl ⟨_, _, _, rfl, m0, .inr ⟨_, he, rfl, rfl⟩⟩ ?_
 exact q_v rfl

theorem cur_damage (I : IMap) (p : Part) (q : Value) (day : Int) (hd : 0 ≤ day ∧ day ≤ 40000) :
    FnV Tryz.prog 96 #[.agg (p.cells q).toArray, .int .i64 (day)] I (.agg p.life.damage.cells.toArray) := by
 refine enter Tryz.func96 Tryz.call96 rfl Tryz.ntmps96 rfl (fun w0 => ?_)
 refine go 3 ?_
 refine o_box _ rfl rfl rfl (fun g2 => ?_)
 refine go 1 ?_
 refine o_alloc he rfl (fun g4 => ?_)
 refine go 6 ?_
 refine o_v rfl (v_ldp (p.life.damage.cells) m1 he rfl rfl rfl) ?_
 refine go 1 ?_
 refine o_stw _ he rfl rfl rfl rfl rfl rfl ?_
 refine go 3 ?_
 refine fin1 rfl ⟨_, _, _, rfl, m0, .inr ⟨_, he, rfl, rfl⟩⟩ ?_
 exact q_v rfl

theorem cur_since (I : IMap) (p : Part) (q : Value) (day : Int) (hd : 0 ≤ day ∧ day ≤ 40000) (g : Nat) (hg : ICells I g 0 [.func (.func 93) #[] #[]]) :
    FnV Tryz.prog 97 #[.agg (p.cells q).toArray, .int .i64 (day), .pointer (some ⟨g, 0, none⟩)] I (.agg (sinceI day p.since).cells.toArray) := by
 refine enter Tryz.func97 Tryz.call97 rfl Tryz.ntmps97 rfl (fun w0 => ?_)
 refine go 3 ?_
 refine o_box _ rfl rfl rfl (fun g3 => ?_)
 refine go 1 ?_
 refine o_alloc he rfl (fun g5 => ?_)
 refine go 4 ?_
 refine o_v rfl (v_ldI he rfl (hg 0 _ rfl)) ?_
 refine go 4 ?_
 refine o_callV (lifeSince _ day p.since hd) rfl rfl ?_
 refine go 1 ?_
 refine o_stw _ he rfl rfl rfl rfl rfl rfl ?_
 refine go 3 ?_
 refine fin1 rfl ⟨_, _, _, rfl, m0, .inr ⟨_, he, rfl, rfl⟩⟩ ?_
 exact q_v rfl

theorem cur_made (I : IMap) (p : Part) (q : Value) (day : Int) (hd : 0 ≤ day ∧ day ≤ 40000) (g : Nat) (hg : ICells I g 0 [.func (.func 93) #[] #[]]) :
    FnV Tryz.prog 98 #[.agg (p.cells q).toArray, .int .i64 (day), .pointer (some ⟨g, 0, none⟩)] I (.agg (sinceI day p.made).cells.toArray) := by
 refine enter Tryz.func98 Tryz.call98 rfl Tryz.ntmps98 rfl (fun w0 => ?_)
 refine go 3 ?_
 refine o_box _ rfl rfl rfl (fun g3 => ?_)
 refine go 1 ?_
 refine o_alloc he rfl (fun g5 => ?_)
 refine go 4 ?_
 refine o_v rfl (v_ldI he rfl (hg 0 _ rfl)) ?_
 refine go 4 ?_
 refine o_callV (lifeSince _ day p.made hd) rfl rfl ?_
 refine go 1 ?_
 refine o_stw _ he rfl rfl rfl rfl rfl rfl ?_
 refine go 3 ?_
 refine fin1 rfl ⟨_, _, _, rfl, m0, .inr ⟨_, he, rfl, rfl⟩⟩ ?_
 exact q_v rfl

def curM (g : Nat) : List (ByteArray × Value) := [(sKm, .func (.func 94) #[] #[]), (sCycles, .func (.func 95) #[] #[]), (sDamage, .func (.func 96) #[] #[]), (sDays, .func (.func 97) #[] #[.pointer (some ⟨g, 0, none⟩)]), (sAge, .func (.func 98) #[] #[.pointer (some ⟨g, 0, none⟩)])]

theorem lifeCur (I : IMap) :
    FnH Tryz.prog 49 #[] I [] (fun u J H2 => ∃ m g, u = .map (some m) ∧ H2 = [.mp m (emap Value.string (curM g))] ∧ ICells J g 0 [.func (.func 93) #[] #[]]) := by
 refine enter Tryz.func49 Tryz.call49 rfl Tryz.ntmps49 rfl (fun w0 => ?_)
 refine go 8 ?_
 refine o_alloc he rfl (fun g1 => ?_)
 refine go 1 ?_
 refine o_stw _ he rfl rfl rfl rfl rfl rfl ?_
 refine go 5 ?_
 refine o_map0 (Value.string) he rfl (fun r2 => ?_)
 refine go 1 ?_
 refine o_mapIns ([(sKm, .func (.func 94) #[] #[])]) (key_string he) he (sKm) rfl rfl rfl (rfl) ?_
 refine go 1 ?_
 refine o_mapIns ([(sKm, .func (.func 94) #[] #[]), (sCycles, .func (.func 95) #[] #[])]) (key_string he) he (sCycles) rfl rfl rfl (rfl) ?_
 refine go 1 ?_
 refine o_mapIns ([(sKm, .func (.func 94) #[] #[]), (sCycles, .func (.func 95) #[] #[]), (sDamage, .func (.func 96) #[] #[])]) (key_string he) he (sDamage) rfl rfl rfl (rfl) ?_
 refine o_v rfl (v_makeFunc rfl rfl) ?_
 refine go 1 ?_
 refine o_mapIns ([(sKm, .func (.func 94) #[] #[]), (sCycles, .func (.func 95) #[] #[]), (sDamage, .func (.func 96) #[] #[]), (sDays, .func (.func 97) #[] #[.pointer (some ⟨g1, 0, none⟩)])]) (key_string he) he (sDays) rfl rfl rfl (rfl) ?_
 refine o_v rfl (v_makeFunc rfl rfl) ?_
 refine go 1 ?_
 refine o_mapIns ([(sKm, .func (.func 94) #[] #[]), (sCycles, .func (.func 95) #[] #[]), (sDamage, .func (.func 96) #[] #[]), (sDays, .func (.func 97) #[] #[.pointer (some ⟨g1, 0, none⟩)]), (sAge, .func (.func 98) #[] #[.pointer (some ⟨g1, 0, none⟩)])]) (key_string he) he (sAge) rfl rfl rfl (rfl) ?_
 refine go 5 ?_
 refine fin1 rfl rfl ?_
 refine bring1 ?_
 refine sx_pub (fun J9 j9 c9 => ?_)
 exact q_post (fun _ m => m) ⟨_, g1, rfl, rfl, c9⟩

theorem cur_call (I : IMap) (g : Nat) (hg : ICells I g 0 [.func (.func 93) #[] #[]]) (s : ByteArray) : ∃ (z : Value) (b : Bool), (mget (curM g) s).getD .nilFunc = z ∧ (mget (curM g) s).isSome = b ∧ b = isCur s ∧ (b = true → ∃ (k : FuncId) (cs : List Value), z = .func (.func k) #[] cs.toArray ∧
    ∀ J, ILe I J → ∀ (p : Part) (q : Value) (day : Int), 0 ≤ day ∧ day ≤ 40000 → FnV Tryz.prog k ([Value.agg (p.cells q).toArray, .int .i64 day] ++ cs).toArray J (.agg (curI p s day).cells.toArray)) := by
  obtain ⟨⟨n1, n2, n3, n4⟩, ⟨n5, n6, n7⟩, ⟨n8, n9⟩, n10⟩ := cur_ne
  refine ⟨_, _, rfl, rfl, ?_, ?_⟩
  · rw [curM, cur_look]
    rcases cur_cases s with h | h
    · rcases h with rfl | rfl | rfl | rfl | rfl <;> simp [isCur, curL, *, Ne.symm, n1.symm, n2.symm, n3.symm, n4.symm, n5.symm, n6.symm, n7.symm, n8.symm, n9.symm, n10.symm]
    · rw [h]
      have h2 : s ∉ curL := by simpa [isCur] using h
      simp only [curL, List.mem_cons, List.not_mem_nil, or_false, not_or] at h2
      simp [h2]
  · intro hs
    rw [curM, cur_look] at hs ⊢
    rcases cur_cases s with h | h
    · rcases h with rfl | rfl | rfl | rfl | rfl
      · exact ⟨94, [], by simp, fun J _ p q day hd => by rw [curI, if_pos rfl]; exact cur_km J p q day hd⟩
      · exact ⟨95, [], by simp [n1.symm], fun J _ p q day hd => by rw [curI, if_neg n1.symm, if_pos rfl]; exact cur_cycles J p q day hd⟩
      · exact ⟨96, [], by simp [n2.symm, n5.symm], fun J _ p q day hd => by rw [curI, if_neg n2.symm, if_neg n5.symm, if_pos rfl]; exact cur_damage J p q day hd⟩
      · exact ⟨97, [.pointer (some ⟨g, 0, none⟩)], by simp [n3.symm, n6.symm, n8.symm], fun J hJ p q day hd => by rw [curI, if_neg n3.symm, if_neg n6.symm, if_neg n8.symm, if_pos rfl]; exact cur_since J p q day hd g (hg.le hJ)⟩
      · exact ⟨98, [.pointer (some ⟨g, 0, none⟩)], by simp [n4.symm, n7.symm, n9.symm, n10.symm], fun J hJ p q day hd => by rw [curI, if_neg n4.symm, if_neg n7.symm, if_neg n9.symm, if_neg n10.symm]; exact cur_made J p q day hd g (hg.le hJ)⟩
    · exfalso
      have h2 : s ∉ curL := by simpa [isCur] using h
      simp only [curL, List.mem_cons, List.not_mem_nil, or_false, not_or] at h2
      simp [h2] at hs

theorem lifeValue (I : IMap) (p : Part) (q : Value) (hq : q.oneCell' = true) (s : ByteArray) (day : Int) :
    FnV Tryz.prog 18 #[.agg (p.cells q).toArray, .string s, .int .i64 (day)] I (.tuple #[.agg (valueF p s day).1.cells.toArray, .int .i64 ((valueF p s day).2)]) := by
 refine enter Tryz.func18 Tryz.call18 rfl Tryz.ntmps18 rfl (fun w0 => ?_)
 refine go 3 ?_
 refine o_box _ rfl rfl rfl (fun g3 => ?_)
 refine go 1 ?_
 refine o_alloc he rfl (fun g6 => ?_)
 refine go 6 ?_
 refine o_callH0 (lifeCur _) rfl rfl (fun u11 I11 H11 j11 q11 => ?_)
 obtain ⟨m, g, rfl, rfl, hg⟩ := q11
 refine sx_app1' ?_
 obtain ⟨z, b, hz, hb, hbs, hzb⟩ := cur_call _ g hg s
 refine go 1 ?_
 refine o_v rfl (v_get2 m0 (key_string he) he he (s) rfl rfl hz hb) ?_
 refine go 16 ?_
 refine cb rfl (fun h16 p16 => ?_) (fun h16 p16 => ?_)
 ·refine go 3 ?_
  refine o_val rfl (v_build (pl := [(0, 1), (1, 1)]) he he rfl rfl) ?_
  refine go 1 ?_
  refine bring1 ?_
  refine o_stw _ he rfl rfl rfl rfl rfl rfl ?_
  refine go 6 ?_
  refine fin2 rfl ⟨_, _, _, rfl, m0, .inr ⟨_, he, rfl, rfl⟩⟩ rfl ?_
  exact q_vI (by rw [value_no (by rw [← hbs]; simpa using h16)] <;> rfl)
 ·have hb1 : b = true := by simpa using h16
  obtain ⟨k, cs, rfl, hcall⟩ := hzb hb1
  refine go 1 ?_
  refine c_cut (I' := I11) (L' := [(2, .int .i64 (day)), (3, .pointer (some ⟨g3, 0, none⟩)), (6, .pointer (some ⟨g6, 0, none⟩)), (8, .func (.func k) #[] cs.toArray), (20, .bool (decide (day < 0) || decide (day > 40000)))]) (H' := [.blk g3 49 (p.cells q), .blk g6 32 [.int .i64 (0), .int .i64 (0)]]) ?_ ?_
  ·refine go 4 ?_
   refine sxb 23 rfl (fun h23 p23 => ?_) (fun h23 p23 => ?_)
   ·refine go 6 ?_
    refine sx_drop ?_
    refine bring1 ?_
    exact q_cut ⟨rfl, rfl, rfl, rfl, (congrArg (fun b => some (Value.bool b)) (by simp only [h16, h23, bS])), trivial⟩ rfl rfl
   ·refine go 6 ?_
    refine sx_drop ?_
    refine bring1 ?_
    exact q_cut ⟨rfl, rfl, rfl, rfl, (congrArg (fun b => some (Value.bool b)) (by simp only [h16, h23, bS])), trivial⟩ rfl rfl
  ·refine cb rfl (fun h20 p20 => ?_) (fun h20 p20 => ?_)
   ·refine go 3 ?_
    refine o_val rfl (v_build (pl := [(0, 1), (1, 1)]) he he rfl rfl) ?_
    refine go 1 ?_
    refine bring1 ?_
    refine o_stw _ he rfl rfl rfl rfl rfl rfl ?_
    refine go 6 ?_
    refine fin2 rfl ⟨_, _, _, rfl, m0, .inr ⟨_, he, rfl, rfl⟩⟩ rfl ?_
    exact q_vI (by rw [value_bad (by rw [← hbs, hb1]) h20] <;> rfl)
   ·have hd : 0 ≤ day ∧ day ≤ 40000 := by simp at h20; omega
    refine go 9 ?_
    refine o_callV (hcall _ (ILe.refl _) p q day hd) rfl rfl ?_
    refine go 1 ?_
    refine bring1 ?_
    refine o_stw _ he rfl rfl rfl rfl rfl rfl ?_
    refine go 4 ?_
    refine fin2 rfl ⟨_, _, _, rfl, m0, .inr ⟨_, he, rfl, rfl⟩⟩ rfl ?_
    exact q_vI (by rw [value_yes (by rw [← hbs, hb1]) h20] <;> rfl)

theorem lifeIs (I : IMap) (s : ByteArray) :
    FnV Tryz.prog 21 #[.string s] I (.bool (isCur s)) := by
 refine enter Tryz.func21 Tryz.call21 rfl Tryz.ntmps21 rfl (fun w0 => ?_)
 refine go 8 ?_
 refine o_callH0 (lifeCur _) rfl rfl (fun u6 I6 H6 j6 q6 => ?_)
 obtain ⟨m, g, rfl, rfl, hg⟩ := q6
 refine sx_app1' ?_
 obtain ⟨z, b, hz, hb, hbs, hzb⟩ := cur_call _ g hg s
 refine go 1 ?_
 refine o_v rfl (v_get2 m0 (key_string he) he he (s) rfl rfl hz hb) ?_
 refine go 14 ?_
 refine fin1 rfl rfl ?_
 exact q_vI (congrArg Value.bool hbs)

end Go.Proofs.YthcefohbbfjjfaaGreat

/- What the laws of lives rest on: sizes, the chapter's example. -/
set_option linter.all false
namespace Go.Sx
open Go
/-- strings of at most 300 bytes -/
def short12 (e : Evt) : Bool := !(((((decide (((e.part.size : Nat) : Int) > 300) || decide (((e.kind.size : Nat) : Int) > 300)) || decide (((e.into.size : Nat) : Int) > 300)) || decide (((e.slot.size : Nat) : Int) > 300)) || decide (((e.key.size : Nat) : Int) > 300)) || decide (((e.value.size : Nat) : Int) > 300))
def bad12 (c : List Kind) (f : Fm) (l : List Evt) (n : Int) : Bool := (decide (((l.length : Nat) : Int) > n) || !fewC c) || !decide (nodesF f 80 ≤ 80)
def few12 (c : List Kind) (f : Fm) (l : List Evt) (n : Int) : Bool := !bad12 c f l n && allP (fun _ e => short12 e) l l.length
theorem short12_sm {e : Evt} (h : short12 e = true) : SmE e := by
  simp only [short12, Bool.not_eq_true', Bool.or_eq_false_iff, decide_eq_false_iff_not] at h
  refine ⟨?_, ?_, ?_, ?_, ?_, ?_⟩ <;> unfold Sm <;> omega
theorem few12_sm {c : List Kind} {f : Fm} {l : List Evt} {n : Nat} (h : few12 c f l (n : Nat) = true) : SmC c ∧ l.length ≤ n ∧ (∀ e ∈ l, SmE e) := by
  simp only [few12, bad12, Bool.and_eq_true, Bool.not_eq_true', Bool.or_eq_false_iff, decide_eq_false_iff_not, Bool.not_eq_false'] at h
  refine ⟨fewC_sm h.1.1.2, by omega, fun e he => ?_⟩
  obtain ⟨_, h1⟩ := allP_mem h.2 he
  exact short12_sm h1
/-! the example -/
def nBogie : ByteArray := ⟨#[98, 111, 103, 105, 101]⟩
def nFront : ByteArray := ⟨#[102, 114, 111, 110, 116]⟩
def nB1 : ByteArray := ⟨#[98, 49]⟩
def exKs : List Kind := [⟨nBogie, false, []⟩, ⟨nCoach, true, [⟨nFront, [nBogie], 1⟩]⟩]
def exFm : Fm := .mk 7 0 [.mk 2 0 [], .mk 1 2 []]
def exOne : Use := ⟨⟨10, 12⟩, ⟨3, 3⟩, ⟨0, 0⟩⟩
def exTwo : Use := ⟨⟨5, 5⟩, ⟨0, 0⟩, ⟨0, 0⟩⟩
def exEs : List Evt := [⟨1, 0, nV1, nCoach, nil8, nil8, nil8, nil8, zUse⟩, ⟨1, 0, nB1, nBogie, nil8, nil8, nil8, nil8, zUse⟩, ⟨2, 0, nB1, nil8, nV1, nFront, nil8, nil8, zUse⟩, ⟨4, 1, nV1, nil8, nil8, nil8, nil8, nil8, exOne⟩, ⟨3, 2, nB1, nil8, nil8, nil8, nil8, nil8, zUse⟩, ⟨4, 3, nV1, nil8, nil8, nil8, nil8, nil8, exTwo⟩, ⟨5, 4, nV1, nil8, nil8, nil8, nil8, nil8, zUse⟩]
def exLife : Life := ⟨⟨10, 12⟩, ⟨3, 3⟩, ⟨20, 24⟩⟩
def exSA : List Part := [⟨nB1, nBogie, nV1, nFront, 0, 0, false, [], exLife⟩, ⟨nV1, nCoach, nil8, nil8, 0, 0, false, [], exLife⟩]
def exSB : List Part := [⟨nB1, nBogie, nil8, nil8, 0, 0, false, [], exLife⟩, ⟨nV1, nCoach, nil8, nil8, 0, 0, false, [], ⟨⟨15, 17⟩, ⟨3, 3⟩, ⟨30, 34⟩⟩⟩]
def exSC : List Part := [⟨nB1, nBogie, nil8, nil8, 0, 0, false, [], exLife⟩, ⟨nV1, nCoach, nil8, nil8, 0, 4, false, [], zLife⟩]
/-- where nothing is deeper than one, what a run adds can be computed -/
def flatB (st : List Part) (v : ByteArray) : Bool := (!decide (v = nil8) && (findP st v).isSome) && st.all fun p => decide (upP st p.name = nil8) || decide (upP st p.name = v)
def useC (st : List Part) (e : Evt) (d : Ivl) : List Part := st.map fun p => if p.name = e.part ∨ upP st p.name = e.part then addLife d e.use p else p
theorem useC_is {st : List Part} {e : Evt} {d : Ivl} (h : flatB st e.part = true) : useL st e d = useC st e d := by
  simp only [flatB, Bool.and_eq_true, Bool.not_eq_true', decide_eq_false_iff_not, List.all_eq_true, Bool.or_eq_true, decide_eq_true_eq] at h
  obtain ⟨⟨hv, hs⟩, hall⟩ := h
  unfold useL useC
  refine List.map_congr_left fun p hp => ?_
  have hi : (p.name = e.part ∨ InsP st e.part p.name) ↔ (p.name = e.part ∨ upP st p.name = e.part) := by
    constructor
    · rintro (h | ⟨_, k, hk⟩)
      · exact .inl h
      · rcases hall p hp with h0 | h0
        · cases k with
          | zero => cases hk
          | succ k => simp [reachF, h0] at hk
        · exact .inr h0
    · rintro (h | h)
      · exact .inl h
      · by_cases hn : p.name = e.part
        · exact .inl hn
        · exact .inr ⟨⟨hs, up_some (by rw [h]; exact hv), hn⟩, 1, by unfold reachF; rw [h]; simp [hv]⟩
  by_cases hc : p.name = e.part ∨ upP st p.name = e.part
  · rw [if_pos hc, if_pos (hi.2 hc)]
  · rw [if_neg hc, if_neg (fun h => hc (hi.1 h))]
def goC (f : Fm) (c : List Kind) : List Part → Int → List Evt → Option Res3
  | s, _, [] => some (s, -1, 0)
  | s, i, e :: r => if (applyF c s e).2 = 0 then (if e.op = 4 then (if flatB (applyF c s e).1 e.part = true then goC f c (useC (applyF c s e).1 e (damF f e.use)) (i + 1) r else none) else goC f c (applyF c s e).1 (i + 1) r) else some ([], i, (applyF c s e).2)
theorem goC_is {f : Fm} {c : List Kind} : ∀ (l : List Evt) {s : List Part} {i : Int} {r : Res3}, goC f c s i l = some r → runLGo f c s i l = r
  | [], s, i, r, h => by simp only [goC, Option.some.injEq] at h; exact h
  | e :: l, s, i, r, h => by
    simp only [goC] at h
    simp only [runLGo, applyL_code]
    split at h
    · rename_i h0
      rw [if_pos h0]
      unfold applyL
      split at h
      · rename_i h4
        rw [if_pos ⟨h0, h4⟩]
        split at h
        · rename_i hf
          rw [useC_is hf]
          exact goC_is l h
        · cases h
      · rename_i h4
        rw [if_neg (fun hc => h4 hc.2)]
        exact goC_is l h
    · rename_i h0
      rw [if_neg h0]
      exact Option.some.inj h
def runC (f : Fm) (c : List Kind) (l : List Evt) (day : Int) : Option Res3 := if (!validC c || !validFm f) = true then some ([], -1, 1) else goC f c [] 0 (sortF (l.filter fun e => !decide (e.day > day)))
theorem runC_is {f : Fm} {c : List Kind} {l : List Evt} {day : Int} {r : Res3} (h : runC f c l day = some r) : runL f c l day = r := by
  unfold runC at h
  unfold runL
  split at h
  · rename_i h1; rw [if_pos h1]; exact Option.some.inj h
  · rename_i h1; rw [if_neg h1]; exact goC_is _ h
theorem ex_a : runL exFm exKs (exEs.take 4) 9 = (exSA, -1, 0) := runC_is (by decide +kernel)
theorem ex_b : runL exFm exKs (exEs.take 6) 9 = (exSB, -1, 0) := runC_is (by decide +kernel)
theorem ex_c : runL exFm exKs exEs 9 = (exSC, -1, 0) := runC_is (by decide +kernel)
theorem ex_smC : SmC exKs := fewC_sm (by decide +kernel)
theorem ex_smE : ∀ e ∈ exEs, SmE e := fun e he => by
  have h : exEs.all short12 = true := by decide +kernel
  exact short12_sm (List.all_eq_true.1 h e he)
/-! counting parts -/
theorem fm_one {I : IMap} {op n : Int} {s : Value} {f : Fm} (h : FmRd I [ci op, ci n, s] f) : s.oneCell' = true := by
  have := Enc.one (α := Fm) h
  simp at this
  exact this.2.2
end Go.Sx

/- Walks, printed by a program out of the code of the functions: each theorem is a contract of one function. -/
namespace Go.Proofs.YthcefohbbfjjfaaGreat
open Go Go.Sx
set_option linter.all false
set_option maxRecDepth 20000
set_option maxHeartbeats 4000000
theorem T.eqg_32 : Tryz.prog.eqGuardType Tryz.prog.depth 32 = false := by kernel_rfl
instance T.pl_27 : Has (plK Tryz.prog 27) [(0, 1), (1, 1), (2, 1)] := ⟨by kernel_rfl⟩
instance T.pl_29 : Has (plK Tryz.prog 29) [(0, 1), (1, 3)] := ⟨by kernel_rfl⟩
instance T.ty_29 : Has (tyK Tryz.prog 29) (true, 4) := ⟨by kernel_rfl⟩
instance T.zero_29 : Has (zeroK Tryz.prog 29) [.slice none 0 0, .int .i64 0, .int .i64 0, .slice none 0 0] := ⟨by kernel_rfl⟩
theorem ref07Nodes_step (I : IMap) (N : Nat) (ih : ∀ (f : Fm), cntN f ≤ N → ∀ vs, FmRd I vs f → ∀ m : Int, 0 ≤ m → m ≤ 1000 → FnV Tryz.prog 100 #[.agg vs.toArray, .int .i64 (m)] I (.int .i64 (nodesF f m))) (f : Fm) (hN : cntN f ≤ N + 1) (vs : List Value) (hr : FmRd I vs f) (m : Int) (h0 : 0 ≤ m) (h1 : m ≤ 1000) :
    FnV Tryz.prog 100 #[.agg vs.toArray, .int .i64 (m)] I (.int .i64 (nodesF f m)) := by
 obtain ⟨s, rfl, hs⟩ := fm_out hr
 obtain ⟨A, c0, rfl, hA, hc, hm⟩ := hs
 refine enter Tryz.func100 Tryz.call100 rfl Tryz.ntmps100 rfl (fun w0 => ?_)
 refine go 3 ?_
 refine o_box _ rfl rfl rfl (fun g2 => ?_)
 refine go 15 ?_
 refine c_loop2 ((0 : Nat)) ((1 : Int)) (fun i n => I)
  (fun i n => [(1, .int .i64 (m)), (2, .pointer (some ⟨g2, 0, none⟩)), (5, .int .i64 (n)), (6, .int .i64 ((i : Nat) : Int))])
  (fun i n => [.blk g2 27 [ci f.op, ci f.n, .slice A f.kids.length c0]])
  (fun i n => i ≤ f.kids.length ∧ (1 ≤ n ∧ n ≤ m + 1) ∧ nodesL (f.kids.drop i) n m = nodesF f m)
  (fun i n => f.kids.length - i) ⟨Nat.zero_le _, ⟨by omega, by omega⟩, nodes_start⟩ rfl sb rfl ?_
 intro i n ⟨hi, hn, hq⟩
 refine go 9 ?_
 refine sxb 12 rfl (fun h12 p12 => ?_) (fun h12 p12 => ?_)
 ·have hlt : i < f.kids.length := by omega
  refine go 6 ?_
  refine cb rfl (fun h16 p16 => ?_) (fun h16 p16 => ?_)
  ·have hkn := nodes_in f.kids[i] (m - n) (by omega)
   refine go 9 ?_
   obtain ⟨b23, o23, w23, e23, c23, r23⟩ := RdA.at_ hA (i := i) (by omega)
   replace r23 := fm_out r23
   obtain ⟨s23, rfl, hs23⟩ := r23
   refine o_v rfl (v_idx he rfl rfl e23 (i) (by omega) (by omega)) ?_
   refine o_v rfl (v_ldIa he rfl c23 rfl) ?_
   refine go 4 ?_
   refine o_callV (ih f.kids[i] (by have := cnt_kid (List.getElem_mem hlt); omega) _ (fm_back hs23) _ (by omega) (by omega)) rfl rfl ?_
   refine go 11 ?_
   exact q_next2 (i + 1) (_) ⟨by omega, by omega, nodes_step hlt hq (by omega)⟩ (by omega) rfl sb rfl
  ·refine go 12 ?_
   refine fin1 rfl rfl ?_
   exact q_v (congrArg (Value.int .i64) (nodes_stop hlt hq (by omega)))
 ·refine go 6 ?_
  refine c_false rfl ?_
  refine go 12 ?_
  refine fin1 rfl rfl ?_
  exact q_v (congrArg (Value.int .i64) (nodes_end (by omega) hq))

theorem ref07Nodes (I : IMap) (f : Fm) (vs : List Value) (hr : FmRd I vs f) (m : Int) (h0 : 0 ≤ m) (h1 : m ≤ 1000) : FnV Tryz.prog 100 #[.agg vs.toArray, .int .i64 (m)] I (.int .i64 (nodesF f m)) := by
  have key : ∀ (N : Nat), ∀ (f : Fm), cntN f ≤ N → ∀ vs, FmRd I vs f → ∀ m : Int, 0 ≤ m → m ≤ 1000 → FnV Tryz.prog 100 #[.agg vs.toArray, .int .i64 (m)] I (.int .i64 (nodesF f m)) := by
    intro N
    induction N with
    | zero => intro f hN; exact absurd hN (by cases f; simp [cntN])
    | succ N ih => intro f hN vs hr m h0 h1; exact ref07Nodes_step I N ih f hN vs hr m h0 h1
  exact key (cntN f) f (Nat.le_refl _) vs hr m h0 h1

theorem ref07Few (I : IMap) (f : Fm) (vs : List Value) (hr : FmRd I vs f) :
    FnV Tryz.prog 58 #[.agg vs.toArray] I (.bool (decide (nodesF f 80 ≤ 80))) := by
 have hl := Enc.len (α := Fm) hr
 refine enter Tryz.func58 Tryz.call58 rfl Tryz.ntmps58 rfl (fun w0 => ?_)
 refine go 3 ?_
 refine o_box _ rfl rfl rfl (fun g1 => ?_)
 refine go 5 ?_
 refine o_v rfl (v_ldw m0 he rfl hl) ?_
 refine go 1 ?_
 refine o_callV (ref07Nodes _ f _ hr 80 (by omega) (by omega)) rfl rfl ?_
 refine go 5 ?_
 refine fin1 rfl rfl ?_
 exact q_v rfl

theorem ref12Few (I : IMap) (vc : Value) (c : List Kind) (hvc : RdS I vc c) (f : Fm) (sf : Value) (hf : FmRd I [ci f.op, ci f.n, sf] f) (v : Value) (l : List Evt) (hv : RdS I v l) (n : Int) :
    FnV Tryz.prog 30 #[.agg #[vc, ci f.op, ci f.n, sf], v, .int .i64 (n)] I (.bool (few12 c f l n)) := by
 have hv0 := hv
 obtain ⟨A, c0, rfl, hA, hc, hm⟩ := hv
 refine enter Tryz.func30 Tryz.call30 rfl Tryz.ntmps30 rfl (fun w0 => ?_)
 refine go 3 ?_
 refine o_box _ rfl rfl rfl (fun g3 => ?_)
 refine go 5 ?_
 refine c_cut (I' := I) (L' := [(1, .slice A l.length c0), (24, .bool (bad12 c f l n))]) (H' := []) ?_ ?_
 ·refine go 6 ?_
  refine sxb 13 rfl (fun h13 p13 => ?_) (fun h13 p13 => ?_)
  ·refine go 13 ?_
   refine sx_drop ?_
   exact q_cut ⟨rfl, (congrArg (fun b => some (Value.bool b)) (by simp only [bad12, h13, bS])), trivial⟩ rfl rfl
  ·refine go 1 ?_
   refine o_cons (o_yes rfl rfl h13 (o_val rfl (v_ldp ([vc]) m0 he rfl rfl rfl) ?_))
   refine go 1 ?_
   refine o_yes rfl rfl h13 (o_callV (refFew _ vc c hvc) rfl rfl ?_)
   refine go 3 ?_
   refine sxb 19 rfl (fun h19 p19 => ?_) (fun h19 p19 => ?_)
   ·refine go 7 ?_
    refine sx_drop ?_
    exact q_cut ⟨rfl, (congrArg (fun b => some (Value.bool b)) (by simp only [bad12, h13, h19, bS])), trivial⟩ rfl rfl
   ·refine go 1 ?_
    refine o_cons (o_yes rfl rfl h19 (o_val rfl (v_ldp ([ci f.op, ci f.n, sf]) m0 he rfl rfl rfl) ?_))
    refine go 1 ?_
    refine o_yes rfl rfl h19 (o_callV (ref07Few _ f _ hf) rfl rfl ?_)
    refine go 4 ?_
    refine sx_drop ?_
    exact q_cut ⟨rfl, (congrArg (fun b => some (Value.bool b)) (by simp only [bad12, h13, h19, bS])), trivial⟩ rfl rfl
 ·refine cb rfl (fun h24 p24 => ?_) (fun h24 p24 => ?_)
  ·refine go 7 ?_
   refine fin1 rfl rfl ?_
   exact q_v (congrArg Value.bool (by simp only [few12, h24]; rfl))
  ·refine go 9 ?_
   refine c_loop (α := Nat) 0 (fun i => I)
    (fun i => [(1, .slice A l.length c0), (7, .int .i64 ((i : Nat) : Int))])
    (fun i => [])
    (fun i => i ≤ l.length ∧ allP (fun _ e => short12 e) l i = true)
    (fun i => l.length - i) ⟨Nat.zero_le _, rfl⟩ rfl sb rfl ?_
   intro i ⟨hi, hn⟩
   refine go 9 ?_
   refine cb rfl (fun h28 p28 => ?_) (fun h28 p28 => ?_)
   ·have hlt : i < l.length := by omega
    refine go 8 ?_
    obtain ⟨b33, o33, w33, e33, c33, r33⟩ := RdA.at_ hA (i := i) (by omega)
    obtain rfl := r33
    refine o_v rfl (v_idx he rfl rfl e33 (i) (by omega) (by omega)) ?_
    refine o_v rfl (v_ldIa he rfl c33 rfl) ?_
    refine go 1 ?_
    refine o_alloc he rfl (fun g8 => ?_)
    refine go 1 ?_
    refine o_stw _ he rfl rfl rfl rfl rfl rfl ?_
    refine go 3 ?_
    refine c_cut (I' := I) (L' := [(1, .slice A l.length c0), (7, .int .i64 ((i : Nat) : Int)), (68, .bool (!short12 l[i]))]) (H' := []) ?_ ?_
    ·refine go 6 ?_
     refine sxb 39 rfl (fun h39 p39 => ?_) (fun h39 p39 => ?_)
     ·refine go 31 ?_
      refine sx_drop ?_
      exact q_cut ⟨rfl, rfl, (congrArg (fun b => some (Value.bool b)) (by simp only [short12, Bool.not_not, h28, h39, bS])), trivial⟩ rfl rfl
     ·refine go 6 ?_
      refine sxb 45 rfl (fun h45 p45 => ?_) (fun h45 p45 => ?_)
      ·refine go 25 ?_
       refine sx_drop ?_
       exact q_cut ⟨rfl, rfl, (congrArg (fun b => some (Value.bool b)) (by simp only [short12, Bool.not_not, h28, h39, h45, bS])), trivial⟩ rfl rfl
      ·refine go 6 ?_
       refine sxb 51 rfl (fun h51 p51 => ?_) (fun h51 p51 => ?_)
       ·refine go 19 ?_
        refine sx_drop ?_
        exact q_cut ⟨rfl, rfl, (congrArg (fun b => some (Value.bool b)) (by simp only [short12, Bool.not_not, h28, h39, h45, h51, bS])), trivial⟩ rfl rfl
       ·refine go 6 ?_
        refine sxb 57 rfl (fun h57 p57 => ?_) (fun h57 p57 => ?_)
        ·refine go 13 ?_
         refine sx_drop ?_
         exact q_cut ⟨rfl, rfl, (congrArg (fun b => some (Value.bool b)) (by simp only [short12, Bool.not_not, h28, h39, h45, h51, h57, bS])), trivial⟩ rfl rfl
        ·refine go 6 ?_
         refine sxb 63 rfl (fun h63 p63 => ?_) (fun h63 p63 => ?_)
         ·refine go 7 ?_
          refine sx_drop ?_
          exact q_cut ⟨rfl, rfl, (congrArg (fun b => some (Value.bool b)) (by simp only [short12, Bool.not_not, h28, h39, h45, h51, h57, h63, bS])), trivial⟩ rfl rfl
         ·refine go 7 ?_
          refine sx_drop ?_
          exact q_cut ⟨rfl, rfl, (congrArg (fun b => some (Value.bool b)) (by simp only [short12, Bool.not_not, h28, h39, h45, h51, h57, h63, bS])), trivial⟩ rfl rfl
    ·refine cb rfl (fun h68 p68 => ?_) (fun h68 p68 => ?_)
     ·refine go 11 ?_
      refine fin1 rfl rfl ?_
      exact q_v (congrArg Value.bool (by simp only [few12, allP_not (f := fun _ e => short12 e) hlt (by simpa using h68)]; simp))
     ·refine go 9 ?_
      exact q_next (i + 1) ⟨by omega, allP_succ (f := fun _ e => short12 e) hn hlt (by simpa using h68)⟩ (by omega) rfl sb rfl
   ·refine go 11 ?_
    refine fin1 rfl rfl ?_
    have e : i = l.length := (by omega)
    subst e
    exact q_v (congrArg Value.bool (by simp only [few12, h24, hn]; rfl))

theorem law12few (I : IMap) (vc : Value) (c : List Kind) (hvc : RdS I vc c) (f : Fm) (sf : Value) (hf : FmRd I [ci f.op, ci f.n, sf] f) (v : Value) (l : List Evt) (hv : RdS I v l) :
    FnV Tryz.prog 10 #[.agg #[vc, ci f.op, ci f.n, sf], v] I (.bool (few12 c f l 24)) := by
 refine enter Tryz.func10 Tryz.call10 rfl Tryz.ntmps10 rfl (fun w0 => ?_)
 refine go 3 ?_
 refine o_box _ rfl rfl rfl (fun g2 => ?_)
 refine go 8 ?_
 refine o_callV (ref12Few _ vc c hvc f sf hf v l hv 24) rfl rfl ?_
 refine go 4 ?_
 refine fin1 rfl rfl ?_
 exact q_v rfl

theorem ex12 (I : IMap) :
    FnI Tryz.prog 29 #[] I (fun u J => ∃ vc sf v, u = .tuple #[.agg #[vc, ci exFm.op, ci exFm.n, sf], v] ∧ RdS J vc exKs ∧ FmRd J [ci exFm.op, ci exFm.n, sf] exFm ∧ RdS J v exEs) := by
 refine enter Tryz.func29 Tryz.call29 rfl Tryz.ntmps29 rfl (fun w0 => ?_)
 refine go 3 ?_
 refine o_alloc he rfl (fun g0 => ?_)
 refine go 6 ?_
 refine o_val rfl (v_build (pl := [(0, 1), (1, 1), (2, 1)]) he he rfl rfl) ?_
 refine go 1 ?_
 refine o_val rfl (v_build (pl := [(0, 1), (1, 1), (2, 1)]) he he rfl rfl) ?_
 refine go 1 ?_
 refine o_buildSlice he he rfl rfl rfl rfl rfl rfl rfl (fun v8 => ?_)
 refine sx_pubrow (l := exFm.kids) rfl rfl ((.cons (x := (.mk 2 0 [] : Fm)) (fm_in 2 0 RdS.nil') (.one (x := (.mk 1 2 [] : Fm)) (fm_in 1 2 RdS.nil')))) (fun I8 j8 R8 => ?_)
 have R8s := R8
 obtain ⟨A8, c8, rfl, _⟩ := R8s
 refine go 1 ?_
 refine o_val rfl (v_build (pl := [(0, 1), (1, 1), (2, 1)]) he he rfl rfl) ?_
 refine go 1 ?_
 refine o_alloc he rfl (fun g2 => ?_)
 refine go 1 ?_
 refine o_stw _ he rfl rfl rfl rfl rfl rfl ?_
 refine go 5 ?_
 refine o_val rfl (v_build (pl := [(0, 1), (1, 1), (2, 1)]) he he rfl rfl) ?_
 refine go 1 ?_
 refine o_buildSlice he he rfl rfl rfl rfl rfl rfl rfl (fun v11 => ?_)
 refine sx_pubrow (l := [nBogie]) rfl rfl (.one rfl) (fun I11 j11 R11 => ?_)
 have R8 := R8.le j11
 have R11s := R11
 obtain ⟨A11, c11, rfl, _⟩ := R11s
 refine go 1 ?_
 refine o_val rfl (v_build (pl := [(0, 1), (1, 1), (2, 1)]) he he rfl rfl) ?_
 refine go 1 ?_
 refine o_buildSlice he he rfl rfl rfl rfl rfl rfl rfl (fun v13 => ?_)
 refine sx_pubrow (l := [(⟨nFront, [nBogie], 1⟩ : Slot)]) rfl rfl (.one ⟨_, rfl, R11⟩) (fun I13 j13 R13 => ?_)
 have R8 := R8.le j13
 have R11 := R11.le j13
 have R13s := R13
 obtain ⟨A13, c13, rfl, _⟩ := R13s
 refine go 1 ?_
 refine o_val rfl (v_build (pl := [(0, 1), (1, 1), (2, 1)]) he he rfl rfl) ?_
 refine go 1 ?_
 refine o_buildSlice he he rfl rfl rfl rfl rfl rfl rfl (fun v15 => ?_)
 refine sx_pubrow (l := exKs) rfl rfl (.cons ⟨_, rfl, RdS.nil'⟩ (.one ⟨_, rfl, R13⟩)) (fun I15 j15 R15 => ?_)
 have R8 := R8.le j15
 have R13 := R13.le j15
 have R15s := R15
 obtain ⟨A15, c15, rfl, _⟩ := R15s
 refine go 1 ?_
 refine o_val rfl (v_build (pl := [(0, 1)]) he he rfl rfl) ?_
 refine go 1 ?_
 refine o_alloc he rfl (fun g3 => ?_)
 refine go 1 ?_
 refine o_stw _ he rfl rfl rfl rfl rfl rfl ?_
 refine go 5 ?_
 refine o_val rfl (v_build (pl := [(0, 1), (1, 1)]) he he rfl rfl) ?_
 refine go 1 ?_
 refine o_val rfl (v_build (pl := [(0, 1), (1, 1)]) he he rfl rfl) ?_
 refine go 1 ?_
 refine o_val rfl (v_build (pl := [(0, 2), (2, 2), (4, 2)]) he he rfl rfl) ?_
 refine go 1 ?_
 refine o_alloc he rfl (fun g4 => ?_)
 refine go 1 ?_
 refine o_stw _ he rfl rfl rfl rfl rfl rfl ?_
 refine go 5 ?_
 refine o_val rfl (v_build (pl := [(0, 1), (1, 1)]) he he rfl rfl) ?_
 refine go 1 ?_
 refine o_val rfl (v_build (pl := [(0, 2), (2, 2), (4, 2)]) he he rfl rfl) ?_
 refine go 1 ?_
 refine o_alloc he rfl (fun g5 => ?_)
 refine go 1 ?_
 refine o_stw _ he rfl rfl rfl rfl rfl rfl ?_
 refine go 3 ?_
 refine bring4 ?_
 refine sx_knowI (fun hE5 hf5 => ?_)
 refine d_start1 T.mixed ?_
 refine d_tv 0 rfl rfl (by kernel_rfl) rfl (.cons _ (.refl _)) rfl (v_ldw m2 he rfl rfl) ?_
 refine d_tv 1 rfl rfl (by kernel_rfl) rfl (.cons _ (.refl _)) rfl (v_ldw m3 he rfl rfl) ?_
 refine d_tv 2 rfl rfl (by kernel_rfl) rfl (.cons _ (.refl _)) rfl (v_build (pl := [(0, 1), (1, 3)]) he he rfl rfl) ?_
 refine d_tv 3 rfl rfl (by kernel_rfl) rfl (.cons _ (.refl _)) rfl (v_build (pl := [(0, 1), (1, 1), (2, 1), (3, 1), (4, 1), (5, 1), (6, 1), (7, 1), (8, 6)]) he he rfl rfl) ?_
 refine d_tv 4 rfl rfl (by kernel_rfl) rfl (.cons _ (.refl _)) rfl (v_build (pl := [(0, 1), (1, 1), (2, 1), (3, 1), (4, 1), (5, 1), (6, 1), (7, 1), (8, 6)]) he he rfl rfl) ?_
 refine d_tv 5 rfl rfl (by kernel_rfl) rfl (.cons _ (.refl _)) rfl (v_build (pl := [(0, 1), (1, 1), (2, 1), (3, 1), (4, 1), (5, 1), (6, 1), (7, 1), (8, 6)]) he he rfl rfl) ?_
 refine d_tv 6 rfl rfl (by kernel_rfl) rfl (.cons _ (.refl _)) rfl (v_ldw m1 he rfl rfl) ?_
 refine d_tv 7 rfl rfl (by kernel_rfl) rfl (.cons _ (.refl _)) rfl (v_build (pl := [(0, 1), (1, 1), (2, 1), (3, 1), (4, 1), (5, 1), (6, 1), (7, 1), (8, 6)]) he he rfl rfl) ?_
 refine d_tv 8 rfl rfl (by kernel_rfl) rfl (.cons _ (.refl _)) rfl (v_build (pl := [(0, 1), (1, 1), (2, 1), (3, 1), (4, 1), (5, 1), (6, 1), (7, 1), (8, 6)]) he he rfl rfl) ?_
 refine d_tv 9 rfl rfl (by kernel_rfl) rfl (.cons _ (.refl _)) rfl (v_ldw m0 he rfl rfl) ?_
 refine d_tv 10 rfl rfl (by kernel_rfl) rfl (.cons _ (.refl _)) rfl (v_build (pl := [(0, 1), (1, 1), (2, 1), (3, 1), (4, 1), (5, 1), (6, 1), (7, 1), (8, 6)]) he he rfl rfl) ?_
 refine d_tv 11 rfl rfl (by kernel_rfl) rfl (.cons _ (.refl _)) rfl (v_build (pl := [(0, 1), (1, 1), (2, 1), (3, 1), (4, 1), (5, 1), (6, 1), (7, 1), (8, 6)]) he he rfl rfl) ?_
 refine d_two 12 13 (by kernel_rfl) rfl rfl ?_ ?_
 ·refine o_buildSlice he he rfl rfl rfl rfl rfl rfl rfl (fun v34 => ?_)
  refine sx_roweq (ys := (evCh exEs).flatten) (rfl) ?_
  refine sx_pubrow (l := exEs) rfl rfl ((evCh_flat _).flat) (fun I34 j34 R34 => ?_)
  have R8 := R8.le j34
  have R15 := R15.le j34
  refine d_on (fun _ m => m.keepsI (.cons _ (.refl _)) (j34) hE5 hf5) ?_
  refine d_one 13 (by kernel_rfl) rfl ?_
  refine o_stw _ he rfl rfl rfl rfl rfl rfl ?_
  refine d_on (fun _ m => m.keepsI (.cons _ (.refl _)) (j34) hE5 hf5) ?_
  refine d_t 14 rfl rfl (by kernel_rfl) rfl (fun _ m => m.keepsI (.cons _ (.refl _)) (j34) hE5 hf5) (y_v rfl (v_assign rfl)) ?_
  refine d_done (by kernel_rfl) ?_
  refine go 2 ?_
  refine fin2 rfl ⟨_, _, _, rfl, m0, .inr ⟨_, he, rfl, rfl⟩⟩ rfl ?_
  exact q_i ⟨_, _, _, rfl, R15, fm_in 7 0 R8, R34⟩
 ·refine o_stw _ he rfl rfl rfl rfl rfl rfl ?_
  refine d_on (fun _ m => m.keeps (.cons _ (.refl _))) ?_
  refine d_one 12 (by kernel_rfl) rfl ?_
  refine o_buildSlice he he rfl rfl rfl rfl rfl rfl rfl (fun v34 => ?_)
  refine sx_roweq (ys := (evCh exEs).flatten) (rfl) ?_
  refine sx_pubrow (l := exEs) rfl rfl ((evCh_flat _).flat) (fun I34 j34 R34 => ?_)
  have R8 := R8.le j34
  have R15 := R15.le j34
  refine d_on (fun _ m => m.keepsI (.cons _ (.refl _)) (j34) hE5 hf5) ?_
  refine d_t 14 rfl rfl (by kernel_rfl) rfl (fun _ m => m.keepsI (.cons _ (.refl _)) (j34) hE5 hf5) (y_v rfl (v_assign rfl)) ?_
  refine d_done (by kernel_rfl) ?_
  refine go 2 ?_
  refine fin2 rfl ⟨_, _, _, rfl, m0, .inr ⟨_, he, rfl, rfl⟩⟩ rfl ?_
  exact q_i ⟨_, _, _, rfl, R15, fm_in 7 0 R8, R34⟩

theorem exRun (I : IMap) (vc : Value) (hvc : RdS I vc exKs) (sf : Value) (hf : FmRd I [ci exFm.op, ci exFm.n, sf] exFm) (v : Value) (l : List Evt) (hv : RdS I v l) (hl : l.length ≤ 24) (hse : ∀ e ∈ l, SmE e) (r : List Part) (h : runL exFm exKs l 9 = (r, -1, 0)) :
    FnI Tryz.prog 16 #[.agg #[vc, ci exFm.op, ci exFm.n, sf], v, .int .i64 9] I (fun u J => ∃ w, u = .tuple #[.agg #[w], .int .i64 (-1), .int .i64 0] ∧ RdS J w r) := by
  have h1 := lifeRun I vc exKs hvc ex_smC exFm sf hf v l hv (by omega) hse 9
  refine h1.mono fun u J H' hJ ⟨⟨w, h2, h3⟩, h4⟩ => ⟨⟨w, ?_, ?_⟩, h4⟩
  · rw [h2, h]
  · rw [h] at h3; exact h3

theorem head12 (I : IMap) :
    FnV Tryz.prog 9 #[] I (.bool true) := by
 refine enter Tryz.func9 Tryz.call9 rfl Tryz.ntmps9 rfl (fun w0 => ?_)
 refine go 8 ?_
 refine o_call (ex12 _) rfl rfl (fun v21 I21 j21 q21 => ?_)
 obtain ⟨vc, sf, v, rfl, hvc, hf, hv⟩ := q21
 have hvs := hv
 obtain ⟨A, c0, rfl, hA, hc, hm⟩ := hvs
 refine go 4 ?_
 refine o_alloc he rfl (fun g1 => ?_)
 refine go 1 ?_
 refine o_stw _ he rfl rfl rfl rfl rfl (by simp [hvc.one, fm_one hf]; exact ⟨rfl, rfl⟩) ?_
 refine go 4 ?_
 refine sx_knowI (fun hE2 hf2 => ?_)
 refine d_startH T.mixed ?_
 refine d_tv 0 rfl rfl (by kernel_rfl) rfl (.refl _) rfl (v_ldw m0 he rfl rfl) ?_
 refine d_tv 1 rfl rfl (by kernel_rfl) rfl (.refl _) rfl (v_move rfl) ?_
 refine d_tv 2 rfl rfl (by kernel_rfl) rfl (.refl _) rfl (v_slice_hi he rfl rfl 4 rfl (by have : exEs.length = 7 := rfl; omega)) ?_
 refine d_two 3 8 (by kernel_rfl) rfl rfl ?_ ?_
 ·refine o_call (exRun _ vc hvc sf hf _ (exEs.take 4) (RdS.take hv 4 (by decide)) (by decide) (fun e he => ex_smE e (List.mem_of_mem_take he)) _ ex_a) rfl rfl (fun v28 I28 j28 q28 => ?_)
  try have hvc := hvc.le j28
  try have hf := hf.le j28
  try have hv := hv.le j28
  try have hw3 := hw3.le j28
  try have hw6 := hw6.le j28
  obtain ⟨w3, rfl, hw3⟩ := q28
  refine d_on (fun _ m => m.keepsI (.refl _) (j28) hE2 hf2) ?_
  refine d_t 4 rfl rfl (by kernel_rfl) rfl (fun _ m => m.keepsI (.refl _) (j28) hE2 hf2) (y_v rfl (v_move rfl)) ?_
  refine d_t 5 rfl rfl (by kernel_rfl) rfl (fun _ m => m.keepsI (.refl _) (j28) hE2 hf2) (y_v rfl (v_extract rfl rfl)) ?_
  refine d_t 6 rfl rfl (by kernel_rfl) rfl (fun _ m => m.keepsI (.refl _) (j28) hE2 hf2) (y_v rfl (v_extract rfl rfl)) ?_
  refine d_t 7 rfl rfl (by kernel_rfl) rfl (fun _ m => m.keepsI (.refl _) (j28) hE2 hf2) (y_v rfl (v_extract rfl rfl)) ?_
  refine d_one 8 (by kernel_rfl) rfl ?_
  refine o_alloc he rfl (fun g3 => ?_)
  refine d_on (fun _ m => m.keepsI (.cons _ (.refl _)) (j28) hE2 hf2) ?_
  refine d_one 9 (by kernel_rfl) rfl ?_
  refine o_stw _ he rfl rfl rfl rfl rfl (by simp [hw3.one]) ?_
  refine d_on (fun _ m => m.keepsI (.cons _ (.refl _)) (j28) hE2 hf2) ?_
  refine d_t 10 rfl rfl (by kernel_rfl) rfl (fun _ m => m.keepsI (.cons _ (.refl _)) (j28) hE2 hf2) (y_v rfl (v_assign rfl)) ?_
  refine d_t 11 rfl rfl (by kernel_rfl) rfl (fun _ m => m.keepsI (.cons _ (.refl _)) (j28) hE2 hf2) (y_v rfl (v_assign rfl)) ?_
  refine d_done (by kernel_rfl) ?_
  refine go 2 ?_
  refine sx_knowI (fun hE3 hf3 => ?_)
  refine d_startH T.mixed ?_
  refine d_tv 0 rfl rfl (by kernel_rfl) rfl (.refl _) rfl (v_ldw m1 he rfl rfl) ?_
  refine d_tv 1 rfl rfl (by kernel_rfl) rfl (.refl _) rfl (v_move rfl) ?_
  refine d_tv 2 rfl rfl (by kernel_rfl) rfl (.refl _) rfl (v_slice_hi he rfl rfl 6 rfl (by have : exEs.length = 7 := rfl; omega)) ?_
  refine d_two 3 8 (by kernel_rfl) rfl rfl ?_ ?_
  ·refine o_call (exRun _ vc hvc sf hf _ (exEs.take 6) (RdS.take hv 6 (by decide)) (by decide) (fun e he => ex_smE e (List.mem_of_mem_take he)) _ ex_b) rfl rfl (fun v36 I36 j36 q36 => ?_)
   try have hvc := hvc.le j36
   try have hf := hf.le j36
   try have hv := hv.le j36
   try have hw3 := hw3.le j36
   try have hw6 := hw6.le j36
   obtain ⟨w6, rfl, hw6⟩ := q36
   refine d_on (fun _ m => m.keepsI (.refl _) (j36) hE3 hf3) ?_
   refine d_t 4 rfl rfl (by kernel_rfl) rfl (fun _ m => m.keepsI (.refl _) (j36) hE3 hf3) (y_v rfl (v_move rfl)) ?_
   refine d_t 5 rfl rfl (by kernel_rfl) rfl (fun _ m => m.keepsI (.refl _) (j36) hE3 hf3) (y_v rfl (v_extract rfl rfl)) ?_
   refine d_t 6 rfl rfl (by kernel_rfl) rfl (fun _ m => m.keepsI (.refl _) (j36) hE3 hf3) (y_v rfl (v_extract rfl rfl)) ?_
   refine d_t 7 rfl rfl (by kernel_rfl) rfl (fun _ m => m.keepsI (.refl _) (j36) hE3 hf3) (y_v rfl (v_extract rfl rfl)) ?_
   refine d_one 8 (by kernel_rfl) rfl ?_
   refine o_alloc he rfl (fun g6 => ?_)
   refine d_on (fun _ m => m.keepsI (.cons _ (.refl _)) (j36) hE3 hf3) ?_
   refine d_one 9 (by kernel_rfl) rfl ?_
   refine o_stw _ he rfl rfl rfl rfl rfl (by simp [hw6.one]) ?_
   refine d_on (fun _ m => m.keepsI (.cons _ (.refl _)) (j36) hE3 hf3) ?_
   refine d_t 10 rfl rfl (by kernel_rfl) rfl (fun _ m => m.keepsI (.cons _ (.refl _)) (j36) hE3 hf3) (y_v rfl (v_assign rfl)) ?_
   refine d_t 11 rfl rfl (by kernel_rfl) rfl (fun _ m => m.keepsI (.cons _ (.refl _)) (j36) hE3 hf3) (y_v rfl (v_assign rfl)) ?_
   refine d_done (by kernel_rfl) ?_
   refine go 6 ?_
   refine o_call (exRun _ vc hvc sf hf _ exEs hv (by decide) (fun e he => ex_smE e he) _ ex_c) rfl rfl (fun v43 I43 j43 q43 => ?_)
   try have hvc := hvc.le j43
   try have hf := hf.le j43
   try have hv := hv.le j43
   try have hw3 := hw3.le j43
   try have hw6 := hw6.le j43
   obtain ⟨w9, rfl, hw9⟩ := q43
   obtain ⟨A3, c3, rfl, hA3, _, _⟩ := hw3
   obtain ⟨A6, c6, rfl, hA6, _, _⟩ := hw6
   obtain ⟨A9, c9, rfl, hA9, _, _⟩ := hw9
   refine go 5 ?_
   refine o_alloc he rfl (fun g9 => ?_)
   refine go 1 ?_
   refine o_stw _ he rfl rfl rfl rfl rfl rfl ?_
   refine go 8 ?_
   refine o_v rfl (OV.cast (u := .bool false) (v_neq rfl rfl) rfl) ?_
   refine go 2 ?_
   refine o_cons (o_yes rfl rfl rfl (o_val rfl (OV.cast (u := .bool false) (v_neq rfl rfl) rfl) ?_))
   refine go 3 ?_
   refine o_cons (o_yes rfl rfl rfl (o_val rfl (OV.cast (u := .bool false) (v_neq rfl rfl) rfl) ?_))
   refine go 5 ?_
   refine o_cons (o_yes rfl rfl rfl (o_val rfl (OV.cast (u := .bool false) (v_neq rfl rfl) rfl) ?_))
   refine go 5 ?_
   refine o_cons (o_yes rfl rfl rfl (o_val rfl (OV.cast (u := .bool false) (v_neq rfl rfl) rfl) ?_))
   refine go 5 ?_
   refine o_cons (o_yes rfl rfl rfl (o_val rfl (OV.cast (u := .bool false) (v_neq rfl rfl) rfl) ?_))
   refine go 3 ?_
   refine c_false rfl ?_
   refine go 5 ?_
   refine o_val rfl (v_build (pl := [(0, 1), (1, 1)]) he he rfl rfl) ?_
   refine go 1 ?_
   refine o_val rfl (v_build (pl := [(0, 1), (1, 1)]) he he rfl rfl) ?_
   refine go 1 ?_
   refine o_val rfl (v_build (pl := [(0, 1), (1, 1)]) he he rfl rfl) ?_
   refine go 1 ?_
   refine o_val rfl (v_build (pl := [(0, 2), (2, 2), (4, 2)]) he he rfl rfl) ?_
   refine go 1 ?_
   refine o_alloc he rfl (fun g12 => ?_)
   refine go 1 ?_
   refine o_stw _ he rfl rfl rfl rfl rfl rfl ?_
   refine go 6 ?_
   obtain ⟨b82, o82, w82, e82, c82, r82⟩ := RdA.at_ hA9 (i := 1) (by decide)
   obtain ⟨q82, rfl, hq82⟩ := r82
   refine o_v rfl (v_idx he rfl rfl e82 1 rfl (by decide)) ?_
   refine o_v rfl (v_ldIa he rfl c82 rfl) ?_
   refine go 1 ?_
   refine o_callV (lifeValue _ exSC[1] q82 (RdS.one hq82) sDays 9) rfl rfl ?_
   refine go 4 ?_
   refine o_alloc he rfl (fun g13 => ?_)
   refine go 1 ?_
   refine o_stw _ he rfl rfl rfl rfl rfl rfl ?_
   refine go 7 ?_
   obtain ⟨b90, o90, w90, e90, c90, r90⟩ := RdA.at_ hA9 (i := 1) (by decide)
   obtain ⟨q90, rfl, hq90⟩ := r90
   refine o_v rfl (v_idx he rfl rfl e90 1 rfl (by decide)) ?_
   refine o_v rfl (v_ldIa he rfl c90 rfl) ?_
   refine go 1 ?_
   refine o_callV (lifeValue _ exSC[1] q90 (RdS.one hq90) sAge 9) rfl rfl ?_
   refine go 4 ?_
   refine o_alloc he rfl (fun g15 => ?_)
   refine go 1 ?_
   refine o_stw _ he rfl rfl rfl rfl rfl rfl ?_
   refine go 7 ?_
   obtain ⟨b98, o98, w98, e98, c98, r98⟩ := RdA.at_ hA9 (i := 1) (by decide)
   obtain ⟨q98, rfl, hq98⟩ := r98
   refine o_v rfl (v_idx he rfl rfl e98 1 rfl (by decide)) ?_
   refine o_v rfl (v_ldIa he rfl c98 rfl) ?_
   refine go 1 ?_
   refine o_callV (lifeValue _ exSC[1] q98 (RdS.one hq98) ⟨#[121, 101, 97, 114, 115]⟩ 9) rfl rfl ?_
   refine go 4 ?_
   refine o_alloc he rfl (fun g17 => ?_)
   refine go 1 ?_
   refine o_stw _ he rfl rfl rfl rfl rfl rfl ?_
   refine go 4 ?_
   refine d_startH T.mixed ?_
   refine d_tv 0 rfl rfl (by kernel_rfl) rfl (.refl _) rfl (v_fieldAddr he rfl) ?_
   refine d_tv 1 rfl rfl (by kernel_rfl) rfl (.refl _) rfl (v_ld m6 he rfl rfl) ?_
   obtain ⟨b105, o105, w105, e105, c105, r105⟩ := RdA.at_ hA3 (i := 0) (by decide)
   obtain ⟨q105, rfl, hq105⟩ := r105
   refine d_tv 2 rfl rfl (by kernel_rfl) rfl (.refl _) rfl (v_idx he rfl rfl e105 0 rfl (by decide)) ?_
   refine d_tv 3 rfl rfl (by kernel_rfl) rfl (.refl _) rfl (v_fieldAddr he rfl) ?_
   refine d_tv 4 rfl rfl (by kernel_rfl) rfl (.refl _) rfl (v_ldIa he rfl (c105.sub 8 6) rfl) ?_
   refine d_tv 5 rfl rfl (by kernel_rfl) rfl (.refl _) rfl (v_ldw m3 he rfl rfl) ?_
   refine d_tv 6 rfl rfl (by kernel_rfl) rfl (.refl _) rfl (OV.cast (u := .bool true) (v_steql T.eqg_47 (eqS_Life exSA[0].life exLife) rfl rfl) (congrArg Value.bool (by decide +kernel))) ?_
   refine d_tv 7 rfl rfl (by kernel_rfl) rfl (.refl _) rfl (v_move rfl) ?_
   refine d_t 8 rfl rfl (by kernel_rfl) rfl (fun _ m => m.keeps (.refl _)) (y_yes rfl rfl rfl (v_fieldAddr he rfl)) ?_
   refine d_t 9 rfl rfl (by kernel_rfl) rfl (fun _ m => m.keeps (.refl _)) (y_yes rfl rfl rfl (v_ld m6 he rfl rfl)) ?_
   obtain ⟨b113, o113, w113, e113, c113, r113⟩ := RdA.at_ hA3 (i := 1) (by decide)
   obtain ⟨q113, rfl, hq113⟩ := r113
   refine d_t 10 rfl rfl (by kernel_rfl) rfl (fun _ m => m.keeps (.refl _)) (y_yes rfl rfl rfl (v_idx he rfl rfl e113 1 rfl (by decide))) ?_
   refine d_t 11 rfl rfl (by kernel_rfl) rfl (fun _ m => m.keeps (.refl _)) (y_yes rfl rfl rfl (v_fieldAddr he rfl)) ?_
   refine d_t 12 rfl rfl (by kernel_rfl) rfl (fun _ m => m.keeps (.refl _)) (y_yes rfl rfl rfl (v_ldIa he rfl (c113.sub 8 6) rfl)) ?_
   refine d_t 13 rfl rfl (by kernel_rfl) rfl (fun _ m => m.keeps (.refl _)) (y_yes rfl rfl rfl (v_ldw m3 he rfl rfl)) ?_
   refine d_t 14 rfl rfl (by kernel_rfl) rfl (fun _ m => m.keeps (.refl _)) (y_yes rfl rfl rfl (OV.cast (u := .bool true) (v_steql T.eqg_47 (eqS_Life exSA[1].life exLife) rfl rfl) (congrArg Value.bool (by decide +kernel)))) ?_
   refine d_tv 15 rfl rfl (by kernel_rfl) rfl (.refl _) rfl (v_and_t rfl rfl rfl) ?_
   refine d_tv 16 rfl rfl (by kernel_rfl) rfl (.refl _) rfl (v_move rfl) ?_
   refine d_t 17 rfl rfl (by kernel_rfl) rfl (fun _ m => m.keeps (.refl _)) (y_yes rfl rfl rfl (v_fieldAddr he rfl)) ?_
   refine d_t 18 rfl rfl (by kernel_rfl) rfl (fun _ m => m.keeps (.refl _)) (y_yes rfl rfl rfl (v_ld m5 he rfl rfl)) ?_
   obtain ⟨b122, o122, w122, e122, c122, r122⟩ := RdA.at_ hA6 (i := 0) (by decide)
   obtain ⟨q122, rfl, hq122⟩ := r122
   refine d_t 19 rfl rfl (by kernel_rfl) rfl (fun _ m => m.keeps (.refl _)) (y_yes rfl rfl rfl (v_idx he rfl rfl e122 0 rfl (by decide))) ?_
   refine d_t 20 rfl rfl (by kernel_rfl) rfl (fun _ m => m.keeps (.refl _)) (y_yes rfl rfl rfl (v_fieldAddr he rfl)) ?_
   refine d_t 21 rfl rfl (by kernel_rfl) rfl (fun _ m => m.keeps (.refl _)) (y_yes rfl rfl rfl (v_ldIa he rfl (c122.sub 8 6) rfl)) ?_
   refine d_t 22 rfl rfl (by kernel_rfl) rfl (fun _ m => m.keeps (.refl _)) (y_yes rfl rfl rfl (v_ldw m3 he rfl rfl)) ?_
   refine d_t 23 rfl rfl (by kernel_rfl) rfl (fun _ m => m.keeps (.refl _)) (y_yes rfl rfl rfl (OV.cast (u := .bool true) (v_steql T.eqg_47 (eqS_Life exSB[0].life exLife) rfl rfl) (congrArg Value.bool (by decide +kernel)))) ?_
   refine d_tv 24 rfl rfl (by kernel_rfl) rfl (.refl _) rfl (v_and_t rfl rfl rfl) ?_
   refine d_tv 25 rfl rfl (by kernel_rfl) rfl (.refl _) rfl (v_move rfl) ?_
   refine d_t 26 rfl rfl (by kernel_rfl) rfl (fun _ m => m.keeps (.refl _)) (y_yes rfl rfl rfl (v_fieldAddr he rfl)) ?_
   refine d_t 27 rfl rfl (by kernel_rfl) rfl (fun _ m => m.keeps (.refl _)) (y_yes rfl rfl rfl (v_ld m5 he rfl rfl)) ?_
   obtain ⟨b131, o131, w131, e131, c131, r131⟩ := RdA.at_ hA6 (i := 1) (by decide)
   obtain ⟨q131, rfl, hq131⟩ := r131
   refine d_t 28 rfl rfl (by kernel_rfl) rfl (fun _ m => m.keeps (.refl _)) (y_yes rfl rfl rfl (v_idx he rfl rfl e131 1 rfl (by decide))) ?_
   refine d_t 29 rfl rfl (by kernel_rfl) rfl (fun _ m => m.keeps (.refl _)) (y_yes rfl rfl rfl (v_fieldAddr he rfl)) ?_
   refine d_t 30 rfl rfl (by kernel_rfl) rfl (fun _ m => m.keeps (.refl _)) (y_yes rfl rfl rfl (v_fieldAddr he rfl)) ?_
   refine d_t 31 rfl rfl (by kernel_rfl) rfl (fun _ m => m.keeps (.refl _)) (y_yes rfl rfl rfl (v_ldIa he rfl (c131.sub 8 2) rfl)) ?_
   refine d_t 32 rfl rfl (by kernel_rfl) rfl (fun _ m => m.keeps (.refl _)) (y_yes rfl rfl rfl (v_build (pl := [(0, 1), (1, 1)]) he he rfl rfl)) ?_
   refine d_t 33 rfl rfl (by kernel_rfl) rfl (fun _ m => m.keeps (.refl _)) (y_yes rfl rfl rfl (OV.cast (u := .bool true) (v_steql T.eqg_32 (eqS_Ivl exSB[1].life.km ⟨15, 17⟩) rfl rfl) (congrArg Value.bool (by decide +kernel)))) ?_
   refine d_tv 34 rfl rfl (by kernel_rfl) rfl (.refl _) rfl (v_and_t rfl rfl rfl) ?_
   refine d_tv 35 rfl rfl (by kernel_rfl) rfl (.refl _) rfl (v_move rfl) ?_
   refine d_t 36 rfl rfl (by kernel_rfl) rfl (fun _ m => m.keeps (.refl _)) (y_yes rfl rfl rfl (v_fieldAddr he rfl)) ?_
   refine d_t 37 rfl rfl (by kernel_rfl) rfl (fun _ m => m.keeps (.refl _)) (y_yes rfl rfl rfl (v_ld m4 he rfl rfl)) ?_
   obtain ⟨b141, o141, w141, e141, c141, r141⟩ := RdA.at_ hA9 (i := 1) (by decide)
   obtain ⟨q141, rfl, hq141⟩ := r141
   refine d_t 38 rfl rfl (by kernel_rfl) rfl (fun _ m => m.keeps (.refl _)) (y_yes rfl rfl rfl (v_idx he rfl rfl e141 1 rfl (by decide))) ?_
   refine d_t 39 rfl rfl (by kernel_rfl) rfl (fun _ m => m.keeps (.refl _)) (y_yes rfl rfl rfl (v_fieldAddr he rfl)) ?_
   refine d_t 40 rfl rfl (by kernel_rfl) rfl (fun _ m => m.keeps (.refl _)) (y_yes rfl rfl rfl (v_ldIa he rfl (c141.sub 8 6) rfl)) ?_
   refine d_t 41 rfl rfl (by kernel_rfl) rfl (fun _ m => m.keeps (.refl _)) (y_yes rfl rfl rfl (v_build (pl := [(0, 2), (2, 2), (4, 2)]) he he rfl rfl)) ?_
   refine d_t 42 rfl rfl (by kernel_rfl) rfl (fun _ m => m.keeps (.refl _)) (y_yes rfl rfl rfl (OV.cast (u := .bool true) (v_steql T.eqg_47 (eqS_Life exSC[1].life zLife) rfl rfl) (congrArg Value.bool (by decide +kernel)))) ?_
   refine d_tv 43 rfl rfl (by kernel_rfl) rfl (.refl _) rfl (v_and_t rfl rfl rfl) ?_
   refine d_tv 44 rfl rfl (by kernel_rfl) rfl (.refl _) rfl (v_assign rfl) ?_
   refine d_done (by kernel_rfl) ?_
   refine go 6 ?_
   refine o_cons (o_yes rfl rfl rfl (o_val rfl (OV.cast (u := .bool true) (v_eql rfl rfl) (congrArg Value.bool (by decide +kernel))) ?_))
   refine go 4 ?_
   refine o_yes rfl rfl rfl (o_val rfl (v_build (pl := [(0, 1), (1, 1)]) he he rfl rfl) ?_)
   refine o_cons (o_yes rfl rfl rfl (o_val rfl (OV.cast (u := .bool true) (v_steql T.eqg_32 (eqS_Ivl (valueF exSC[1] sDays 9).1 ⟨5, 5⟩) rfl rfl) (congrArg Value.bool (by decide +kernel))) ?_))
   refine go 3 ?_
   refine o_cons (o_yes rfl rfl rfl (o_val rfl (OV.cast (u := .bool true) (v_eql rfl rfl) (congrArg Value.bool (by decide +kernel))) ?_))
   refine go 4 ?_
   refine o_yes rfl rfl rfl (o_val rfl (v_build (pl := [(0, 1), (1, 1)]) he he rfl rfl) ?_)
   refine o_cons (o_yes rfl rfl rfl (o_val rfl (OV.cast (u := .bool true) (v_steql T.eqg_32 (eqS_Ivl (valueF exSC[1] sAge 9).1 ⟨9, 9⟩) rfl rfl) (congrArg Value.bool (by decide +kernel))) ?_))
   refine go 3 ?_
   refine o_cons (o_yes rfl rfl rfl (o_val rfl (OV.cast (u := .bool true) (v_eql rfl rfl) (congrArg Value.bool (by decide +kernel))) ?_))
   refine go 5 ?_
   refine fin1 rfl rfl ?_
   exact q_vI rfl
  ·refine o_alloc he rfl (fun g6 => ?_)
   refine d_on (fun _ m => m.keeps (.cons _ (.refl _))) ?_
   refine d_one 3 (by kernel_rfl) rfl ?_
   refine o_call (exRun _ vc hvc sf hf _ (exEs.take 6) (RdS.take hv 6 (by decide)) (by decide) (fun e he => ex_smE e (List.mem_of_mem_take he)) _ ex_b) rfl rfl (fun v36 I36 j36 q36 => ?_)
   try have hvc := hvc.le j36
   try have hf := hf.le j36
   try have hv := hv.le j36
   try have hw3 := hw3.le j36
   try have hw6 := hw6.le j36
   obtain ⟨w6, rfl, hw6⟩ := q36
   refine d_on (fun _ m => m.keepsI (.cons _ (.refl _)) (j36) hE3 hf3) ?_
   refine d_t 4 rfl rfl (by kernel_rfl) rfl (fun _ m => m.keepsI (.cons _ (.refl _)) (j36) hE3 hf3) (y_v rfl (v_move rfl)) ?_
   refine d_t 5 rfl rfl (by kernel_rfl) rfl (fun _ m => m.keepsI (.cons _ (.refl _)) (j36) hE3 hf3) (y_v rfl (v_extract rfl rfl)) ?_
   refine d_t 6 rfl rfl (by kernel_rfl) rfl (fun _ m => m.keepsI (.cons _ (.refl _)) (j36) hE3 hf3) (y_v rfl (v_extract rfl rfl)) ?_
   refine d_t 7 rfl rfl (by kernel_rfl) rfl (fun _ m => m.keepsI (.cons _ (.refl _)) (j36) hE3 hf3) (y_v rfl (v_extract rfl rfl)) ?_
   refine d_one 9 (by kernel_rfl) rfl ?_
   refine o_stw _ he rfl rfl rfl rfl rfl (by simp [hw6.one]) ?_
   refine d_on (fun _ m => m.keepsI (.cons _ (.refl _)) (j36) hE3 hf3) ?_
   refine d_t 10 rfl rfl (by kernel_rfl) rfl (fun _ m => m.keepsI (.cons _ (.refl _)) (j36) hE3 hf3) (y_v rfl (v_assign rfl)) ?_
   refine d_t 11 rfl rfl (by kernel_rfl) rfl (fun _ m => m.keepsI (.cons _ (.refl _)) (j36) hE3 hf3) (y_v rfl (v_assign rfl)) ?_
   refine d_done (by kernel_rfl) ?_
   refine go 6 ?_
   refine o_call (exRun _ vc hvc sf hf _ exEs hv (by decide) (fun e he => ex_smE e he) _ ex_c) rfl rfl (fun v43 I43 j43 q43 => ?_)
   try have hvc := hvc.le j43
   try have hf := hf.le j43
   try have hv := hv.le j43
   try have hw3 := hw3.le j43
   try have hw6 := hw6.le j43
   obtain ⟨w9, rfl, hw9⟩ := q43
   obtain ⟨A3, c3, rfl, hA3, _, _⟩ := hw3
   obtain ⟨A6, c6, rfl, hA6, _, _⟩ := hw6
   obtain ⟨A9, c9, rfl, hA9, _, _⟩ := hw9
   refine go 5 ?_
   refine o_alloc he rfl (fun g9 => ?_)
   refine go 1 ?_
   refine o_stw _ he rfl rfl rfl rfl rfl rfl ?_
   refine go 8 ?_
   refine o_v rfl (OV.cast (u := .bool false) (v_neq rfl rfl) rfl) ?_
   refine go 2 ?_
   refine o_cons (o_yes rfl rfl rfl (o_val rfl (OV.cast (u := .bool false) (v_neq rfl rfl) rfl) ?_))
   refine go 3 ?_
   refine o_cons (o_yes rfl rfl rfl (o_val rfl (OV.cast (u := .bool false) (v_neq rfl rfl) rfl) ?_))
   refine go 5 ?_
   refine o_cons (o_yes rfl rfl rfl (o_val rfl (OV.cast (u := .bool false) (v_neq rfl rfl) rfl) ?_))
   refine go 5 ?_
   refine o_cons (o_yes rfl rfl rfl (o_val rfl (OV.cast (u := .bool false) (v_neq rfl rfl) rfl) ?_))
   refine go 5 ?_
   refine o_cons (o_yes rfl rfl rfl (o_val rfl (OV.cast (u := .bool false) (v_neq rfl rfl) rfl) ?_))
   refine go 3 ?_
   refine c_false rfl ?_
   refine go 5 ?_
   refine o_val rfl (v_build (pl := [(0, 1), (1, 1)]) he he rfl rfl) ?_
   refine go 1 ?_
   refine o_val rfl (v_build (pl := [(0, 1), (1, 1)]) he he rfl rfl) ?_
   refine go 1 ?_
   refine o_val rfl (v_build (pl := [(0, 1), (1, 1)]) he he rfl rfl) ?_
   refine go 1 ?_
   refine o_val rfl (v_build (pl := [(0, 2), (2, 2), (4, 2)]) he he rfl rfl) ?_
   refine go 1 ?_
   refine o_alloc he rfl (fun g12 => ?_)
   refine go 1 ?_
   refine o_stw _ he rfl rfl rfl rfl rfl rfl ?_
   refine go 6 ?_
   obtain ⟨b82, o82, w82, e82, c82, r82⟩ := RdA.at_ hA9 (i := 1) (by decide)
   obtain ⟨q82, rfl, hq82⟩ := r82
   refine o_v rfl (v_idx he rfl rfl e82 1 rfl (by decide)) ?_
   refine o_v rfl (v_ldIa he rfl c82 rfl) ?_
   refine go 1 ?_
   refine o_callV (lifeValue _ exSC[1] q82 (RdS.one hq82) sDays 9) rfl rfl ?_
   refine go 4 ?_
   refine o_alloc he rfl (fun g13 => ?_)
   refine go 1 ?_
   refine o_stw _ he rfl rfl rfl rfl rfl rfl ?_
   refine go 7 ?_
   obtain ⟨b90, o90, w90, e90, c90, r90⟩ := RdA.at_ hA9 (i := 1) (by decide)
   obtain ⟨q90, rfl, hq90⟩ := r90
   refine o_v rfl (v_idx he rfl rfl e90 1 rfl (by decide)) ?_
   refine o_v rfl (v_ldIa he rfl c90 rfl) ?_
   refine go 1 ?_
   refine o_callV (lifeValue _ exSC[1] q90 (RdS.one hq90) sAge 9) rfl rfl ?_
   refine go 4 ?_
   refine o_alloc he rfl (fun g15 => ?_)
   refine go 1 ?_
   refine o_stw _ he rfl rfl rfl rfl rfl rfl ?_
   refine go 7 ?_
   obtain ⟨b98, o98, w98, e98, c98, r98⟩ := RdA.at_ hA9 (i := 1) (by decide)
   obtain ⟨q98, rfl, hq98⟩ := r98
   refine o_v rfl (v_idx he rfl rfl e98 1 rfl (by decide)) ?_
   refine o_v rfl (v_ldIa he rfl c98 rfl) ?_
   refine go 1 ?_
   refine o_callV (lifeValue _ exSC[1] q98 (RdS.one hq98) ⟨#[121, 101, 97, 114, 115]⟩ 9) rfl rfl ?_
   refine go 4 ?_
   refine o_alloc he rfl (fun g17 => ?_)
   refine go 1 ?_
   refine o_stw _ he rfl rfl rfl rfl rfl rfl ?_
   refine go 4 ?_
   refine d_startH T.mixed ?_
   refine d_tv 0 rfl rfl (by kernel_rfl) rfl (.refl _) rfl (v_fieldAddr he rfl) ?_
   refine d_tv 1 rfl rfl (by kernel_rfl) rfl (.refl _) rfl (v_ld m6 he rfl rfl) ?_
   obtain ⟨b105, o105, w105, e105, c105, r105⟩ := RdA.at_ hA3 (i := 0) (by decide)
   obtain ⟨q105, rfl, hq105⟩ := r105
   refine d_tv 2 rfl rfl (by kernel_rfl) rfl (.refl _) rfl (v_idx he rfl rfl e105 0 rfl (by decide)) ?_
   refine d_tv 3 rfl rfl (by kernel_rfl) rfl (.refl _) rfl (v_fieldAddr he rfl) ?_
   refine d_tv 4 rfl rfl (by kernel_rfl) rfl (.refl _) rfl (v_ldIa he rfl (c105.sub 8 6) rfl) ?_
   refine d_tv 5 rfl rfl (by kernel_rfl) rfl (.refl _) rfl (v_ldw m3 he rfl rfl) ?_
   refine d_tv 6 rfl rfl (by kernel_rfl) rfl (.refl _) rfl (OV.cast (u := .bool true) (v_steql T.eqg_47 (eqS_Life exSA[0].life exLife) rfl rfl) (congrArg Value.bool (by decide +kernel))) ?_
   refine d_tv 7 rfl rfl (by kernel_rfl) rfl (.refl _) rfl (v_move rfl) ?_
   refine d_t 8 rfl rfl (by kernel_rfl) rfl (fun _ m => m.keeps (.refl _)) (y_yes rfl rfl rfl (v_fieldAddr he rfl)) ?_
   refine d_t 9 rfl rfl (by kernel_rfl) rfl (fun _ m => m.keeps (.refl _)) (y_yes rfl rfl rfl (v_ld m6 he rfl rfl)) ?_
   obtain ⟨b113, o113, w113, e113, c113, r113⟩ := RdA.at_ hA3 (i := 1) (by decide)
   obtain ⟨q113, rfl, hq113⟩ := r113
   refine d_t 10 rfl rfl (by kernel_rfl) rfl (fun _ m => m.keeps (.refl _)) (y_yes rfl rfl rfl (v_idx he rfl rfl e113 1 rfl (by decide))) ?_
   refine d_t 11 rfl rfl (by kernel_rfl) rfl (fun _ m => m.keeps (.refl _)) (y_yes rfl rfl rfl (v_fieldAddr he rfl)) ?_
   refine d_t 12 rfl rfl (by kernel_rfl) rfl (fun _ m => m.keeps (.refl _)) (y_yes rfl rfl rfl (v_ldIa he rfl (c113.sub 8 6) rfl)) ?_
   refine d_t 13 rfl rfl (by kernel_rfl) rfl (fun _ m => m.keeps (.refl _)) (y_yes rfl rfl rfl (v_ldw m3 he rfl rfl)) ?_
   refine d_t 14 rfl rfl (by kernel_rfl) rfl (fun _ m => m.keeps (.refl _)) (y_yes rfl rfl rfl (OV.cast (u := .bool true) (v_steql T.eqg_47 (eqS_Life exSA[1].life exLife) rfl rfl) (congrArg Value.bool (by decide +kernel)))) ?_
   refine d_tv 15 rfl rfl (by kernel_rfl) rfl (.refl _) rfl (v_and_t rfl rfl rfl) ?_
   refine d_tv 16 rfl rfl (by kernel_rfl) rfl (.refl _) rfl (v_move rfl) ?_
   refine d_t 17 rfl rfl (by kernel_rfl) rfl (fun _ m => m.keeps (.refl _)) (y_yes rfl rfl rfl (v_fieldAddr he rfl)) ?_
   refine d_t 18 rfl rfl (by kernel_rfl) rfl (fun _ m => m.keeps (.refl _)) (y_yes rfl rfl rfl (v_ld m5 he rfl rfl)) ?_
   obtain ⟨b122, o122, w122, e122, c122, r122⟩ := RdA.at_ hA6 (i := 0) (by decide)
   obtain ⟨q122, rfl, hq122⟩ := r122
   refine d_t 19 rfl rfl (by kernel_rfl) rfl (fun _ m => m.keeps (.refl _)) (y_yes rfl rfl rfl (v_idx he rfl rfl e122 0 rfl (by decide))) ?_
   refine d_t 20 rfl rfl (by kernel_rfl) rfl (fun _ m => m.keeps (.refl _)) (y_yes rfl rfl rfl (v_fieldAddr he rfl)) ?_
   refine d_t 21 rfl rfl (by kernel_rfl) rfl (fun _ m => m.keeps (.refl _)) (y_yes rfl rfl rfl (v_ldIa he rfl (c122.sub 8 6) rfl)) ?_
   refine d_t 22 rfl rfl (by kernel_rfl) rfl (fun _ m => m.keeps (.refl _)) (y_yes rfl rfl rfl (v_ldw m3 he rfl rfl)) ?_
   refine d_t 23 rfl rfl (by kernel_rfl) rfl (fun _ m => m.keeps (.refl _)) (y_yes rfl rfl rfl (OV.cast (u := .bool true) (v_steql T.eqg_47 (eqS_Life exSB[0].life exLife) rfl rfl) (congrArg Value.bool (by decide +kernel)))) ?_
   refine d_tv 24 rfl rfl (by kernel_rfl) rfl (.refl _) rfl (v_and_t rfl rfl rfl) ?_
   refine d_tv 25 rfl rfl (by kernel_rfl) rfl (.refl _) rfl (v_move rfl) ?_
   refine d_t 26 rfl rfl (by kernel_rfl) rfl (fun _ m => m.keeps (.refl _)) (y_yes rfl rfl rfl (v_fieldAddr he rfl)) ?_
   refine d_t 27 rfl rfl (by kernel_rfl) rfl (fun _ m => m.keeps (.refl _)) (y_yes rfl rfl rfl (v_ld m5 he rfl rfl)) ?_
   obtain ⟨b131, o131, w131, e131, c131, r131⟩ := RdA.at_ hA6 (i := 1) (by decide)
   obtain ⟨q131, rfl, hq131⟩ := r131
   refine d_t 28 rfl rfl (by kernel_rfl) rfl (fun _ m => m.keeps (.refl _)) (y_yes rfl rfl rfl (v_idx he rfl rfl e131 1 rfl (by decide))) ?_
   refine d_t 29 rfl rfl (by kernel_rfl) rfl (fun _ m => m.keeps (.refl _)) (y_yes rfl rfl rfl (v_fieldAddr he rfl)) ?_
   refine d_t 30 rfl rfl (by kernel_rfl) rfl (fun _ m => m.keeps (.refl _)) (y_yes rfl rfl rfl (v_fieldAddr he rfl)) ?_
   refine d_t 31 rfl rfl (by kernel_rfl) rfl (fun _ m => m.keeps (.refl _)) (y_yes rfl rfl rfl (v_ldIa he rfl (c131.sub 8 2) rfl)) ?_
   refine d_t 32 rfl rfl (by kernel_rfl) rfl (fun _ m => m.keeps (.refl _)) (y_yes rfl rfl rfl (v_build (pl := [(0, 1), (1, 1)]) he he rfl rfl)) ?_
   refine d_t 33 rfl rfl (by kernel_rfl) rfl (fun _ m => m.keeps (.refl _)) (y_yes rfl rfl rfl (OV.cast (u := .bool true) (v_steql T.eqg_32 (eqS_Ivl exSB[1].life.km ⟨15, 17⟩) rfl rfl) (congrArg Value.bool (by decide +kernel)))) ?_
   refine d_tv 34 rfl rfl (by kernel_rfl) rfl (.refl _) rfl (v_and_t rfl rfl rfl) ?_
   refine d_tv 35 rfl rfl (by kernel_rfl) rfl (.refl _) rfl (v_move rfl) ?_
   refine d_t 36 rfl rfl (by kernel_rfl) rfl (fun _ m => m.keeps (.refl _)) (y_yes rfl rfl rfl (v_fieldAddr he rfl)) ?_
   refine d_t 37 rfl rfl (by kernel_rfl) rfl (fun _ m => m.keeps (.refl _)) (y_yes rfl rfl rfl (v_ld m4 he rfl rfl)) ?_
   obtain ⟨b141, o141, w141, e141, c141, r141⟩ := RdA.at_ hA9 (i := 1) (by decide)
   obtain ⟨q141, rfl, hq141⟩ := r141
   refine d_t 38 rfl rfl (by kernel_rfl) rfl (fun _ m => m.keeps (.refl _)) (y_yes rfl rfl rfl (v_idx he rfl rfl e141 1 rfl (by decide))) ?_
   refine d_t 39 rfl rfl (by kernel_rfl) rfl (fun _ m => m.keeps (.refl _)) (y_yes rfl rfl rfl (v_fieldAddr he rfl)) ?_
   refine d_t 40 rfl rfl (by kernel_rfl) rfl (fun _ m => m.keeps (.refl _)) (y_yes rfl rfl rfl (v_ldIa he rfl (c141.sub 8 6) rfl)) ?_
   refine d_t 41 rfl rfl (by kernel_rfl) rfl (fun _ m => m.keeps (.refl _)) (y_yes rfl rfl rfl (v_build (pl := [(0, 2), (2, 2), (4, 2)]) he he rfl rfl)) ?_
   refine d_t 42 rfl rfl (by kernel_rfl) rfl (fun _ m => m.keeps (.refl _)) (y_yes rfl rfl rfl (OV.cast (u := .bool true) (v_steql T.eqg_47 (eqS_Life exSC[1].life zLife) rfl rfl) (congrArg Value.bool (by decide +kernel)))) ?_
   refine d_tv 43 rfl rfl (by kernel_rfl) rfl (.refl _) rfl (v_and_t rfl rfl rfl) ?_
   refine d_tv 44 rfl rfl (by kernel_rfl) rfl (.refl _) rfl (v_assign rfl) ?_
   refine d_done (by kernel_rfl) ?_
   refine go 6 ?_
   refine o_cons (o_yes rfl rfl rfl (o_val rfl (OV.cast (u := .bool true) (v_eql rfl rfl) (congrArg Value.bool (by decide +kernel))) ?_))
   refine go 4 ?_
   refine o_yes rfl rfl rfl (o_val rfl (v_build (pl := [(0, 1), (1, 1)]) he he rfl rfl) ?_)
   refine o_cons (o_yes rfl rfl rfl (o_val rfl (OV.cast (u := .bool true) (v_steql T.eqg_32 (eqS_Ivl (valueF exSC[1] sDays 9).1 ⟨5, 5⟩) rfl rfl) (congrArg Value.bool (by decide +kernel))) ?_))
   refine go 3 ?_
   refine o_cons (o_yes rfl rfl rfl (o_val rfl (OV.cast (u := .bool true) (v_eql rfl rfl) (congrArg Value.bool (by decide +kernel))) ?_))
   refine go 4 ?_
   refine o_yes rfl rfl rfl (o_val rfl (v_build (pl := [(0, 1), (1, 1)]) he he rfl rfl) ?_)
   refine o_cons (o_yes rfl rfl rfl (o_val rfl (OV.cast (u := .bool true) (v_steql T.eqg_32 (eqS_Ivl (valueF exSC[1] sAge 9).1 ⟨9, 9⟩) rfl rfl) (congrArg Value.bool (by decide +kernel))) ?_))
   refine go 3 ?_
   refine o_cons (o_yes rfl rfl rfl (o_val rfl (OV.cast (u := .bool true) (v_eql rfl rfl) (congrArg Value.bool (by decide +kernel))) ?_))
   refine go 5 ?_
   refine fin1 rfl rfl ?_
   exact q_vI rfl
 ·refine o_alloc he rfl (fun g3 => ?_)
  refine d_on (fun _ m => m.keeps (.cons _ (.refl _))) ?_
  refine d_one 3 (by kernel_rfl) rfl ?_
  refine o_call (exRun _ vc hvc sf hf _ (exEs.take 4) (RdS.take hv 4 (by decide)) (by decide) (fun e he => ex_smE e (List.mem_of_mem_take he)) _ ex_a) rfl rfl (fun v28 I28 j28 q28 => ?_)
  try have hvc := hvc.le j28
  try have hf := hf.le j28
  try have hv := hv.le j28
  try have hw3 := hw3.le j28
  try have hw6 := hw6.le j28
  obtain ⟨w3, rfl, hw3⟩ := q28
  refine d_on (fun _ m => m.keepsI (.cons _ (.refl _)) (j28) hE2 hf2) ?_
  refine d_t 4 rfl rfl (by kernel_rfl) rfl (fun _ m => m.keepsI (.cons _ (.refl _)) (j28) hE2 hf2) (y_v rfl (v_move rfl)) ?_
  refine d_t 5 rfl rfl (by kernel_rfl) rfl (fun _ m => m.keepsI (.cons _ (.refl _)) (j28) hE2 hf2) (y_v rfl (v_extract rfl rfl)) ?_
  refine d_t 6 rfl rfl (by kernel_rfl) rfl (fun _ m => m.keepsI (.cons _ (.refl _)) (j28) hE2 hf2) (y_v rfl (v_extract rfl rfl)) ?_
  refine d_t 7 rfl rfl (by kernel_rfl) rfl (fun _ m => m.keepsI (.cons _ (.refl _)) (j28) hE2 hf2) (y_v rfl (v_extract rfl rfl)) ?_
  refine d_one 9 (by kernel_rfl) rfl ?_
  refine o_stw _ he rfl rfl rfl rfl rfl (by simp [hw3.one]) ?_
  refine d_on (fun _ m => m.keepsI (.cons _ (.refl _)) (j28) hE2 hf2) ?_
  refine d_t 10 rfl rfl (by kernel_rfl) rfl (fun _ m => m.keepsI (.cons _ (.refl _)) (j28) hE2 hf2) (y_v rfl (v_assign rfl)) ?_
  refine d_t 11 rfl rfl (by kernel_rfl) rfl (fun _ m => m.keepsI (.cons _ (.refl _)) (j28) hE2 hf2) (y_v rfl (v_assign rfl)) ?_
  refine d_done (by kernel_rfl) ?_
  refine go 2 ?_
  refine sx_knowI (fun hE3 hf3 => ?_)
  refine d_startH T.mixed ?_
  refine d_tv 0 rfl rfl (by kernel_rfl) rfl (.refl _) rfl (v_ldw m1 he rfl rfl) ?_
  refine d_tv 1 rfl rfl (by kernel_rfl) rfl (.refl _) rfl (v_move rfl) ?_
  refine d_tv 2 rfl rfl (by kernel_rfl) rfl (.refl _) rfl (v_slice_hi he rfl rfl 6 rfl (by have : exEs.length = 7 := rfl; omega)) ?_
  refine d_two 3 8 (by kernel_rfl) rfl rfl ?_ ?_
  ·refine o_call (exRun _ vc hvc sf hf _ (exEs.take 6) (RdS.take hv 6 (by decide)) (by decide) (fun e he => ex_smE e (List.mem_of_mem_take he)) _ ex_b) rfl rfl (fun v36 I36 j36 q36 => ?_)
   try have hvc := hvc.le j36
   try have hf := hf.le j36
   try have hv := hv.le j36
   try have hw3 := hw3.le j36
   try have hw6 := hw6.le j36
   obtain ⟨w6, rfl, hw6⟩ := q36
   refine d_on (fun _ m => m.keepsI (.refl _) (j36) hE3 hf3) ?_
   refine d_t 4 rfl rfl (by kernel_rfl) rfl (fun _ m => m.keepsI (.refl _) (j36) hE3 hf3) (y_v rfl (v_move rfl)) ?_
   refine d_t 5 rfl rfl (by kernel_rfl) rfl (fun _ m => m.keepsI (.refl _) (j36) hE3 hf3) (y_v rfl (v_extract rfl rfl)) ?_
   refine d_t 6 rfl rfl (by kernel_rfl) rfl (fun _ m => m.keepsI (.refl _) (j36) hE3 hf3) (y_v rfl (v_extract rfl rfl)) ?_
   refine d_t 7 rfl rfl (by kernel_rfl) rfl (fun _ m => m.keepsI (.refl _) (j36) hE3 hf3) (y_v rfl (v_extract rfl rfl)) ?_
   refine d_one 8 (by kernel_rfl) rfl ?_
   refine o_alloc he rfl (fun g6 => ?_)
   refine d_on (fun _ m => m.keepsI (.cons _ (.refl _)) (j36) hE3 hf3) ?_
   refine d_one 9 (by kernel_rfl) rfl ?_
   refine o_stw _ he rfl rfl rfl rfl rfl (by simp [hw6.one]) ?_
   refine d_on (fun _ m => m.keepsI (.cons _ (.refl _)) (j36) hE3 hf3) ?_
   refine d_t 10 rfl rfl (by kernel_rfl) rfl (fun _ m => m.keepsI (.cons _ (.refl _)) (j36) hE3 hf3) (y_v rfl (v_assign rfl)) ?_
   refine d_t 11 rfl rfl (by kernel_rfl) rfl (fun _ m => m.keepsI (.cons _ (.refl _)) (j36) hE3 hf3) (y_v rfl (v_assign rfl)) ?_
   refine d_done (by kernel_rfl) ?_
   refine go 6 ?_
   refine o_call (exRun _ vc hvc sf hf _ exEs hv (by decide) (fun e he => ex_smE e he) _ ex_c) rfl rfl (fun v43 I43 j43 q43 => ?_)
   try have hvc := hvc.le j43
   try have hf := hf.le j43
   try have hv := hv.le j43
   try have hw3 := hw3.le j43
   try have hw6 := hw6.le j43
   obtain ⟨w9, rfl, hw9⟩ := q43
   obtain ⟨A3, c3, rfl, hA3, _, _⟩ := hw3
   obtain ⟨A6, c6, rfl, hA6, _, _⟩ := hw6
   obtain ⟨A9, c9, rfl, hA9, _, _⟩ := hw9
   refine go 5 ?_
   refine o_alloc he rfl (fun g9 => ?_)
   refine go 1 ?_
   refine o_stw _ he rfl rfl rfl rfl rfl rfl ?_
   refine go 8 ?_
   refine o_v rfl (OV.cast (u := .bool false) (v_neq rfl rfl) rfl) ?_
   refine go 2 ?_
   refine o_cons (o_yes rfl rfl rfl (o_val rfl (OV.cast (u := .bool false) (v_neq rfl rfl) rfl) ?_))
   refine go 3 ?_
   refine o_cons (o_yes rfl rfl rfl (o_val rfl (OV.cast (u := .bool false) (v_neq rfl rfl) rfl) ?_))
   refine go 5 ?_
   refine o_cons (o_yes rfl rfl rfl (o_val rfl (OV.cast (u := .bool false) (v_neq rfl rfl) rfl) ?_))
   refine go 5 ?_
   refine o_cons (o_yes rfl rfl rfl (o_val rfl (OV.cast (u := .bool false) (v_neq rfl rfl) rfl) ?_))
   refine go 5 ?_
   refine o_cons (o_yes rfl rfl rfl (o_val rfl (OV.cast (u := .bool false) (v_neq rfl rfl) rfl) ?_))
   refine go 3 ?_
   refine c_false rfl ?_
   refine go 5 ?_
   refine o_val rfl (v_build (pl := [(0, 1), (1, 1)]) he he rfl rfl) ?_
   refine go 1 ?_
   refine o_val rfl (v_build (pl := [(0, 1), (1, 1)]) he he rfl rfl) ?_
   refine go 1 ?_
   refine o_val rfl (v_build (pl := [(0, 1), (1, 1)]) he he rfl rfl) ?_
   refine go 1 ?_
   refine o_val rfl (v_build (pl := [(0, 2), (2, 2), (4, 2)]) he he rfl rfl) ?_
   refine go 1 ?_
   refine o_alloc he rfl (fun g12 => ?_)
   refine go 1 ?_
   refine o_stw _ he rfl rfl rfl rfl rfl rfl ?_
   refine go 6 ?_
   obtain ⟨b82, o82, w82, e82, c82, r82⟩ := RdA.at_ hA9 (i := 1) (by decide)
   obtain ⟨q82, rfl, hq82⟩ := r82
   refine o_v rfl (v_idx he rfl rfl e82 1 rfl (by decide)) ?_
   refine o_v rfl (v_ldIa he rfl c82 rfl) ?_
   refine go 1 ?_
   refine o_callV (lifeValue _ exSC[1] q82 (RdS.one hq82) sDays 9) rfl rfl ?_
   refine go 4 ?_
   refine o_alloc he rfl (fun g13 => ?_)
   refine go 1 ?_
   refine o_stw _ he rfl rfl rfl rfl rfl rfl ?_
   refine go 7 ?_
   obtain ⟨b90, o90, w90, e90, c90, r90⟩ := RdA.at_ hA9 (i := 1) (by decide)
   obtain ⟨q90, rfl, hq90⟩ := r90
   refine o_v rfl (v_idx he rfl rfl e90 1 rfl (by decide)) ?_
   refine o_v rfl (v_ldIa he rfl c90 rfl) ?_
   refine go 1 ?_
   refine o_callV (lifeValue _ exSC[1] q90 (RdS.one hq90) sAge 9) rfl rfl ?_
   refine go 4 ?_
   refine o_alloc he rfl (fun g15 => ?_)
   refine go 1 ?_
   refine o_stw _ he rfl rfl rfl rfl rfl rfl ?_
   refine go 7 ?_
   obtain ⟨b98, o98, w98, e98, c98, r98⟩ := RdA.at_ hA9 (i := 1) (by decide)
   obtain ⟨q98, rfl, hq98⟩ := r98
   refine o_v rfl (v_idx he rfl rfl e98 1 rfl (by decide)) ?_
   refine o_v rfl (v_ldIa he rfl c98 rfl) ?_
   refine go 1 ?_
   refine o_callV (lifeValue _ exSC[1] q98 (RdS.one hq98) ⟨#[121, 101, 97, 114, 115]⟩ 9) rfl rfl ?_
   refine go 4 ?_
   refine o_alloc he rfl (fun g17 => ?_)
   refine go 1 ?_
   refine o_stw _ he rfl rfl rfl rfl rfl rfl ?_
   refine go 4 ?_
   refine d_startH T.mixed ?_
   refine d_tv 0 rfl rfl (by kernel_rfl) rfl (.refl _) rfl (v_fieldAddr he rfl) ?_
   refine d_tv 1 rfl rfl (by kernel_rfl) rfl (.refl _) rfl (v_ld m6 he rfl rfl) ?_
   obtain ⟨b105, o105, w105, e105, c105, r105⟩ := RdA.at_ hA3 (i := 0) (by decide)
   obtain ⟨q105, rfl, hq105⟩ := r105
   refine d_tv 2 rfl rfl (by kernel_rfl) rfl (.refl _) rfl (v_idx he rfl rfl e105 0 rfl (by decide)) ?_
   refine d_tv 3 rfl rfl (by kernel_rfl) rfl (.refl _) rfl (v_fieldAddr he rfl) ?_
   refine d_tv 4 rfl rfl (by kernel_rfl) rfl (.refl _) rfl (v_ldIa he rfl (c105.sub 8 6) rfl) ?_
   refine d_tv 5 rfl rfl (by kernel_rfl) rfl (.refl _) rfl (v_ldw m3 he rfl rfl) ?_
   refine d_tv 6 rfl rfl (by kernel_rfl) rfl (.refl _) rfl (OV.cast (u := .bool true) (v_steql T.eqg_47 (eqS_Life exSA[0].life exLife) rfl rfl) (congrArg Value.bool (by decide +kernel))) ?_
   refine d_tv 7 rfl rfl (by kernel_rfl) rfl (.refl _) rfl (v_move rfl) ?_
   refine d_t 8 rfl rfl (by kernel_rfl) rfl (fun _ m => m.keeps (.refl _)) (y_yes rfl rfl rfl (v_fieldAddr he rfl)) ?_
   refine d_t 9 rfl rfl (by kernel_rfl) rfl (fun _ m => m.keeps (.refl _)) (y_yes rfl rfl rfl (v_ld m6 he rfl rfl)) ?_
   obtain ⟨b113, o113, w113, e113, c113, r113⟩ := RdA.at_ hA3 (i := 1) (by decide)
   obtain ⟨q113, rfl, hq113⟩ := r113
   refine d_t 10 rfl rfl (by kernel_rfl) rfl (fun _ m => m.keeps (.refl _)) (y_yes rfl rfl rfl (v_idx he rfl rfl e113 1 rfl (by decide))) ?_
   refine d_t 11 rfl rfl (by kernel_rfl) rfl (fun _ m => m.keeps (.refl _)) (y_yes rfl rfl rfl (v_fieldAddr he rfl)) ?_
   refine d_t 12 rfl rfl (by kernel_rfl) rfl (fun _ m => m.keeps (.refl _)) (y_yes rfl rfl rfl (v_ldIa he rfl (c113.sub 8 6) rfl)) ?_
   refine d_t 13 rfl rfl (by kernel_rfl) rfl (fun _ m => m.keeps (.refl _)) (y_yes rfl rfl rfl (v_ldw m3 he rfl rfl)) ?_
   refine d_t 14 rfl rfl (by kernel_rfl) rfl (fun _ m => m.keeps (.refl _)) (y_yes rfl rfl rfl (OV.cast (u := .bool true) (v_steql T.eqg_47 (eqS_Life exSA[1].life exLife) rfl rfl) (congrArg Value.bool (by decide +kernel)))) ?_
   refine d_tv 15 rfl rfl (by kernel_rfl) rfl (.refl _) rfl (v_and_t rfl rfl rfl) ?_
   refine d_tv 16 rfl rfl (by kernel_rfl) rfl (.refl _) rfl (v_move rfl) ?_
   refine d_t 17 rfl rfl (by kernel_rfl) rfl (fun _ m => m.keeps (.refl _)) (y_yes rfl rfl rfl (v_fieldAddr he rfl)) ?_
   refine d_t 18 rfl rfl (by kernel_rfl) rfl (fun _ m => m.keeps (.refl _)) (y_yes rfl rfl rfl (v_ld m5 he rfl rfl)) ?_
   obtain ⟨b122, o122, w122, e122, c122, r122⟩ := RdA.at_ hA6 (i := 0) (by decide)
   obtain ⟨q122, rfl, hq122⟩ := r122
   refine d_t 19 rfl rfl (by kernel_rfl) rfl (fun _ m => m.keeps (.refl _)) (y_yes rfl rfl rfl (v_idx he rfl rfl e122 0 rfl (by decide))) ?_
   refine d_t 20 rfl rfl (by kernel_rfl) rfl (fun _ m => m.keeps (.refl _)) (y_yes rfl rfl rfl (v_fieldAddr he rfl)) ?_
   refine d_t 21 rfl rfl (by kernel_rfl) rfl (fun _ m => m.keeps (.refl _)) (y_yes rfl rfl rfl (v_ldIa he rfl (c122.sub 8 6) rfl)) ?_
   refine d_t 22 rfl rfl (by kernel_rfl) rfl (fun _ m => m.keeps (.refl _)) (y_yes rfl rfl rfl (v_ldw m3 he rfl rfl)) ?_
   refine d_t 23 rfl rfl (by kernel_rfl) rfl (fun _ m => m.keeps (.refl _)) (y_yes rfl rfl rfl (OV.cast (u := .bool true) (v_steql T.eqg_47 (eqS_Life exSB[0].life exLife) rfl rfl) (congrArg Value.bool (by decide +kernel)))) ?_
   refine d_tv 24 rfl rfl (by kernel_rfl) rfl (.refl _) rfl (v_and_t rfl rfl rfl) ?_
   refine d_tv 25 rfl rfl (by kernel_rfl) rfl (.refl _) rfl (v_move rfl) ?_
   refine d_t 26 rfl rfl (by kernel_rfl) rfl (fun _ m => m.keeps (.refl _)) (y_yes rfl rfl rfl (v_fieldAddr he rfl)) ?_
   refine d_t 27 rfl rfl (by kernel_rfl) rfl (fun _ m => m.keeps (.refl _)) (y_yes rfl rfl rfl (v_ld m5 he rfl rfl)) ?_
   obtain ⟨b131, o131, w131, e131, c131, r131⟩ := RdA.at_ hA6 (i := 1) (by decide)
   obtain ⟨q131, rfl, hq131⟩ := r131
   refine d_t 28 rfl rfl (by kernel_rfl) rfl (fun _ m => m.keeps (.refl _)) (y_yes rfl rfl rfl (v_idx he rfl rfl e131 1 rfl (by decide))) ?_
   refine d_t 29 rfl rfl (by kernel_rfl) rfl (fun _ m => m.keeps (.refl _)) (y_yes rfl rfl rfl (v_fieldAddr he rfl)) ?_
   refine d_t 30 rfl rfl (by kernel_rfl) rfl (fun _ m => m.keeps (.refl _)) (y_yes rfl rfl rfl (v_fieldAddr he rfl)) ?_
   refine d_t 31 rfl rfl (by kernel_rfl) rfl (fun _ m => m.keeps (.refl _)) (y_yes rfl rfl rfl (v_ldIa he rfl (c131.sub 8 2) rfl)) ?_
   refine d_t 32 rfl rfl (by kernel_rfl) rfl (fun _ m => m.keeps (.refl _)) (y_yes rfl rfl rfl (v_build (pl := [(0, 1), (1, 1)]) he he rfl rfl)) ?_
   refine d_t 33 rfl rfl (by kernel_rfl) rfl (fun _ m => m.keeps (.refl _)) (y_yes rfl rfl rfl (OV.cast (u := .bool true) (v_steql T.eqg_32 (eqS_Ivl exSB[1].life.km ⟨15, 17⟩) rfl rfl) (congrArg Value.bool (by decide +kernel)))) ?_
   refine d_tv 34 rfl rfl (by kernel_rfl) rfl (.refl _) rfl (v_and_t rfl rfl rfl) ?_
   refine d_tv 35 rfl rfl (by kernel_rfl) rfl (.refl _) rfl (v_move rfl) ?_
   refine d_t 36 rfl rfl (by kernel_rfl) rfl (fun _ m => m.keeps (.refl _)) (y_yes rfl rfl rfl (v_fieldAddr he rfl)) ?_
   refine d_t 37 rfl rfl (by kernel_rfl) rfl (fun _ m => m.keeps (.refl _)) (y_yes rfl rfl rfl (v_ld m4 he rfl rfl)) ?_
   obtain ⟨b141, o141, w141, e141, c141, r141⟩ := RdA.at_ hA9 (i := 1) (by decide)
   obtain ⟨q141, rfl, hq141⟩ := r141
   refine d_t 38 rfl rfl (by kernel_rfl) rfl (fun _ m => m.keeps (.refl _)) (y_yes rfl rfl rfl (v_idx he rfl rfl e141 1 rfl (by decide))) ?_
   refine d_t 39 rfl rfl (by kernel_rfl) rfl (fun _ m => m.keeps (.refl _)) (y_yes rfl rfl rfl (v_fieldAddr he rfl)) ?_
   refine d_t 40 rfl rfl (by kernel_rfl) rfl (fun _ m => m.keeps (.refl _)) (y_yes rfl rfl rfl (v_ldIa he rfl (c141.sub 8 6) rfl)) ?_
   refine d_t 41 rfl rfl (by kernel_rfl) rfl (fun _ m => m.keeps (.refl _)) (y_yes rfl rfl rfl (v_build (pl := [(0, 2), (2, 2), (4, 2)]) he he rfl rfl)) ?_
   refine d_t 42 rfl rfl (by kernel_rfl) rfl (fun _ m => m.keeps (.refl _)) (y_yes rfl rfl rfl (OV.cast (u := .bool true) (v_steql T.eqg_47 (eqS_Life exSC[1].life zLife) rfl rfl) (congrArg Value.bool (by decide +kernel)))) ?_
   refine d_tv 43 rfl rfl (by kernel_rfl) rfl (.refl _) rfl (v_and_t rfl rfl rfl) ?_
   refine d_tv 44 rfl rfl (by kernel_rfl) rfl (.refl _) rfl (v_assign rfl) ?_
   refine d_done (by kernel_rfl) ?_
   refine go 6 ?_
   refine o_cons (o_yes rfl rfl rfl (o_val rfl (OV.cast (u := .bool true) (v_eql rfl rfl) (congrArg Value.bool (by decide +kernel))) ?_))
   refine go 4 ?_
   refine o_yes rfl rfl rfl (o_val rfl (v_build (pl := [(0, 1), (1, 1)]) he he rfl rfl) ?_)
   refine o_cons (o_yes rfl rfl rfl (o_val rfl (OV.cast (u := .bool true) (v_steql T.eqg_32 (eqS_Ivl (valueF exSC[1] sDays 9).1 ⟨5, 5⟩) rfl rfl) (congrArg Value.bool (by decide +kernel))) ?_))
   refine go 3 ?_
   refine o_cons (o_yes rfl rfl rfl (o_val rfl (OV.cast (u := .bool true) (v_eql rfl rfl) (congrArg Value.bool (by decide +kernel))) ?_))
   refine go 4 ?_
   refine o_yes rfl rfl rfl (o_val rfl (v_build (pl := [(0, 1), (1, 1)]) he he rfl rfl) ?_)
   refine o_cons (o_yes rfl rfl rfl (o_val rfl (OV.cast (u := .bool true) (v_steql T.eqg_32 (eqS_Ivl (valueF exSC[1] sAge 9).1 ⟨9, 9⟩) rfl rfl) (congrArg Value.bool (by decide +kernel))) ?_))
   refine go 3 ?_
   refine o_cons (o_yes rfl rfl rfl (o_val rfl (OV.cast (u := .bool true) (v_eql rfl rfl) (congrArg Value.bool (by decide +kernel))) ?_))
   refine go 5 ?_
   refine fin1 rfl rfl ?_
   exact q_vI rfl
  ·refine o_alloc he rfl (fun g6 => ?_)
   refine d_on (fun _ m => m.keeps (.cons _ (.refl _))) ?_
   refine d_one 3 (by kernel_rfl) rfl ?_
   refine o_call (exRun _ vc hvc sf hf _ (exEs.take 6) (RdS.take hv 6 (by decide)) (by decide) (fun e he => ex_smE e (List.mem_of_mem_take he)) _ ex_b) rfl rfl (fun v36 I36 j36 q36 => ?_)
   try have hvc := hvc.le j36
   try have hf := hf.le j36
   try have hv := hv.le j36
   try have hw3 := hw3.le j36
   try have hw6 := hw6.le j36
   obtain ⟨w6, rfl, hw6⟩ := q36
   refine d_on (fun _ m => m.keepsI (.cons _ (.refl _)) (j36) hE3 hf3) ?_
   refine d_t 4 rfl rfl (by kernel_rfl) rfl (fun _ m => m.keepsI (.cons _ (.refl _)) (j36) hE3 hf3) (y_v rfl (v_move rfl)) ?_
   refine d_t 5 rfl rfl (by kernel_rfl) rfl (fun _ m => m.keepsI (.cons _ (.refl _)) (j36) hE3 hf3) (y_v rfl (v_extract rfl rfl)) ?_
   refine d_t 6 rfl rfl (by kernel_rfl) rfl (fun _ m => m.keepsI (.cons _ (.refl _)) (j36) hE3 hf3) (y_v rfl (v_extract rfl rfl)) ?_
   refine d_t 7 rfl rfl (by kernel_rfl) rfl (fun _ m => m.keepsI (.cons _ (.refl _)) (j36) hE3 hf3) (y_v rfl (v_extract rfl rfl)) ?_
   refine d_one 9 (by kernel_rfl) rfl ?_
   refine o_stw _ he rfl rfl rfl rfl rfl (by simp [hw6.one]) ?_
   refine d_on (fun _ m => m.keepsI (.cons _ (.refl _)) (j36) hE3 hf3) ?_
   refine d_t 10 rfl rfl (by kernel_rfl) rfl (fun _ m => m.keepsI (.cons _ (.refl _)) (j36) hE3 hf3) (y_v rfl (v_assign rfl)) ?_
   refine d_t 11 rfl rfl (by kernel_rfl) rfl (fun _ m => m.keepsI (.cons _ (.refl _)) (j36) hE3 hf3) (y_v rfl (v_assign rfl)) ?_
   refine d_done (by kernel_rfl) ?_
   refine go 6 ?_
   refine o_call (exRun _ vc hvc sf hf _ exEs hv (by decide) (fun e he => ex_smE e he) _ ex_c) rfl rfl (fun v43 I43 j43 q43 => ?_)
   try have hvc := hvc.le j43
   try have hf := hf.le j43
   try have hv := hv.le j43
   try have hw3 := hw3.le j43
   try have hw6 := hw6.le j43
   obtain ⟨w9, rfl, hw9⟩ := q43
   obtain ⟨A3, c3, rfl, hA3, _, _⟩ := hw3
   obtain ⟨A6, c6, rfl, hA6, _, _⟩ := hw6
   obtain ⟨A9, c9, rfl, hA9, _, _⟩ := hw9
   refine go 5 ?_
   refine o_alloc he rfl (fun g9 => ?_)
   refine go 1 ?_
   refine o_stw _ he rfl rfl rfl rfl rfl rfl ?_
   refine go 8 ?_
   refine o_v rfl (OV.cast (u := .bool false) (v_neq rfl rfl) rfl) ?_
   refine go 2 ?_
   refine o_cons (o_yes rfl rfl rfl (o_val rfl (OV.cast (u := .bool false) (v_neq rfl rfl) rfl) ?_))
   refine go 3 ?_
   refine o_cons (o_yes rfl rfl rfl (o_val rfl (OV.cast (u := .bool false) (v_neq rfl rfl) rfl) ?_))
   refine go 5 ?_
   refine o_cons (o_yes rfl rfl rfl (o_val rfl (OV.cast (u := .bool false) (v_neq rfl rfl) rfl) ?_))
   refine go 5 ?_
   refine o_cons (o_yes rfl rfl rfl (o_val rfl (OV.cast (u := .bool false) (v_neq rfl rfl) rfl) ?_))
   refine go 5 ?_
   refine o_cons (o_yes rfl rfl rfl (o_val rfl (OV.cast (u := .bool false) (v_neq rfl rfl) rfl) ?_))
   refine go 3 ?_
   refine c_false rfl ?_
   refine go 5 ?_
   refine o_val rfl (v_build (pl := [(0, 1), (1, 1)]) he he rfl rfl) ?_
   refine go 1 ?_
   refine o_val rfl (v_build (pl := [(0, 1), (1, 1)]) he he rfl rfl) ?_
   refine go 1 ?_
   refine o_val rfl (v_build (pl := [(0, 1), (1, 1)]) he he rfl rfl) ?_
   refine go 1 ?_
   refine o_val rfl (v_build (pl := [(0, 2), (2, 2), (4, 2)]) he he rfl rfl) ?_
   refine go 1 ?_
   refine o_alloc he rfl (fun g12 => ?_)
   refine go 1 ?_
   refine o_stw _ he rfl rfl rfl rfl rfl rfl ?_
   refine go 6 ?_
   obtain ⟨b82, o82, w82, e82, c82, r82⟩ := RdA.at_ hA9 (i := 1) (by decide)
   obtain ⟨q82, rfl, hq82⟩ := r82
   refine o_v rfl (v_idx he rfl rfl e82 1 rfl (by decide)) ?_
   refine o_v rfl (v_ldIa he rfl c82 rfl) ?_
   refine go 1 ?_
   refine o_callV (lifeValue _ exSC[1] q82 (RdS.one hq82) sDays 9) rfl rfl ?_
   refine go 4 ?_
   refine o_alloc he rfl (fun g13 => ?_)
   refine go 1 ?_
   refine o_stw _ he rfl rfl rfl rfl rfl rfl ?_
   refine go 7 ?_
   obtain ⟨b90, o90, w90, e90, c90, r90⟩ := RdA.at_ hA9 (i := 1) (by decide)
   obtain ⟨q90, rfl, hq90⟩ := r90
   refine o_v rfl (v_idx he rfl rfl e90 1 rfl (by decide)) ?_
   refine o_v rfl (v_ldIa he rfl c90 rfl) ?_
   refine go 1 ?_
   refine o_callV (lifeValue _ exSC[1] q90 (RdS.one hq90) sAge 9) rfl rfl ?_
   refine go 4 ?_
   refine o_alloc he rfl (fun g15 => ?_)
   refine go 1 ?_
   refine o_stw _ he rfl rfl rfl rfl rfl rfl ?_
   refine go 7 ?_
   obtain ⟨b98, o98, w98, e98, c98, r98⟩ := RdA.at_ hA9 (i := 1) (by decide)
   obtain ⟨q98, rfl, hq98⟩ := r98
   refine o_v rfl (v_idx he rfl rfl e98 1 rfl (by decide)) ?_
   refine o_v rfl (v_ldIa he rfl c98 rfl) ?_
   refine go 1 ?_
   refine o_callV (lifeValue _ exSC[1] q98 (RdS.one hq98) ⟨#[121, 101, 97, 114, 115]⟩ 9) rfl rfl ?_
   refine go 4 ?_
   refine o_alloc he rfl (fun g17 => ?_)
   refine go 1 ?_
   refine o_stw _ he rfl rfl rfl rfl rfl rfl ?_
   refine go 4 ?_
   refine d_startH T.mixed ?_
   refine d_tv 0 rfl rfl (by kernel_rfl) rfl (.refl _) rfl (v_fieldAddr he rfl) ?_
   refine d_tv 1 rfl rfl (by kernel_rfl) rfl (.refl _) rfl (v_ld m6 he rfl rfl) ?_
   obtain ⟨b105, o105, w105, e105, c105, r105⟩ := RdA.at_ hA3 (i := 0) (by decide)
   obtain ⟨q105, rfl, hq105⟩ := r105
   refine d_tv 2 rfl rfl (by kernel_rfl) rfl (.refl _) rfl (v_idx he rfl rfl e105 0 rfl (by decide)) ?_
   refine d_tv 3 rfl rfl (by kernel_rfl) rfl (.refl _) rfl (v_fieldAddr he rfl) ?_
   refine d_tv 4 rfl rfl (by kernel_rfl) rfl (.refl _) rfl (v_ldIa he rfl (c105.sub 8 6) rfl) ?_
   refine d_tv 5 rfl rfl (by kernel_rfl) rfl (.refl _) rfl (v_ldw m3 he rfl rfl) ?_
   refine d_tv 6 rfl rfl (by kernel_rfl) rfl (.refl _) rfl (OV.cast (u := .bool true) (v_steql T.eqg_47 (eqS_Life exSA[0].life exLife) rfl rfl) (congrArg Value.bool (by decide +kernel))) ?_
   refine d_tv 7 rfl rfl (by kernel_rfl) rfl (.refl _) rfl (v_move rfl) ?_
   refine d_t 8 rfl rfl (by kernel_rfl) rfl (fun _ m => m.keeps (.refl _)) (y_yes rfl rfl rfl (v_fieldAddr he rfl)) ?_
   refine d_t 9 rfl rfl (by kernel_rfl) rfl (fun _ m => m.keeps (.refl _)) (y_yes rfl rfl rfl (v_ld m6 he rfl rfl)) ?_
   obtain ⟨b113, o113, w113, e113, c113, r113⟩ := RdA.at_ hA3 (i := 1) (by decide)
   obtain ⟨q113, rfl, hq113⟩ := r113
   refine d_t 10 rfl rfl (by kernel_rfl) rfl (fun _ m => m.keeps (.refl _)) (y_yes rfl rfl rfl (v_idx he rfl rfl e113 1 rfl (by decide))) ?_
   refine d_t 11 rfl rfl (by kernel_rfl) rfl (fun _ m => m.keeps (.refl _)) (y_yes rfl rfl rfl (v_fieldAddr he rfl)) ?_
   refine d_t 12 rfl rfl (by kernel_rfl) rfl (fun _ m => m.keeps (.refl _)) (y_yes rfl rfl rfl (v_ldIa he rfl (c113.sub 8 6) rfl)) ?_
   refine d_t 13 rfl rfl (by kernel_rfl) rfl (fun _ m => m.keeps (.refl _)) (y_yes rfl rfl rfl (v_ldw m3 he rfl rfl)) ?_
   refine d_t 14 rfl rfl (by kernel_rfl) rfl (fun _ m => m.keeps (.refl _)) (y_yes rfl rfl rfl (OV.cast (u := .bool true) (v_steql T.eqg_47 (eqS_Life exSA[1].life exLife) rfl rfl) (congrArg Value.bool (by decide +kernel)))) ?_
   refine d_tv 15 rfl rfl (by kernel_rfl) rfl (.refl _) rfl (v_and_t rfl rfl rfl) ?_
   refine d_tv 16 rfl rfl (by kernel_rfl) rfl (.refl _) rfl (v_move rfl) ?_
   refine d_t 17 rfl rfl (by kernel_rfl) rfl (fun _ m => m.keeps (.refl _)) (y_yes rfl rfl rfl (v_fieldAddr he rfl)) ?_
   refine d_t 18 rfl rfl (by kernel_rfl) rfl (fun _ m => m.keeps (.refl _)) (y_yes rfl rfl rfl (v_ld m5 he rfl rfl)) ?_
   obtain ⟨b122, o122, w122, e122, c122, r122⟩ := RdA.at_ hA6 (i := 0) (by decide)
   obtain ⟨q122, rfl, hq122⟩ := r122
   refine d_t 19 rfl rfl (by kernel_rfl) rfl (fun _ m => m.keeps (.refl _)) (y_yes rfl rfl rfl (v_idx he rfl rfl e122 0 rfl (by decide))) ?_
   refine d_t 20 rfl rfl (by kernel_rfl) rfl (fun _ m => m.keeps (.refl _)) (y_yes rfl rfl rfl (v_fieldAddr he rfl)) ?_
   refine d_t 21 rfl rfl (by kernel_rfl) rfl (fun _ m => m.keeps (.refl _)) (y_yes rfl rfl rfl (v_ldIa he rfl (c122.sub 8 6) rfl)) ?_
   refine d_t 22 rfl rfl (by kernel_rfl) rfl (fun _ m => m.keeps (.refl _)) (y_yes rfl rfl rfl (v_ldw m3 he rfl rfl)) ?_
   refine d_t 23 rfl rfl (by kernel_rfl) rfl (fun _ m => m.keeps (.refl _)) (y_yes rfl rfl rfl (OV.cast (u := .bool true) (v_steql T.eqg_47 (eqS_Life exSB[0].life exLife) rfl rfl) (congrArg Value.bool (by decide +kernel)))) ?_
   refine d_tv 24 rfl rfl (by kernel_rfl) rfl (.refl _) rfl (v_and_t rfl rfl rfl) ?_
   refine d_tv 25 rfl rfl (by kernel_rfl) rfl (.refl _) rfl (v_move rfl) ?_
   refine d_t 26 rfl rfl (by kernel_rfl) rfl (fun _ m => m.keeps (.refl _)) (y_yes rfl rfl rfl (v_fieldAddr he rfl)) ?_
   refine d_t 27 rfl rfl (by kernel_rfl) rfl (fun _ m => m.keeps (.refl _)) (y_yes rfl rfl rfl (v_ld m5 he rfl rfl)) ?_
   obtain ⟨b131, o131, w131, e131, c131, r131⟩ := RdA.at_ hA6 (i := 1) (by decide)
   obtain ⟨q131, rfl, hq131⟩ := r131
   refine d_t 28 rfl rfl (by kernel_rfl) rfl (fun _ m => m.keeps (.refl _)) (y_yes rfl rfl rfl (v_idx he rfl rfl e131 1 rfl (by decide))) ?_
   refine d_t 29 rfl rfl (by kernel_rfl) rfl (fun _ m => m.keeps (.refl _)) (y_yes rfl rfl rfl (v_fieldAddr he rfl)) ?_
   refine d_t 30 rfl rfl (by kernel_rfl) rfl (fun _ m => m.keeps (.refl _)) (y_yes rfl rfl rfl (v_fieldAddr he rfl)) ?_
   refine d_t 31 rfl rfl (by kernel_rfl) rfl (fun _ m => m.keeps (.refl _)) (y_yes rfl rfl rfl (v_ldIa he rfl (c131.sub 8 2) rfl)) ?_
   refine d_t 32 rfl rfl (by kernel_rfl) rfl (fun _ m => m.keeps (.refl _)) (y_yes rfl rfl rfl (v_build (pl := [(0, 1), (1, 1)]) he he rfl rfl)) ?_
   refine d_t 33 rfl rfl (by kernel_rfl) rfl (fun _ m => m.keeps (.refl _)) (y_yes rfl rfl rfl (OV.cast (u := .bool true) (v_steql T.eqg_32 (eqS_Ivl exSB[1].life.km ⟨15, 17⟩) rfl rfl) (congrArg Value.bool (by decide +kernel)))) ?_
   refine d_tv 34 rfl rfl (by kernel_rfl) rfl (.refl _) rfl (v_and_t rfl rfl rfl) ?_
   refine d_tv 35 rfl rfl (by kernel_rfl) rfl (.refl _) rfl (v_move rfl) ?_
   refine d_t 36 rfl rfl (by kernel_rfl) rfl (fun _ m => m.keeps (.refl _)) (y_yes rfl rfl rfl (v_fieldAddr he rfl)) ?_
   refine d_t 37 rfl rfl (by kernel_rfl) rfl (fun _ m => m.keeps (.refl _)) (y_yes rfl rfl rfl (v_ld m4 he rfl rfl)) ?_
   obtain ⟨b141, o141, w141, e141, c141, r141⟩ := RdA.at_ hA9 (i := 1) (by decide)
   obtain ⟨q141, rfl, hq141⟩ := r141
   refine d_t 38 rfl rfl (by kernel_rfl) rfl (fun _ m => m.keeps (.refl _)) (y_yes rfl rfl rfl (v_idx he rfl rfl e141 1 rfl (by decide))) ?_
   refine d_t 39 rfl rfl (by kernel_rfl) rfl (fun _ m => m.keeps (.refl _)) (y_yes rfl rfl rfl (v_fieldAddr he rfl)) ?_
   refine d_t 40 rfl rfl (by kernel_rfl) rfl (fun _ m => m.keeps (.refl _)) (y_yes rfl rfl rfl (v_ldIa he rfl (c141.sub 8 6) rfl)) ?_
   refine d_t 41 rfl rfl (by kernel_rfl) rfl (fun _ m => m.keeps (.refl _)) (y_yes rfl rfl rfl (v_build (pl := [(0, 2), (2, 2), (4, 2)]) he he rfl rfl)) ?_
   refine d_t 42 rfl rfl (by kernel_rfl) rfl (fun _ m => m.keeps (.refl _)) (y_yes rfl rfl rfl (OV.cast (u := .bool true) (v_steql T.eqg_47 (eqS_Life exSC[1].life zLife) rfl rfl) (congrArg Value.bool (by decide +kernel)))) ?_
   refine d_tv 43 rfl rfl (by kernel_rfl) rfl (.refl _) rfl (v_and_t rfl rfl rfl) ?_
   refine d_tv 44 rfl rfl (by kernel_rfl) rfl (.refl _) rfl (v_assign rfl) ?_
   refine d_done (by kernel_rfl) ?_
   refine go 6 ?_
   refine o_cons (o_yes rfl rfl rfl (o_val rfl (OV.cast (u := .bool true) (v_eql rfl rfl) (congrArg Value.bool (by decide +kernel))) ?_))
   refine go 4 ?_
   refine o_yes rfl rfl rfl (o_val rfl (v_build (pl := [(0, 1), (1, 1)]) he he rfl rfl) ?_)
   refine o_cons (o_yes rfl rfl rfl (o_val rfl (OV.cast (u := .bool true) (v_steql T.eqg_32 (eqS_Ivl (valueF exSC[1] sDays 9).1 ⟨5, 5⟩) rfl rfl) (congrArg Value.bool (by decide +kernel))) ?_))
   refine go 3 ?_
   refine o_cons (o_yes rfl rfl rfl (o_val rfl (OV.cast (u := .bool true) (v_eql rfl rfl) (congrArg Value.bool (by decide +kernel))) ?_))
   refine go 4 ?_
   refine o_yes rfl rfl rfl (o_val rfl (v_build (pl := [(0, 1), (1, 1)]) he he rfl rfl) ?_)
   refine o_cons (o_yes rfl rfl rfl (o_val rfl (OV.cast (u := .bool true) (v_steql T.eqg_32 (eqS_Ivl (valueF exSC[1] sAge 9).1 ⟨9, 9⟩) rfl rfl) (congrArg Value.bool (by decide +kernel))) ?_))
   refine go 3 ?_
   refine o_cons (o_yes rfl rfl rfl (o_val rfl (OV.cast (u := .bool true) (v_eql rfl rfl) (congrArg Value.bool (by decide +kernel))) ?_))
   refine go 5 ?_
   refine fin1 rfl rfl ?_
   exact q_vI rfl

end Go.Proofs.YthcefohbbfjjfaaGreat

/- The reference of lives: formulas and intervals, as_ it writes them. -/
set_option linter.all false
namespace Go.Sx
open Go
def amtR (x y : Int) : Int := if x ≤ ((1000000000000 : Int)).tdiv y then x * y else (1000000000000 : Int)
section
variable {a b : Int}
theorem quo_in (h : 0 < b) : 0 ≤ ((1000000000000 : Int)).tdiv b ∧ ((1000000000000 : Int)).tdiv b ≤ 1000000000000 := by
  rw [Int.tdiv_eq_ediv_of_nonneg (by decide)]
  refine ⟨Int.ediv_nonneg (by decide) (by omega), Int.ediv_le_self _ (by decide)⟩
theorem amt_in (ha : 0 < a) (h : 0 < b) (hl : a ≤ ((1000000000000 : Int)).tdiv b) : 0 ≤ a * b ∧ a * b ≤ 1000000000000 := by
  rw [Int.tdiv_eq_ediv_of_nonneg (by decide)] at hl
  exact ⟨Int.mul_nonneg (by omega) (by omega), (Int.le_ediv_iff_mul_le h).1 hl⟩
theorem amtR_in (ha : 0 < a) (h : 0 < b) : 0 ≤ amtR a b ∧ amtR a b ≤ 1000000000000 := by
  unfold amtR
  split
  · rename_i hl; exact amt_in ha h hl
  · omega
theorem timesR_eq : timesR a b = if a = 0 ∨ b = 0 then 0 else if (decide (a < 0) != decide (b < 0)) = true then 0 - amtR (max a (0 - a)) (max b (0 - b)) else amtR (max a (0 - a)) (max b (0 - b)) := rfl
theorem times_z (h : (decide (a = 0) || decide (b = 0)) = true) : timesR a b = 0 := if_pos (by simpa using h)
theorem times_nz (h : (decide (a = 0) || decide (b = 0)) = false) : 0 < max a (0 - a) ∧ 0 < max b (0 - b) := by
  simp only [Bool.or_eq_false_iff, decide_eq_false_iff_not] at h; omega
theorem times_n (h : (decide (a = 0) || decide (b = 0)) = false) (h2 : (!(decide (a < 0) == decide (b < 0))) = true) : 0 - amtR (max a (0 - a)) (max b (0 - b)) = timesR a b := by
  rw [timesR_eq, if_neg (by simpa using h), if_pos (by simpa [bne] using h2)]
theorem times_p (h : (decide (a = 0) || decide (b = 0)) = false) (h2 : (!(decide (a < 0) == decide (b < 0))) = false) : amtR (max a (0 - a)) (max b (0 - b)) = timesR a b := by
  rw [timesR_eq, if_neg (by simpa using h), if_neg (by simpa [bne] using h2)]
theorem floorR (hb : ¬ b = 0) : floorB a b = (!decide (a.tmod b = 0) && !(decide (a < 0) == decide (b < 0))) := by
  unfold floorB
  have h1 := Int.mul_tdiv_add_tmod a b
  rw [Int.mul_comm] at h1
  by_cases h : a.tmod b = 0
  · rw [decide_eq_true h, decide_eq_true (show a.tdiv b * b = a by omega)]
  · rw [decide_eq_false h, decide_eq_false (show ¬ a.tdiv b * b = a by omega)]
end
def kidsR (op : Int) : Int := if (decide (op ≥ 1) && decide (op ≤ 4)) = true then 0 else if (decide (op ≥ 5) && decide (op ≤ 10)) = true then 2 else if op = 11 then 3 else -1
def badR (f : Fm) : Bool := ((!decide ((f.kids.length : Int) = kidsR f.op) || decide (f.n < 0)) || decide (f.n > 9999999)) || (!decide (f.op = 1) && !decide (f.n = 0))
section
variable {f : Fm} {i : Nat} {u : Use}
theorem kidsR_in (op : Int) : (1 ≤ op ∧ op ≤ 11 ∧ kidsR op = wantF op) ∨ ((op < 1 ∨ op > 11) ∧ kidsR op = -1) := by
  unfold kidsR wantF
  simp only [Bool.and_eq_true, decide_eq_true_eq]
  by_cases h1 : 1 ≤ op ∧ op ≤ 4
  · rw [if_pos (by omega), if_neg (by omega), if_neg (by omega)]; omega
  rw [if_neg (by omega)]
  by_cases h2 : 5 ≤ op ∧ op ≤ 10
  · rw [if_pos (by omega), if_neg (by omega), if_pos (by omega)]; omega
  rw [if_neg (by omega)]
  by_cases h3 : op = 11
  · rw [if_pos h3, if_pos h3]; omega
  · rw [if_neg h3]; omega
theorem badR_is : badR f = (bad1F f || bad2F f) := by
  have hk := kidsR_in f.op
  rw [Bool.eq_iff_iff]
  simp only [badR, bad1F, bad2F]
  generalize kidsR f.op = x at hk
  generalize wantF f.op = y at hk
  simp only [Bool.or_eq_true, Bool.and_eq_true, Bool.not_eq_true', decide_eq_true_eq, decide_eq_false_iff_not]
  omega
theorem rightR_bad (h : badR f = true) : rightF f = false := by
  rw [badR_is, Bool.or_eq_true] at h
  rcases h with h | h
  · exact right_b1 h
  · exact right_b2 h
theorem rightR_all (h : badR f = false) (h3 : allP (fun _ k => rightF k) f.kids f.kids.length = true) : rightF f = true := by
  rw [badR_is, Bool.or_eq_false_iff] at h
  exact right_all h.1 h.2 h3
theorem useIvR {x : Ivl} : useIv x = ((decide (x.low ≥ 0) && decide (x.low ≤ x.high)) && decide (x.high ≤ 1000000)) := by
  rw [Bool.eq_iff_iff]
  simp only [useIv, Bool.not_eq_true', Bool.or_eq_false_iff, Bool.and_eq_true, decide_eq_true_eq, decide_eq_false_iff_not]
  omega
theorem damR_no (h : (!validFm f || !useOk u) = true) : damF f u = zIvl := by
  cases hu : useOk u with
  | false => exact dam_no hu
  | true => exact dam_bad hu (by rw [hu] at h; simpa using h)
theorem spanR_4 (hR : rightF f = true) (h1 : ¬ f.op = 1) (h2 : ¬ f.op = 2) (h3 : ¬ f.op = 3) (h4 : f.op = 4) : spanF u f = u.load := by
  rw [span_letter hR h1 (by omega)]; unfold letterI; rw [if_neg h2, if_neg h3]
theorem spanR_3 (hR : rightF f = true) (h1 : ¬ f.op = 1) (h2 : ¬ f.op = 2) (h3 : f.op = 3) : spanF u f = u.cycles := by
  rw [span_letter hR h1 (by omega)]; unfold letterI; rw [if_neg h2, if_pos h3]
theorem spanR_2 (hR : rightF f = true) (h1 : ¬ f.op = 1) (h2 : f.op = 2) : spanF u f = u.km := by
  rw [span_letter hR h1 (by omega)]; unfold letterI; rw [if_pos h2]
theorem le4R (hR : rightF f = true) (h1 : ¬ f.op = 1) (h2 : ¬ f.op = 2) (h3 : ¬ f.op = 3) (h4 : ¬ f.op = 4) : ¬ f.op ≤ 4 := by
  have := (right_is hR).1; omega
theorem two_of (hR : rightF f = true) (h4 : ¬ f.op ≤ 4) : 2 ≤ f.kids.length := by
  by_cases h : f.op = 11
  · rw [kids3 hR h]; decide
  · rw [kids2 hR h h4]; decide
theorem op11 (hR : rightF f = true) (h4 : ¬ f.op ≤ 4) (h5 : ¬ f.op = 5) (h6 : ¬ f.op = 6) (h7 : ¬ f.op = 7) (h8 : ¬ f.op = 8) (h9 : ¬ f.op = 9) (h10 : ¬ f.op = 10) : f.op = 11 := by
  have := (right_is hR).1; omega
theorem spanR_two (hR : rightF f = true) (h4 : ¬ f.op ≤ 4) {n : Int} (h : f.op = n) (hn : ¬ n = 11) : spanF u f = applyI n (spanF u (f.kids[0]'(by have := two_of hR h4; omega))) (spanF u (f.kids[1]'(by have := two_of hR h4; omega))) := by
  subst h; exact span_two (kids2 hR hn h4) u
def qSt (a b : Ivl) (i : Nat) : Ivl × Bool := ([max b.low 1, b.high, b.low, min b.high (-1)].take i).foldl (quoR a b) (zIvl, decide (b.low ≤ 0) && decide (b.high ≥ 0))
def dsR (b : Ivl) : List Int := [max b.low 1, b.high, b.low, min b.high (-1)]
theorem qSt_step {a b : Ivl} {d : Int} (hi : i < (dsR b).length) (hd : (dsR b)[i] = d) : qSt a b (i + 1) = quoR a b (qSt a b i) d := by
  subst hd
  unfold qSt
  rw [show [max b.low 1, b.high, b.low, min b.high (-1)] = dsR b from rfl, ← take_succ_of hi, List.foldl_append]; rfl
theorem qSt_end {a b : Ivl} (ha : ivOk a = true) (hb : b.low ≤ b.high) : (qSt a b 4).1 = divI a b := by rw [← quosR_is ha hb]; rfl
theorem quoR_skip {a b : Ivl} {st : Ivl × Bool} {d : Int} (h : (decide (d < b.low) || decide (d > b.high) || decide (d = 0)) = true) : quoR a b st d = st := if_pos (by simpa [or_assoc] using h)
theorem quoR_yes {a b : Ivl} {st : Ivl × Bool} {d : Int} (h : (decide (d < b.low) || decide (d > b.high) || decide (d = 0)) = false) (h2 : st.2 = true) : quoR a b st d = (joinI (quoI a d) st.1, true) := by
  unfold quoR; rw [if_neg (by simpa [or_assoc, and_assoc] using h), if_pos h2]
theorem quoR_no {a b : Ivl} {st : Ivl × Bool} {d : Int} (h : (decide (d < b.low) || decide (d > b.high) || decide (d = 0)) = false) (h2 : st.2 = false) : quoR a b st d = (quoI a d, true) := by
  unfold quoR; rw [if_neg (by simpa [or_assoc, and_assoc] using h), if_neg (by rw [h2]; decide)]
end
end Go.Sx

/- Walks, printed by a program out of the code of the functions: each theorem is a contract of one function. -/
namespace Go.Proofs.YthcefohbbfjjfaaGreat
open Go Go.Sx
set_option linter.all false
set_option maxRecDepth 20000
set_option maxHeartbeats 4000000
instance T.und_62 : Has (Tryz.prog.underlying 62) (.int .u16) := ⟨by kernel_rfl⟩
theorem r04Valid (I : IMap) (x : Ivl) :
    FnV Tryz.prog 179 #[.agg x.cells.toArray] I (.bool (ivOk x)) := by
 refine enter Tryz.func179 Tryz.call179 rfl Tryz.ntmps179 rfl (fun w0 => ?_)
 refine go 3 ?_
 refine o_box _ rfl rfl rfl (fun g1 => ?_)
 refine go 11 ?_
 refine sxb 8 rfl (fun h8 p8 => ?_) (fun h8 p8 => ?_)
 ·refine go 5 ?_
  refine sxb 13 rfl (fun h13 p13 => ?_) (fun h13 p13 => ?_)
  ·refine go 8 ?_
   refine fin1 rfl rfl ?_
   exact q_v (congrArg Value.bool (by simp only [ivOk, h8, h13, bS]))
  ·refine go 8 ?_
   refine fin1 rfl rfl ?_
   exact q_v (congrArg Value.bool (by simp only [ivOk, h8, h13, bS]))
 ·refine go 13 ?_
  refine fin1 rfl rfl ?_
  exact q_v (congrArg Value.bool (by simp only [ivOk, h8, bS]))

theorem r04Sat (I : IMap) (n : Int) :
    FnV Tryz.prog 180 #[.int .i64 (n)] I (.int .i64 (satI n)) := by
 refine enter Tryz.func180 Tryz.call180 rfl Tryz.ntmps180 rfl (fun w0 => ?_)
 refine go 8 ?_
 refine o_v rfl (OV.cast (u := .int .i64 (min n (1000000000000 : Int))) (v_imin rfl rfl) (congrArg (Value.int .i64) (by omega))) ?_
 refine o_v rfl (OV.cast (u := .int .i64 (satI n)) (v_imax rfl rfl) (congrArg (Value.int .i64) (by unfold satI; omega))) ?_
 refine go 4 ?_
 refine fin1 rfl rfl ?_
 exact q_v rfl

theorem r04Times (I : IMap) (a b : Int) (ha : -(1000000000000 : Int) ≤ a ∧ a ≤ (1000000000000 : Int)) (hb : -(1000000000000 : Int) ≤ b ∧ b ≤ (1000000000000 : Int)) :
    FnV Tryz.prog 207 #[.int .i64 (a), .int .i64 (b)] I (.int .i64 (satI (a * b))) := by
 refine enter Tryz.func207 Tryz.call207 rfl Tryz.ntmps207 rfl (fun w0 => ?_)
 refine go 7 ?_
 refine c_cut (I' := I) (L' := [(0, .int .i64 (a)), (1, .int .i64 (b)), (13, .bool (decide (a = 0) || decide (b = 0)))]) (H' := []) ?_ ?_
 ·refine go 4 ?_
  refine sxb 10 rfl (fun h10 p10 => ?_) (fun h10 p10 => ?_)
  ·refine go 5 ?_
   exact q_cut ⟨rfl, rfl, (congrArg (fun b => some (Value.bool b)) (by simp only [h10, bS])), trivial⟩ rfl rfl
  ·refine go 5 ?_
   exact q_cut ⟨rfl, rfl, (congrArg (fun b => some (Value.bool b)) (by simp only [h10, bS])), trivial⟩ rfl rfl
 ·refine cb rfl (fun h13 p13 => ?_) (fun h13 p13 => ?_)
  ·refine go 7 ?_
   refine fin1 rfl rfl ?_
   exact q_v (congrArg (Value.int .i64) (by rw [← timesR_is ha hb, times_z h13]))
  ·obtain ⟨hxp, hyp⟩ := times_nz h13
   have hq := quo_in hyp
   obtain ⟨x, hx⟩ : ∃ x, max a (0 - a) = x := ⟨_, rfl⟩
   obtain ⟨y, hy⟩ : ∃ y, max b (0 - b) = y := ⟨_, rfl⟩
   rw [hx] at hxp
   rw [hy] at hyp hq
   have hxy := amtR_in hxp hyp
   refine go 7 ?_
   refine o_v rfl (OV.cast (u := .int .i64 (x)) (v_imax rfl rfl) (congrArg (Value.int .i64) (by omega))) ?_
   refine go 8 ?_
   refine o_v rfl (OV.cast (u := .int .i64 (y)) (v_imax rfl rfl) (congrArg (Value.int .i64) (by omega))) ?_
   refine go 9 ?_
   refine c_cut (I' := I) (L' := [(0, .int .i64 (a)), (1, .int .i64 (b)), (7, .int .i64 (amtR x y))]) (H' := []) ?_ ?_
   ·refine go 4 ?_
    refine o_v rfl (v_quo rfl rfl (by omega) ⟨by omega, by omega⟩) ?_
    refine go 3 ?_
    refine cb rfl (fun h25 p25 => ?_) (fun h25 p25 => ?_)
    ·have ham := amt_in hxp hyp p25
     refine go 3 ?_
     refine o_v rfl (v_mul rfl rfl ⟨by omega, by omega⟩) ?_
     refine go 3 ?_
     exact q_cut ⟨rfl, rfl, (congrArg (fun z => some (Value.int .i64 z)) (by unfold amtR; first | rw [if_pos p25] | rw [if_neg p25])), trivial⟩ rfl rfl
    ·refine go 2 ?_
     exact q_cut ⟨rfl, rfl, (congrArg (fun z => some (Value.int .i64 z)) (by unfold amtR; first | rw [if_pos p25] | rw [if_neg p25])), trivial⟩ rfl rfl
   ·refine go 7 ?_
    refine o_v rfl (v_bneq he rfl rfl) ?_
    refine go 2 ?_
    refine cb rfl (fun h33 p33 => ?_) (fun h33 p33 => ?_)
    ·refine go 9 ?_
     refine fin1 rfl rfl ?_
     exact q_v (congrArg (Value.int .i64) (by rw [← timesR_is ha hb, ← times_n h13 h33, hx, hy]))
    ·refine go 9 ?_
     refine fin1 rfl rfl ?_
     exact q_v (congrArg (Value.int .i64) (by rw [← timesR_is ha hb, ← times_p h13 h33, hx, hy]))

theorem r04Add (I : IMap) (a b : Ivl) :
    FnV Tryz.prog 142 #[.agg a.cells.toArray, .agg b.cells.toArray] I (.agg (addI a b).cells.toArray) := by
 refine enter Tryz.func142 Tryz.call142 rfl Tryz.ntmps142 rfl (fun w0 => ?_)
 refine go 3 ?_
 refine o_box _ rfl rfl rfl (fun g2 => ?_)
 refine go 1 ?_
 refine o_box _ rfl rfl rfl (fun g3 => ?_)
 refine go 1 ?_
 refine o_alloc he rfl (fun g4 => ?_)
 refine go 4 ?_
 refine c_cut (I' := I) (L' := [(2, .pointer (some ⟨g2, 0, none⟩)), (3, .pointer (some ⟨g3, 0, none⟩)), (4, .pointer (some ⟨g4, 0, none⟩)), (12, .bool (!ivOk a || !ivOk b))]) (H' := [.blk g2 32 a.cells, .blk g3 32 b.cells, .blk g4 32 [.int .i64 (0), .int .i64 (0)]]) ?_ ?_
 ·refine go 3 ?_
  refine o_callV (r04Valid _ a) rfl rfl ?_
  refine go 2 ?_
  refine sxb 8 rfl (fun h8 p8 => ?_) (fun h8 p8 => ?_)
  ·refine go 6 ?_
   refine bring1 ?_
   refine bring2 ?_
   exact q_cut ⟨rfl, rfl, rfl, (congrArg (fun b => some (Value.bool b)) (by simp only [h8, bS])), trivial⟩ rfl rfl
  ·refine go 2 ?_
   refine o_yes rfl rfl h8 (o_callV (r04Valid _ b) rfl rfl ?_)
   refine go 4 ?_
   refine bring1 ?_
   refine bring2 ?_
   exact q_cut ⟨rfl, rfl, rfl, (congrArg (fun b => some (Value.bool b)) (by simp only [h8, bS])), trivial⟩ rfl rfl
 ·refine cb rfl (fun h12 p12 => ?_) (fun h12 p12 => ?_)
  ·refine go 3 ?_
   refine o_val rfl (v_build (pl := [(0, 1), (1, 1)]) he he rfl rfl) ?_
   refine go 1 ?_
   refine bring2 ?_
   refine o_stw _ he rfl rfl rfl rfl rfl rfl ?_
   refine go 4 ?_
   refine fin1 rfl ⟨_, _, _, rfl, m0, .inr ⟨_, he, rfl, rfl⟩⟩ ?_
   exact q_v (by unfold addI; rw [both_no h12]; rfl)
  ·obtain ⟨⟨ha1, ha2⟩, hb1, hb2⟩ := both_in h12
   obtain ⟨hoa, hob⟩ : ivOk a = true ∧ ivOk b = true := by simpa using h12
   refine go 3 ?_
   refine bring2 ?_
   refine d_start1 T.mixed ?_
   refine d_tv 0 rfl rfl (by kernel_rfl) rfl (.cons _ (.refl _)) rfl (v_fieldAddr he rfl) ?_
   refine d_tv 1 rfl rfl (by kernel_rfl) rfl (.cons _ (.refl _)) rfl (v_ld m0 he rfl rfl) ?_
   refine d_tv 2 rfl rfl (by kernel_rfl) rfl (.cons _ (.refl _)) rfl (v_fieldAddr he rfl) ?_
   refine d_tv 3 rfl rfl (by kernel_rfl) rfl (.cons _ (.refl _)) rfl (v_ld m1 he rfl rfl) ?_
   refine d_tv 4 rfl rfl (by kernel_rfl) rfl (.cons _ (.refl _)) rfl (v_add rfl rfl ⟨by omega, by omega⟩) ?_
   refine d_tv 6 rfl rfl (by kernel_rfl) rfl (.cons _ (.refl _)) rfl (v_fieldAddr he rfl) ?_
   refine d_tv 7 rfl rfl (by kernel_rfl) rfl (.cons _ (.refl _)) rfl (v_ld m0 he rfl rfl) ?_
   refine d_tv 8 rfl rfl (by kernel_rfl) rfl (.cons _ (.refl _)) rfl (v_fieldAddr he rfl) ?_
   refine d_tv 9 rfl rfl (by kernel_rfl) rfl (.cons _ (.refl _)) rfl (v_ld m1 he rfl rfl) ?_
   refine d_tv 10 rfl rfl (by kernel_rfl) rfl (.cons _ (.refl _)) rfl (v_add rfl rfl ⟨by omega, by omega⟩) ?_
   refine d_one 5 (by kernel_rfl) rfl ?_
   refine o_callV (r04Sat _ (a.low + b.low)) rfl rfl ?_
   refine d_on (fun _ m => m.keeps (.cons _ (.refl _))) ?_
   refine d_one 11 (by kernel_rfl) rfl ?_
   refine o_callV (r04Sat _ (a.high + b.high)) rfl rfl ?_
   refine d_on (fun _ m => m.keeps (.cons _ (.refl _))) ?_
   refine d_tv 12 rfl rfl (by kernel_rfl) rfl (.cons _ (.refl _)) rfl (v_build (pl := [(0, 1), (1, 1)]) he he rfl rfl) ?_
   refine d_one 13 (by kernel_rfl) rfl ?_
   refine o_stw _ he rfl rfl rfl rfl rfl rfl ?_
   refine d_on (fun _ m => m.keeps (.cons _ (.refl _))) ?_
   refine d_done (by kernel_rfl) ?_
   refine go 2 ?_
   refine fin1 rfl ⟨_, _, _, rfl, m0, .inr ⟨_, he, rfl, rfl⟩⟩ ?_
   exact q_v (by rw [addI_is hoa hob]; rfl)

theorem r04Sub (I : IMap) (a b : Ivl) :
    FnV Tryz.prog 197 #[.agg a.cells.toArray, .agg b.cells.toArray] I (.agg (subI a b).cells.toArray) := by
 refine enter Tryz.func197 Tryz.call197 rfl Tryz.ntmps197 rfl (fun w0 => ?_)
 refine go 3 ?_
 refine o_box _ rfl rfl rfl (fun g2 => ?_)
 refine go 1 ?_
 refine o_box _ rfl rfl rfl (fun g3 => ?_)
 refine go 1 ?_
 refine o_alloc he rfl (fun g4 => ?_)
 refine go 4 ?_
 refine c_cut (I' := I) (L' := [(2, .pointer (some ⟨g2, 0, none⟩)), (3, .pointer (some ⟨g3, 0, none⟩)), (4, .pointer (some ⟨g4, 0, none⟩)), (12, .bool (!ivOk a || !ivOk b))]) (H' := [.blk g2 32 a.cells, .blk g3 32 b.cells, .blk g4 32 [.int .i64 (0), .int .i64 (0)]]) ?_ ?_
 ·refine go 3 ?_
  refine o_callV (r04Valid _ a) rfl rfl ?_
  refine go 2 ?_
  refine sxb 8 rfl (fun h8 p8 => ?_) (fun h8 p8 => ?_)
  ·refine go 6 ?_
   refine bring1 ?_
   refine bring2 ?_
   exact q_cut ⟨rfl, rfl, rfl, (congrArg (fun b => some (Value.bool b)) (by simp only [h8, bS])), trivial⟩ rfl rfl
  ·refine go 2 ?_
   refine o_yes rfl rfl h8 (o_callV (r04Valid _ b) rfl rfl ?_)
   refine go 4 ?_
   refine bring1 ?_
   refine bring2 ?_
   exact q_cut ⟨rfl, rfl, rfl, (congrArg (fun b => some (Value.bool b)) (by simp only [h8, bS])), trivial⟩ rfl rfl
 ·refine cb rfl (fun h12 p12 => ?_) (fun h12 p12 => ?_)
  ·refine go 3 ?_
   refine o_val rfl (v_build (pl := [(0, 1), (1, 1)]) he he rfl rfl) ?_
   refine go 1 ?_
   refine bring2 ?_
   refine o_stw _ he rfl rfl rfl rfl rfl rfl ?_
   refine go 4 ?_
   refine fin1 rfl ⟨_, _, _, rfl, m0, .inr ⟨_, he, rfl, rfl⟩⟩ ?_
   exact q_v (by unfold subI; rw [both_no h12]; rfl)
  ·obtain ⟨⟨ha1, ha2⟩, hb1, hb2⟩ := both_in h12
   obtain ⟨hoa, hob⟩ : ivOk a = true ∧ ivOk b = true := by simpa using h12
   refine go 3 ?_
   refine bring2 ?_
   refine d_start1 T.mixed ?_
   refine d_tv 0 rfl rfl (by kernel_rfl) rfl (.cons _ (.refl _)) rfl (v_fieldAddr he rfl) ?_
   refine d_tv 1 rfl rfl (by kernel_rfl) rfl (.cons _ (.refl _)) rfl (v_ld m0 he rfl rfl) ?_
   refine d_tv 2 rfl rfl (by kernel_rfl) rfl (.cons _ (.refl _)) rfl (v_fieldAddr he rfl) ?_
   refine d_tv 3 rfl rfl (by kernel_rfl) rfl (.cons _ (.refl _)) rfl (v_ld m1 he rfl rfl) ?_
   refine d_tv 4 rfl rfl (by kernel_rfl) rfl (.cons _ (.refl _)) rfl (v_sub rfl rfl ⟨by omega, by omega⟩) ?_
   refine d_tv 6 rfl rfl (by kernel_rfl) rfl (.cons _ (.refl _)) rfl (v_fieldAddr he rfl) ?_
   refine d_tv 7 rfl rfl (by kernel_rfl) rfl (.cons _ (.refl _)) rfl (v_ld m0 he rfl rfl) ?_
   refine d_tv 8 rfl rfl (by kernel_rfl) rfl (.cons _ (.refl _)) rfl (v_fieldAddr he rfl) ?_
   refine d_tv 9 rfl rfl (by kernel_rfl) rfl (.cons _ (.refl _)) rfl (v_ld m1 he rfl rfl) ?_
   refine d_tv 10 rfl rfl (by kernel_rfl) rfl (.cons _ (.refl _)) rfl (v_sub rfl rfl ⟨by omega, by omega⟩) ?_
   refine d_one 5 (by kernel_rfl) rfl ?_
   refine o_callV (r04Sat _ (a.low - b.high)) rfl rfl ?_
   refine d_on (fun _ m => m.keeps (.cons _ (.refl _))) ?_
   refine d_one 11 (by kernel_rfl) rfl ?_
   refine o_callV (r04Sat _ (a.high - b.low)) rfl rfl ?_
   refine d_on (fun _ m => m.keeps (.cons _ (.refl _))) ?_
   refine d_tv 12 rfl rfl (by kernel_rfl) rfl (.cons _ (.refl _)) rfl (v_build (pl := [(0, 1), (1, 1)]) he he rfl rfl) ?_
   refine d_one 13 (by kernel_rfl) rfl ?_
   refine o_stw _ he rfl rfl rfl rfl rfl rfl ?_
   refine d_on (fun _ m => m.keeps (.cons _ (.refl _))) ?_
   refine d_done (by kernel_rfl) ?_
   refine go 2 ?_
   refine fin1 rfl ⟨_, _, _, rfl, m0, .inr ⟨_, he, rfl, rfl⟩⟩ ?_
   exact q_v (by rw [subI_is hoa hob]; rfl)

theorem r04Mul (I : IMap) (a b : Ivl) :
    FnV Tryz.prog 198 #[.agg a.cells.toArray, .agg b.cells.toArray] I (.agg (mulI a b).cells.toArray) := by
 refine enter Tryz.func198 Tryz.call198 rfl Tryz.ntmps198 rfl (fun w0 => ?_)
 refine go 3 ?_
 refine o_box _ rfl rfl rfl (fun g2 => ?_)
 refine go 1 ?_
 refine o_box _ rfl rfl rfl (fun g3 => ?_)
 refine go 1 ?_
 refine o_alloc he rfl (fun g4 => ?_)
 refine go 4 ?_
 refine c_cut (I' := I) (L' := [(2, .pointer (some ⟨g2, 0, none⟩)), (3, .pointer (some ⟨g3, 0, none⟩)), (4, .pointer (some ⟨g4, 0, none⟩)), (16, .bool (!ivOk a || !ivOk b))]) (H' := [.blk g2 32 a.cells, .blk g3 32 b.cells, .blk g4 32 [.int .i64 (0), .int .i64 (0)]]) ?_ ?_
 ·refine go 3 ?_
  refine o_callV (r04Valid _ a) rfl rfl ?_
  refine go 2 ?_
  refine sxb 12 rfl (fun h12 p12 => ?_) (fun h12 p12 => ?_)
  ·refine go 6 ?_
   refine bring1 ?_
   refine bring2 ?_
   exact q_cut ⟨rfl, rfl, rfl, (congrArg (fun b => some (Value.bool b)) (by simp only [h12, bS])), trivial⟩ rfl rfl
  ·refine go 2 ?_
   refine o_yes rfl rfl h12 (o_callV (r04Valid _ b) rfl rfl ?_)
   refine go 4 ?_
   refine bring1 ?_
   refine bring2 ?_
   exact q_cut ⟨rfl, rfl, rfl, (congrArg (fun b => some (Value.bool b)) (by simp only [h12, bS])), trivial⟩ rfl rfl
 ·refine cb rfl (fun h16 p16 => ?_) (fun h16 p16 => ?_)
  ·refine go 3 ?_
   refine o_val rfl (v_build (pl := [(0, 1), (1, 1)]) he he rfl rfl) ?_
   refine go 1 ?_
   refine bring2 ?_
   refine o_stw _ he rfl rfl rfl rfl rfl rfl ?_
   refine go 4 ?_
   refine fin1 rfl ⟨_, _, _, rfl, m0, .inr ⟨_, he, rfl, rfl⟩⟩ ?_
   exact q_v (by unfold mulI; rw [both_no h16]; rfl)
  ·obtain ⟨⟨ha1, ha2⟩, hb1, hb2⟩ := both_in h16
   obtain ⟨hoa, hob⟩ : ivOk a = true ∧ ivOk b = true := by simpa using h16
   refine go 9 ?_
   refine o_callV (r04Times _ a.low b.low ha1 hb1) rfl rfl ?_
   refine go 10 ?_
   refine o_callV (r04Times _ a.low b.high ha1 hb2) rfl rfl ?_
   refine go 10 ?_
   refine o_callV (r04Times _ a.high b.low ha2 hb1) rfl rfl ?_
   refine go 10 ?_
   refine o_callV (r04Times _ a.high b.high ha2 hb2) rfl rfl ?_
   refine go 9 ?_
   refine o_v rfl (OV.cast (u := .int .i64 (min (min (min (satI (a.low * b.low)) (satI (a.low * b.high))) (satI (a.high * b.low))) (satI (a.high * b.high)))) (v_imin4 rfl rfl rfl rfl) (congrArg (Value.int .i64) (by omega))) ?_
   refine go 4 ?_
   refine o_v rfl (OV.cast (u := .int .i64 (max (max (max (satI (a.low * b.low)) (satI (a.low * b.high))) (satI (a.high * b.low))) (satI (a.high * b.high)))) (v_imax4 rfl rfl rfl rfl) (congrArg (Value.int .i64) (by omega))) ?_
   refine go 1 ?_
   refine o_val rfl (v_build (pl := [(0, 1), (1, 1)]) he he rfl rfl) ?_
   refine go 1 ?_
   refine bring2 ?_
   refine o_stw _ he rfl rfl rfl rfl rfl rfl ?_
   refine go 3 ?_
   refine fin1 rfl ⟨_, _, _, rfl, m0, .inr ⟨_, he, rfl, rfl⟩⟩ ?_
   exact q_v (by unfold mulI bothI; rw [if_neg (not_ok hoa hob)]; rfl)

theorem r04Join (I : IMap) (a b : Ivl) :
    FnV Tryz.prog 201 #[.agg a.cells.toArray, .agg b.cells.toArray] I (.agg (joinI a b).cells.toArray) := by
 refine enter Tryz.func201 Tryz.call201 rfl Tryz.ntmps201 rfl (fun w0 => ?_)
 refine go 3 ?_
 refine o_box _ rfl rfl rfl (fun g2 => ?_)
 refine go 1 ?_
 refine o_box _ rfl rfl rfl (fun g3 => ?_)
 refine go 1 ?_
 refine o_alloc he rfl (fun g4 => ?_)
 refine go 4 ?_
 refine c_cut (I' := I) (L' := [(2, .pointer (some ⟨g2, 0, none⟩)), (3, .pointer (some ⟨g3, 0, none⟩)), (4, .pointer (some ⟨g4, 0, none⟩)), (12, .bool (!ivOk a || !ivOk b))]) (H' := [.blk g2 32 a.cells, .blk g3 32 b.cells, .blk g4 32 [.int .i64 (0), .int .i64 (0)]]) ?_ ?_
 ·refine go 3 ?_
  refine o_callV (r04Valid _ a) rfl rfl ?_
  refine go 2 ?_
  refine sxb 8 rfl (fun h8 p8 => ?_) (fun h8 p8 => ?_)
  ·refine go 6 ?_
   refine bring1 ?_
   refine bring2 ?_
   exact q_cut ⟨rfl, rfl, rfl, (congrArg (fun b => some (Value.bool b)) (by simp only [h8, bS])), trivial⟩ rfl rfl
  ·refine go 2 ?_
   refine o_yes rfl rfl h8 (o_callV (r04Valid _ b) rfl rfl ?_)
   refine go 4 ?_
   refine bring1 ?_
   refine bring2 ?_
   exact q_cut ⟨rfl, rfl, rfl, (congrArg (fun b => some (Value.bool b)) (by simp only [h8, bS])), trivial⟩ rfl rfl
 ·refine cb rfl (fun h12 p12 => ?_) (fun h12 p12 => ?_)
  ·refine go 3 ?_
   refine o_val rfl (v_build (pl := [(0, 1), (1, 1)]) he he rfl rfl) ?_
   refine go 1 ?_
   refine bring2 ?_
   refine o_stw _ he rfl rfl rfl rfl rfl rfl ?_
   refine go 4 ?_
   refine fin1 rfl ⟨_, _, _, rfl, m0, .inr ⟨_, he, rfl, rfl⟩⟩ ?_
   exact q_v (by rw [join_no h12]; rfl)
  ·obtain ⟨⟨ha1, ha2⟩, hb1, hb2⟩ := both_in h12
   obtain ⟨hoa, hob⟩ : ivOk a = true ∧ ivOk b = true := by simpa using h12
   refine go 8 ?_
   refine o_v rfl (OV.cast (u := .int .i64 (min a.low b.low)) (v_imin rfl rfl) (congrArg (Value.int .i64) (by omega))) ?_
   refine go 4 ?_
   refine o_v rfl (OV.cast (u := .int .i64 (max a.high b.high)) (v_imax rfl rfl) (congrArg (Value.int .i64) (by omega))) ?_
   refine go 1 ?_
   refine o_val rfl (v_build (pl := [(0, 1), (1, 1)]) he he rfl rfl) ?_
   refine go 1 ?_
   refine bring2 ?_
   refine o_stw _ he rfl rfl rfl rfl rfl rfl ?_
   refine go 3 ?_
   refine fin1 rfl ⟨_, _, _, rfl, m0, .inr ⟨_, he, rfl, rfl⟩⟩ ?_
   exact q_v (by rw [joinI_at hoa hob]; rfl)

theorem r04Over (I : IMap) (x : Ivl) (n : Int) :
    FnV Tryz.prog 200 #[.agg x.cells.toArray, .int .i64 (n)] I (.int .i64 (overI x n)) := by
 refine enter Tryz.func200 Tryz.call200 rfl Tryz.ntmps200 rfl (fun w0 => ?_)
 refine go 3 ?_
 refine o_box _ rfl rfl rfl (fun g2 => ?_)
 refine go 5 ?_
 refine c_cut (I' := I) (L' := [(1, .int .i64 (n)), (2, .pointer (some ⟨g2, 0, none⟩)), (13, .bool (!ivOk x || decide (x.high ≤ n)))]) (H' := [.blk g2 32 x.cells]) ?_ ?_
 ·refine go 3 ?_
  refine o_callV (r04Valid _ x) rfl rfl ?_
  refine go 2 ?_
  refine sxb 8 rfl (fun h8 p8 => ?_) (fun h8 p8 => ?_)
  ·refine go 7 ?_
   exact q_cut ⟨rfl, rfl, (congrArg (fun b => some (Value.bool b)) (by simp only [h8, bS])), trivial⟩ rfl rfl
  ·refine go 7 ?_
   exact q_cut ⟨rfl, rfl, (congrArg (fun b => some (Value.bool b)) (by simp only [h8, bS])), trivial⟩ rfl rfl
 ·refine cb rfl (fun h13 p13 => ?_) (fun h13 p13 => ?_)
  ·refine go 7 ?_
   refine fin1 rfl rfl ?_
   exact q_v (congrArg (Value.int .i64) (by unfold overI; rw [if_pos h13]))
  ·refine go 11 ?_
   refine cb rfl (fun h17 p17 => ?_) (fun h17 p17 => ?_)
   ·refine go 7 ?_
    refine fin1 rfl rfl ?_
    exact q_v (congrArg (Value.int .i64) (by unfold overI; rw [if_neg (by rw [h13]; decide), if_pos p17]))
   ·refine go 8 ?_
    refine fin1 rfl rfl ?_
    exact q_v (congrArg (Value.int .i64) (by unfold overI; rw [if_neg (by rw [h13]; decide), if_neg p17]))

theorem r07kids (I : IMap) (op : Int) :
    FnV Tryz.prog 174 #[.int .i64 (op)] I (.int .i64 (kidsR op)) := by
 refine enter Tryz.func174 Tryz.call174 rfl Tryz.ntmps174 rfl (fun w0 => ?_)
 refine go 7 ?_
 refine c_cut (I' := I) (L' := [(0, .int .i64 (op)), (8, .bool (decide (op ≥ 1) && decide (op ≤ 4)))]) (H' := []) ?_ ?_
 ·refine go 4 ?_
  refine sxb 5 rfl (fun h5 p5 => ?_) (fun h5 p5 => ?_)
  ·refine go 5 ?_
   exact q_cut ⟨rfl, (congrArg (fun b => some (Value.bool b)) (by simp only [h5, bS])), trivial⟩ rfl rfl
  ·refine go 5 ?_
   exact q_cut ⟨rfl, (congrArg (fun b => some (Value.bool b)) (by simp only [h5, bS])), trivial⟩ rfl rfl
 ·refine cb rfl (fun h8 p8 => ?_) (fun h8 p8 => ?_)
  ·refine go 7 ?_
   refine fin1 rfl rfl ?_
   exact q_v (congrArg (Value.int .i64) ((if_pos h8).symm))
  ·refine go 4 ?_
   refine c_cut (I' := I) (L' := [(0, .int .i64 (op)), (14, .bool (decide (op ≥ 5) && decide (op ≤ 10)))]) (H' := []) ?_ ?_
   ·refine go 4 ?_
    refine sxb 11 rfl (fun h11 p11 => ?_) (fun h11 p11 => ?_)
    ·refine go 5 ?_
     exact q_cut ⟨rfl, (congrArg (fun b => some (Value.bool b)) (by simp only [h8, h11, bS])), trivial⟩ rfl rfl
    ·refine go 5 ?_
     exact q_cut ⟨rfl, (congrArg (fun b => some (Value.bool b)) (by simp only [h8, h11, bS])), trivial⟩ rfl rfl
   ·refine cb rfl (fun h14 p14 => ?_) (fun h14 p14 => ?_)
    ·refine go 7 ?_
     refine fin1 rfl rfl ?_
     exact q_v (congrArg (Value.int .i64) (by unfold kidsR; rw [if_neg (by rw [h8]; decide), if_pos h14]))
    ·refine go 9 ?_
     refine cb rfl (fun h16 p16 => ?_) (fun h16 p16 => ?_)
     ·refine go 7 ?_
      refine fin1 rfl rfl ?_
      exact q_v (congrArg (Value.int .i64) (by unfold kidsR; rw [if_neg (by rw [h8]; decide), if_neg (by rw [h14]; decide), if_pos p16]))
     ·refine go 8 ?_
      refine fin1 rfl rfl ?_
      exact q_v (congrArg (Value.int .i64) (by unfold kidsR; rw [if_neg (by rw [h8]; decide), if_neg (by rw [h14]; decide), if_neg p16]))

theorem r07all_step (I : IMap) (N : Nat) (ih : ∀ (f : Fm), cntN f ≤ N → ∀ vs, FmRd I vs f → FnV Tryz.prog 131 #[.agg vs.toArray] I (.bool (rightF f))) (f : Fm) (hN : cntN f ≤ N + 1) (vs : List Value) (hr : FmRd I vs f) :
    FnV Tryz.prog 131 #[.agg vs.toArray] I (.bool (rightF f)) := by
 obtain ⟨s, rfl, hs⟩ := fm_out hr
 obtain ⟨A, c0, rfl, hA, hc, hm⟩ := hs
 refine enter Tryz.func131 Tryz.call131 rfl Tryz.ntmps131 rfl (fun w0 => ?_)
 refine go 3 ?_
 refine o_box _ rfl rfl rfl (fun g1 => ?_)
 refine go 5 ?_
 refine c_cut (I' := I) (L' := [(1, .pointer (some ⟨g1, 0, none⟩)), (30, .bool (badR f))]) (H' := [.blk g1 27 [ci f.op, ci f.n, .slice A f.kids.length c0]]) ?_ ?_
 ·refine d_startH T.mixed ?_
  refine d_tv 0 rfl rfl (by kernel_rfl) rfl (.refl _) rfl (v_fieldAddr he rfl) ?_
  refine d_tv 1 rfl rfl (by kernel_rfl) rfl (.refl _) rfl (v_ld m0 he rfl rfl) ?_
  refine d_tv 2 rfl rfl (by kernel_rfl) rfl (.refl _) rfl (v_len_slice he rfl) ?_
  refine d_tv 3 rfl rfl (by kernel_rfl) rfl (.refl _) rfl (v_fieldAddr he rfl) ?_
  refine d_tv 4 rfl rfl (by kernel_rfl) rfl (.refl _) rfl (v_ld m0 he rfl rfl) ?_
  refine d_one 5 (by kernel_rfl) rfl ?_
  refine o_callV (r07kids _ f.op) rfl rfl ?_
  refine d_on (fun _ m => m.keeps (.refl _)) ?_
  refine d_tv 6 rfl rfl (by kernel_rfl) rfl (.refl _) rfl (v_neq rfl rfl) ?_
  refine d_tv 7 rfl rfl (by kernel_rfl) rfl (.refl _) rfl (v_move rfl) ?_
  refine sxb 11 rfl (fun h11 p11 => ?_) (fun h11 p11 => ?_)
  ·refine d_t 8 rfl rfl (by kernel_rfl) rfl (fun _ m => m.keeps (.refl _)) (y_no rfl rfl h11) ?_
   refine d_t 9 rfl rfl (by kernel_rfl) rfl (fun _ m => m.keeps (.refl _)) (y_no rfl rfl h11) ?_
   refine d_t 10 rfl rfl (by kernel_rfl) rfl (fun _ m => m.keeps (.refl _)) (y_no rfl rfl h11) ?_
   refine d_tv 11 rfl rfl (by kernel_rfl) rfl (.refl _) rfl (v_or_t h11 rfl) ?_
   refine d_tv 12 rfl rfl (by kernel_rfl) rfl (.refl _) rfl (v_move rfl) ?_
   refine d_t 13 rfl rfl (by kernel_rfl) rfl (fun _ m => m.keeps (.refl _)) (y_no rfl rfl rfl) ?_
   refine d_t 14 rfl rfl (by kernel_rfl) rfl (fun _ m => m.keeps (.refl _)) (y_no rfl rfl rfl) ?_
   refine d_t 15 rfl rfl (by kernel_rfl) rfl (fun _ m => m.keeps (.refl _)) (y_no rfl rfl rfl) ?_
   refine d_tv 16 rfl rfl (by kernel_rfl) rfl (.refl _) rfl (v_or_t rfl rfl) ?_
   refine d_tv 17 rfl rfl (by kernel_rfl) rfl (.refl _) rfl (v_move rfl) ?_
   refine d_t 18 rfl rfl (by kernel_rfl) rfl (fun _ m => m.keeps (.refl _)) (y_no rfl rfl rfl) ?_
   refine d_t 19 rfl rfl (by kernel_rfl) rfl (fun _ m => m.keeps (.refl _)) (y_no rfl rfl rfl) ?_
   refine d_t 20 rfl rfl (by kernel_rfl) rfl (fun _ m => m.keeps (.refl _)) (y_no rfl rfl rfl) ?_
   refine d_t 21 rfl rfl (by kernel_rfl) rfl (fun _ m => m.keeps (.refl _)) (y_no rfl rfl rfl) ?_
   refine d_t 22 rfl rfl (by kernel_rfl) rfl (fun _ m => m.keeps (.refl _)) (y_nou rfl rfl) ?_
   refine d_t 23 rfl rfl (by kernel_rfl) rfl (fun _ m => m.keeps (.refl _)) (y_nou rfl rfl) ?_
   refine d_t 24 rfl rfl (by kernel_rfl) rfl (fun _ m => m.keeps (.refl _)) (y_nou rfl rfl) ?_
   refine d_t 25 rfl rfl (by kernel_rfl) rfl (fun _ m => m.keeps (.refl _)) (y_no rfl rfl rfl) ?_
   refine d_tv 26 rfl rfl (by kernel_rfl) rfl (.refl _) rfl (v_or_t rfl rfl) ?_
   refine d_done (by kernel_rfl) ?_
   refine go 1 ?_
   exact q_cut ⟨rfl, (congrArg (fun b => some (Value.bool b)) (by simp only [badR, h11, bS])), trivial⟩ rfl rfl
  ·refine d_t 8 rfl rfl (by kernel_rfl) rfl (fun _ m => m.keeps (.refl _)) (y_yes rfl rfl h11 (v_fieldAddr he rfl)) ?_
   refine d_t 9 rfl rfl (by kernel_rfl) rfl (fun _ m => m.keeps (.refl _)) (y_yes rfl rfl h11 (v_ld m0 he rfl rfl)) ?_
   refine d_t 10 rfl rfl (by kernel_rfl) rfl (fun _ m => m.keeps (.refl _)) (y_yes rfl rfl h11 (v_lss rfl rfl)) ?_
   refine d_tv 11 rfl rfl (by kernel_rfl) rfl (.refl _) rfl (v_or_f h11 rfl rfl) ?_
   refine d_tv 12 rfl rfl (by kernel_rfl) rfl (.refl _) rfl (v_move rfl) ?_
   refine sxb 16 rfl (fun h16 p16 => ?_) (fun h16 p16 => ?_)
   ·refine d_t 13 rfl rfl (by kernel_rfl) rfl (fun _ m => m.keeps (.refl _)) (y_no rfl rfl h16) ?_
    refine d_t 14 rfl rfl (by kernel_rfl) rfl (fun _ m => m.keeps (.refl _)) (y_no rfl rfl h16) ?_
    refine d_t 15 rfl rfl (by kernel_rfl) rfl (fun _ m => m.keeps (.refl _)) (y_no rfl rfl h16) ?_
    refine d_tv 16 rfl rfl (by kernel_rfl) rfl (.refl _) rfl (v_or_t h16 rfl) ?_
    refine d_tv 17 rfl rfl (by kernel_rfl) rfl (.refl _) rfl (v_move rfl) ?_
    refine d_t 18 rfl rfl (by kernel_rfl) rfl (fun _ m => m.keeps (.refl _)) (y_no rfl rfl rfl) ?_
    refine d_t 19 rfl rfl (by kernel_rfl) rfl (fun _ m => m.keeps (.refl _)) (y_no rfl rfl rfl) ?_
    refine d_t 20 rfl rfl (by kernel_rfl) rfl (fun _ m => m.keeps (.refl _)) (y_no rfl rfl rfl) ?_
    refine d_t 21 rfl rfl (by kernel_rfl) rfl (fun _ m => m.keeps (.refl _)) (y_no rfl rfl rfl) ?_
    refine d_t 22 rfl rfl (by kernel_rfl) rfl (fun _ m => m.keeps (.refl _)) (y_nou rfl rfl) ?_
    refine d_t 23 rfl rfl (by kernel_rfl) rfl (fun _ m => m.keeps (.refl _)) (y_nou rfl rfl) ?_
    refine d_t 24 rfl rfl (by kernel_rfl) rfl (fun _ m => m.keeps (.refl _)) (y_nou rfl rfl) ?_
    refine d_t 25 rfl rfl (by kernel_rfl) rfl (fun _ m => m.keeps (.refl _)) (y_no rfl rfl rfl) ?_
    refine d_tv 26 rfl rfl (by kernel_rfl) rfl (.refl _) rfl (v_or_t rfl rfl) ?_
    refine d_done (by kernel_rfl) ?_
    refine go 1 ?_
    exact q_cut ⟨rfl, (congrArg (fun b => some (Value.bool b)) (by simp only [badR, h11, h16, bS])), trivial⟩ rfl rfl
   ·refine d_t 13 rfl rfl (by kernel_rfl) rfl (fun _ m => m.keeps (.refl _)) (y_yes rfl rfl h16 (v_fieldAddr he rfl)) ?_
    refine d_t 14 rfl rfl (by kernel_rfl) rfl (fun _ m => m.keeps (.refl _)) (y_yes rfl rfl h16 (v_ld m0 he rfl rfl)) ?_
    refine d_t 15 rfl rfl (by kernel_rfl) rfl (fun _ m => m.keeps (.refl _)) (y_yes rfl rfl h16 (v_gtr rfl rfl)) ?_
    refine d_tv 16 rfl rfl (by kernel_rfl) rfl (.refl _) rfl (v_or_f h16 rfl rfl) ?_
    refine d_tv 17 rfl rfl (by kernel_rfl) rfl (.refl _) rfl (v_move rfl) ?_
    refine sxb 21 rfl (fun h21 p21 => ?_) (fun h21 p21 => ?_)
    ·refine d_t 18 rfl rfl (by kernel_rfl) rfl (fun _ m => m.keeps (.refl _)) (y_no rfl rfl h21) ?_
     refine d_t 19 rfl rfl (by kernel_rfl) rfl (fun _ m => m.keeps (.refl _)) (y_no rfl rfl h21) ?_
     refine d_t 20 rfl rfl (by kernel_rfl) rfl (fun _ m => m.keeps (.refl _)) (y_no rfl rfl h21) ?_
     refine d_t 21 rfl rfl (by kernel_rfl) rfl (fun _ m => m.keeps (.refl _)) (y_no rfl rfl h21) ?_
     refine d_t 22 rfl rfl (by kernel_rfl) rfl (fun _ m => m.keeps (.refl _)) (y_nou rfl rfl) ?_
     refine d_t 23 rfl rfl (by kernel_rfl) rfl (fun _ m => m.keeps (.refl _)) (y_nou rfl rfl) ?_
     refine d_t 24 rfl rfl (by kernel_rfl) rfl (fun _ m => m.keeps (.refl _)) (y_nou rfl rfl) ?_
     refine d_t 25 rfl rfl (by kernel_rfl) rfl (fun _ m => m.keeps (.refl _)) (y_no rfl rfl h21) ?_
     refine d_tv 26 rfl rfl (by kernel_rfl) rfl (.refl _) rfl (v_or_t h21 rfl) ?_
     refine d_done (by kernel_rfl) ?_
     refine go 1 ?_
     exact q_cut ⟨rfl, (congrArg (fun b => some (Value.bool b)) (by simp only [badR, h11, h16, h21, bS])), trivial⟩ rfl rfl
    ·refine d_t 18 rfl rfl (by kernel_rfl) rfl (fun _ m => m.keeps (.refl _)) (y_yes rfl rfl h21 (v_fieldAddr he rfl)) ?_
     refine d_t 19 rfl rfl (by kernel_rfl) rfl (fun _ m => m.keeps (.refl _)) (y_yes rfl rfl h21 (v_ld m0 he rfl rfl)) ?_
     refine d_t 20 rfl rfl (by kernel_rfl) rfl (fun _ m => m.keeps (.refl _)) (y_yes rfl rfl h21 (v_neq rfl rfl)) ?_
     refine d_t 21 rfl rfl (by kernel_rfl) rfl (fun _ m => m.keeps (.refl _)) (y_yes rfl rfl h21 (v_move rfl)) ?_
     refine sxb 25 rfl (fun h25 p25 => ?_) (fun h25 p25 => ?_)
     ·refine d_t 22 rfl rfl (by kernel_rfl) rfl (fun _ m => m.keeps (.refl _)) (y_yes rfl rfl h25 (v_fieldAddr he rfl)) ?_
      refine d_t 23 rfl rfl (by kernel_rfl) rfl (fun _ m => m.keeps (.refl _)) (y_yes rfl rfl h25 (v_ld m0 he rfl rfl)) ?_
      refine d_t 24 rfl rfl (by kernel_rfl) rfl (fun _ m => m.keeps (.refl _)) (y_yes rfl rfl h25 (v_neq rfl rfl)) ?_
      refine d_t 25 rfl rfl (by kernel_rfl) rfl (fun _ m => m.keeps (.refl _)) (y_yes rfl rfl h21 (v_and_t h25 rfl rfl)) ?_
      refine d_tv 26 rfl rfl (by kernel_rfl) rfl (.refl _) rfl (v_or_f h21 rfl rfl) ?_
      refine d_done (by kernel_rfl) ?_
      refine go 1 ?_
      exact q_cut ⟨rfl, (congrArg (fun b => some (Value.bool b)) (by simp only [badR, h11, h16, h21, h25, bS])), trivial⟩ rfl rfl
     ·refine d_t 22 rfl rfl (by kernel_rfl) rfl (fun _ m => m.keeps (.refl _)) (y_no rfl rfl h25) ?_
      refine d_t 23 rfl rfl (by kernel_rfl) rfl (fun _ m => m.keeps (.refl _)) (y_no rfl rfl h25) ?_
      refine d_t 24 rfl rfl (by kernel_rfl) rfl (fun _ m => m.keeps (.refl _)) (y_no rfl rfl h25) ?_
      refine d_t 25 rfl rfl (by kernel_rfl) rfl (fun _ m => m.keeps (.refl _)) (y_yes rfl rfl h21 (v_and_f h25 rfl)) ?_
      refine d_tv 26 rfl rfl (by kernel_rfl) rfl (.refl _) rfl (v_or_f h21 rfl rfl) ?_
      refine d_done (by kernel_rfl) ?_
      refine go 1 ?_
      exact q_cut ⟨rfl, (congrArg (fun b => some (Value.bool b)) (by simp only [badR, h11, h16, h21, h25, bS])), trivial⟩ rfl rfl
 ·refine cb rfl (fun h30 p30 => ?_) (fun h30 p30 => ?_)
  ·refine go 7 ?_
   refine fin1 rfl rfl ?_
   exact q_v (congrArg Value.bool (rightR_bad h30).symm)
  ·refine go 9 ?_
   refine c_loop (α := Nat) 0 (fun i => I)
    (fun i => [(1, .pointer (some ⟨g1, 0, none⟩)), (3, .int .i64 ((i : Nat) : Int))])
    (fun i => [.blk g1 27 [ci f.op, ci f.n, .slice A f.kids.length c0]])
    (fun i => i ≤ f.kids.length ∧ allP (fun _ k => rightF k) f.kids i = true)
    (fun i => f.kids.length - i) ⟨Nat.zero_le _, rfl⟩ rfl sb rfl ?_
   intro i ⟨hi, hn⟩
   refine go 10 ?_
   refine cb rfl (fun h35 p35 => ?_) (fun h35 p35 => ?_)
   ·have hlt : i < f.kids.length := by omega
    refine go 9 ?_
    obtain ⟨b41, o41, w41, e41, c41, r41⟩ := RdA.at_ hA (i := i) (by omega)
    replace r41 := fm_out r41
    obtain ⟨s41, rfl, hs41⟩ := r41
    refine o_v rfl (v_idx he rfl rfl e41 (i) (by omega) (by omega)) ?_
    refine o_v rfl (v_ldIa he rfl c41 rfl) ?_
    refine go 1 ?_
    refine o_callV (ih f.kids[i] (by have := cnt_kid (List.getElem_mem hlt); omega) _ (fm_back hs41)) rfl rfl ?_
    refine go 3 ?_
    refine cb rfl (fun h44 p44 => ?_) (fun h44 p44 => ?_)
    ·refine go 11 ?_
     refine fin1 rfl rfl ?_
     exact q_v (congrArg Value.bool (right_kid hlt (by simpa using h44)).symm)
    ·refine go 9 ?_
     exact q_next (i + 1) ⟨by omega, allP_succ (f := fun _ k => rightF k) hn hlt (by simpa using h44)⟩ (by omega) rfl sb rfl
   ·refine go 11 ?_
    refine fin1 rfl rfl ?_
    have e : i = f.kids.length := (by omega)
    subst e
    exact q_v (congrArg Value.bool (rightR_all h30 hn).symm)

theorem r07all (I : IMap) (f : Fm) (vs : List Value) (hr : FmRd I vs f) : FnV Tryz.prog 131 #[.agg vs.toArray] I (.bool (rightF f)) := by
  have key : ∀ (N : Nat) (f : Fm), cntN f ≤ N → ∀ vs, FmRd I vs f → FnV Tryz.prog 131 #[.agg vs.toArray] I (.bool (rightF f)) := by
    intro N
    induction N with
    | zero => intro f hN; exact absurd hN (by cases f; simp [cntN])
    | succ N ih => intro f hN vs hr; exact r07all_step I N ih f hN vs hr
  exact key (cntN f) f (Nat.le_refl _) vs hr

theorem r07Valid (I : IMap) (f : Fm) (vs : List Value) (hr : FmRd I vs f) :
    FnV Tryz.prog 86 #[.agg vs.toArray] I (.bool (validFm f)) := by
 have hl := Enc.len (α := Fm) hr
 refine enter Tryz.func86 Tryz.call86 rfl Tryz.ntmps86 rfl (fun w0 => ?_)
 refine go 3 ?_
 refine o_box _ rfl rfl rfl (fun g1 => ?_)
 refine go 5 ?_
 refine o_v rfl (v_ldw m0 he rfl hl) ?_
 refine go 1 ?_
 refine o_callV (ref07Nodes _ f _ hr 60 (by omega) (by omega)) rfl rfl ?_
 refine go 2 ?_
 refine sxb 6 rfl (fun h6 p6 => ?_) (fun h6 p6 => ?_)
 ·refine o_cons (o_yes rfl rfl h6 (o_val rfl (v_ldw m0 he rfl hl) ?_))
  refine go 1 ?_
  refine o_yes rfl rfl h6 (o_callV (r07all _ f _ hr) rfl rfl ?_)
  refine go 5 ?_
  refine fin1 rfl rfl ?_
  exact q_v (congrArg Value.bool (by simp only [validFm, h6, bS]))
 ·refine go 7 ?_
  refine fin1 rfl rfl ?_
  exact q_v (congrArg Value.bool (by simp only [validFm, h6, bS]))

theorem r07part (I : IMap) (x : Ivl) :
    FnV Tryz.prog 196 #[.agg x.cells.toArray] I (.bool (useIv x)) := by
 refine enter Tryz.func196 Tryz.call196 rfl Tryz.ntmps196 rfl (fun w0 => ?_)
 refine go 3 ?_
 refine o_box _ rfl rfl rfl (fun g1 => ?_)
 refine go 9 ?_
 refine sxb 6 rfl (fun h6 p6 => ?_) (fun h6 p6 => ?_)
 ·refine go 7 ?_
  refine sxb 13 rfl (fun h13 p13 => ?_) (fun h13 p13 => ?_)
  ·refine go 8 ?_
   refine fin1 rfl rfl ?_
   exact q_v (congrArg Value.bool (by rw [useIvR]; simp only [h6, h13, bS]))
  ·refine go 8 ?_
   refine fin1 rfl rfl ?_
   exact q_v (congrArg Value.bool (by rw [useIvR]; simp only [h6, h13, bS]))
 ·refine go 15 ?_
  refine fin1 rfl rfl ?_
  exact q_v (congrArg Value.bool (by rw [useIvR]; simp only [h6, bS]))

theorem r07Use (I : IMap) (u : Use) :
    FnV Tryz.prog 181 #[.agg u.cells.toArray] I (.bool (useOk u)) := by
 refine enter Tryz.func181 Tryz.call181 rfl Tryz.ntmps181 rfl (fun w0 => ?_)
 refine go 3 ?_
 refine o_box _ rfl rfl rfl (fun g1 => ?_)
 refine go 6 ?_
 refine o_v rfl (v_ldp (u.km.cells) m0 he rfl rfl rfl) ?_
 refine go 1 ?_
 refine o_callV (r07part _ u.km) rfl rfl ?_
 refine go 1 ?_
 refine sxb 6 rfl (fun h6 p6 => ?_) (fun h6 p6 => ?_)
 ·refine go 1 ?_
  refine o_cons (o_yes rfl rfl h6 (o_val rfl (v_ldp (u.cycles.cells) m0 he rfl rfl rfl) ?_))
  refine go 1 ?_
  refine o_yes rfl rfl h6 (o_callV (r07part _ u.cycles) rfl rfl ?_)
  refine go 2 ?_
  refine sxb 11 rfl (fun h11 p11 => ?_) (fun h11 p11 => ?_)
  ·refine go 1 ?_
   refine o_cons (o_yes rfl rfl h11 (o_val rfl (v_ldp (u.load.cells) m0 he rfl rfl rfl) ?_))
   refine go 1 ?_
   refine o_yes rfl rfl h11 (o_callV (r07part _ u.load) rfl rfl ?_)
   refine go 5 ?_
   refine fin1 rfl rfl ?_
   exact q_v (congrArg Value.bool (by simp only [useOk, h6, h11, bS]))
  ·refine go 8 ?_
   refine fin1 rfl rfl ?_
   exact q_v (congrArg Value.bool (by simp only [useOk, h6, h11, bS]))
 ·refine go 13 ?_
  refine fin1 rfl rfl ?_
  exact q_v (congrArg Value.bool (by simp only [useOk, h6, bS]))

theorem r07Div (I : IMap) (a b : Int) (ha : -(1000000000000 : Int) ≤ a ∧ a ≤ (1000000000000 : Int)) :
    FnV Tryz.prog 208 #[.int .i64 (a), .int .i64 (b)] I (.int .i64 (floorI a b)) := by
 refine enter Tryz.func208 Tryz.call208 rfl Tryz.ntmps208 rfl (fun w0 => ?_)
 refine go 12 ?_
 refine cb rfl (fun h7 p7 => ?_) (fun h7 p7 => ?_)
 ·refine go 7 ?_
  refine fin1 rfl rfl ?_
  exact q_v (congrArg (Value.int .i64) ((floor_z p7).symm))
 ·have htd := tdiv_in (a := a) (b := b)
  refine go 6 ?_
  refine o_v rfl (v_quo rfl rfl p7 ⟨by omega, by omega⟩) ?_
  refine go 5 ?_
  refine c_cut (I' := I) (L' := [(5, .int .i64 (a.tdiv b)), (21, .bool (floorB a b))]) (H' := []) ?_ ?_
  ·refine go 3 ?_
   refine o_v rfl (v_remI rfl rfl p7) ?_
   refine go 2 ?_
   refine sxb 15 rfl (fun h15 p15 => ?_) (fun h15 p15 => ?_)
   ·refine go 4 ?_
    refine o_cons (o_yes rfl rfl h15 (o_val rfl (v_bneq he rfl rfl) ?_))
    refine go 3 ?_
    exact q_cut ⟨rfl, (congrArg (fun b => some (Value.bool b)) (by rw [floorR p7]; simp only [h7, h15, bS])), trivial⟩ rfl rfl
   ·refine go 8 ?_
    exact q_cut ⟨rfl, (congrArg (fun b => some (Value.bool b)) (by rw [floorR p7]; simp only [h7, h15, bS])), trivial⟩ rfl rfl
  ·refine cb rfl (fun h21 p21 => ?_) (fun h21 p21 => ?_)
   ·refine go 13 ?_
    refine fin1 rfl rfl ?_
    exact q_v (congrArg (Value.int .i64) (floor_y p7 h21))
   ·refine go 9 ?_
    refine fin1 rfl rfl ?_
    exact q_v (congrArg (Value.int .i64) (floor_n p7 h21))

theorem r07quot (I : IMap) (a b : Ivl) (ha : ivOk a = true) (hb : ivOk b = true) :
    FnV Tryz.prog 199 #[.agg a.cells.toArray, .agg b.cells.toArray] I (.agg (divI a b).cells.toArray) := by
 refine enter Tryz.func199 Tryz.call199 rfl Tryz.ntmps199 rfl (fun w0 => ?_)
 refine go 3 ?_
 refine o_box _ rfl rfl rfl (fun g2 => ?_)
 refine go 1 ?_
 refine o_box _ rfl rfl rfl (fun g3 => ?_)
 refine go 1 ?_
 refine o_alloc he rfl (fun g4 => ?_)
 refine go 5 ?_
 refine o_val rfl (v_build (pl := [(0, 1), (1, 1)]) he he rfl rfl) ?_
 refine go 1 ?_
 refine o_alloc he rfl (fun g5 => ?_)
 refine go 1 ?_
 refine o_stw _ he rfl rfl rfl rfl rfl rfl ?_
 refine go 3 ?_
 refine c_cut (I' := I) (L' := [(2, .pointer (some ⟨g2, 0, none⟩)), (3, .pointer (some ⟨g3, 0, none⟩)), (4, .pointer (some ⟨g4, 0, none⟩)), (5, .pointer (some ⟨g5, 0, none⟩)), (6, .bool (decide (b.low ≤ 0) && decide (b.high ≥ 0)))]) (H' := [.blk g5 32 [.int .i64 (0), .int .i64 (0)], .blk g4 32 [.int .i64 (0), .int .i64 (0)], .blk g3 32 b.cells, .blk g2 32 a.cells]) ?_ ?_
 ·refine go 5 ?_
  refine sxb 16 rfl (fun h16 p16 => ?_) (fun h16 p16 => ?_)
  ·refine go 7 ?_
   exact q_cut ⟨rfl, rfl, rfl, rfl, (congrArg (fun b => some (Value.bool b)) (by simp only [h16, bS])), trivial⟩ rfl rfl
  ·refine go 7 ?_
   exact q_cut ⟨rfl, rfl, rfl, rfl, (congrArg (fun b => some (Value.bool b)) (by simp only [h16, bS])), trivial⟩ rfl rfl
 ·refine go 4 ?_
  refine o_v rfl (OV.cast (u := .int .i64 (max b.low 1)) (v_imax rfl rfl) (congrArg (Value.int .i64) (by omega))) ?_
  refine go 6 ?_
  refine o_v rfl (OV.cast (u := .int .i64 (min b.high (-1))) (v_imin rfl rfl) (congrArg (Value.int .i64) (by omega))) ?_
  refine go 1 ?_
  refine o_buildSlice he he rfl rfl rfl rfl rfl rfl rfl (fun v31 => ?_)
  refine sx_pubrow (l := (dsR b)) rfl rfl ((intCs_flat [max b.low 1, b.high, b.low, min b.high (-1)])) (fun I31 j31 R31 => ?_)
  obtain ⟨A31, c31, rfl, hA31, _, _⟩ := R31
  refine go 10 ?_
  refine c_loop3 ((0 : Nat)) (zIvl) (_) (fun i z t => I31)
   (fun i z t => [(2, .pointer (some ⟨g2, 0, none⟩)), (3, .pointer (some ⟨g3, 0, none⟩)), (4, .pointer (some ⟨g4, 0, none⟩)), (5, .pointer (some ⟨g5, 0, none⟩)), (7, .slice A31 (dsR b).length c31), (6, .bool t), (8, .int .i64 ((i : Nat) : Int))])
   (fun i z t => [.blk g5 32 z.cells, .blk g4 32 [.int .i64 (0), .int .i64 (0)], .blk g3 32 b.cells, .blk g2 32 a.cells])
   (fun i z t => i ≤ 4 ∧ qSt a b i = (z, t))
   (fun i z t => 4 - i) ⟨by omega, rfl⟩ rfl sb rfl ?_
  intro i z t ⟨hi, hz⟩
  refine go 9 ?_
  refine cb rfl (fun h35 p35 => ?_) (fun h35 p35 => ?_)
  ·have hl4 : i < 4 := by simp [dsR] at p35; omega
   have hlt : i < (dsR b).length := hl4
   have hai := ivOk_iff.1 ha
   obtain ⟨d, hd⟩ : ∃ d, (dsR b)[i] = d := ⟨_, rfl⟩
   refine go 5 ?_
   refine c_cutx (α := Unit) (Ix := (fun u => I31)) (Lx := (fun u => [(2, .pointer (some ⟨g2, 0, none⟩)), (3, .pointer (some ⟨g3, 0, none⟩)), (4, .pointer (some ⟨g4, 0, none⟩)), (5, .pointer (some ⟨g5, 0, none⟩)), (7, .slice A31 (dsR b).length c31), (6, .bool t), (8, .int .i64 ((i : Nat) : Int))])) (Hx := (fun u => [.blk g5 32 z.cells, .blk g4 32 [.int .i64 (0), .int .i64 (0)], .blk g3 32 b.cells, .blk g2 32 a.cells])) (p := (fun u => (decide (d < b.low) || decide (d > b.high) || decide (d = 0)) = false)) ?_ ?_
   ·refine go 1 ?_
    refine d_startH T.mixed ?_
    refine d_tv 0 rfl rfl (by kernel_rfl) rfl (.refl _) rfl (v_move rfl) ?_
    refine d_tv 1 rfl rfl (by kernel_rfl) rfl (.refl _) rfl (v_move rfl) ?_
    obtain ⟨b40, o40, w40, e40, c40, r40⟩ := RdA.at_ hA31 (i := i) (by omega)
    obtain rfl := r40
    refine d_tv 2 rfl rfl (by kernel_rfl) rfl (.refl _) rfl (v_idx he rfl rfl e40 (i) (by omega) (by omega)) ?_
    refine d_tv 3 rfl rfl (by kernel_rfl) rfl (.refl _) rfl (OV.cast (u := .int .i64 (d)) (v_ldI he rfl (c40 0 _ rfl)) (congrArg (Value.int .i64) hd)) ?_
    refine d_tv 4 rfl rfl (by kernel_rfl) rfl (.refl _) rfl (v_fieldAddr he rfl) ?_
    refine d_tv 5 rfl rfl (by kernel_rfl) rfl (.refl _) rfl (v_ld m2 he rfl rfl) ?_
    refine d_tv 6 rfl rfl (by kernel_rfl) rfl (.refl _) rfl (v_lss rfl rfl) ?_
    refine d_tv 7 rfl rfl (by kernel_rfl) rfl (.refl _) rfl (v_move rfl) ?_
    refine sxb 45 rfl (fun h45 p45 => ?_) (fun h45 p45 => ?_)
    ·refine d_t 8 rfl rfl (by kernel_rfl) rfl (fun _ m => m.keeps (.refl _)) (y_no rfl rfl h45) ?_
     refine d_t 9 rfl rfl (by kernel_rfl) rfl (fun _ m => m.keeps (.refl _)) (y_no rfl rfl h45) ?_
     refine d_t 10 rfl rfl (by kernel_rfl) rfl (fun _ m => m.keeps (.refl _)) (y_no rfl rfl h45) ?_
     refine d_t 11 rfl rfl (by kernel_rfl) rfl (fun _ m => m.keeps (.refl _)) (y_no rfl rfl h45) ?_
     refine d_t 12 rfl rfl (by kernel_rfl) rfl (fun _ m => m.keeps (.refl _)) (y_no rfl rfl h45) ?_
     refine d_t 13 rfl rfl (by kernel_rfl) rfl (fun _ m => m.keeps (.refl _)) (y_no rfl rfl h45) ?_
     refine d_t 14 rfl rfl (by kernel_rfl) rfl (fun _ m => m.keeps (.refl _)) (y_no rfl rfl h45) ?_
     refine d_tv 15 rfl rfl (by kernel_rfl) rfl (.refl _) rfl (v_or_t h45 rfl) ?_
     refine d_tv 16 rfl rfl (by kernel_rfl) rfl (.refl _) rfl (v_move rfl) ?_
     refine d_t 17 rfl rfl (by kernel_rfl) rfl (fun _ m => m.keeps (.refl _)) (y_no rfl rfl rfl) ?_
     refine d_t 18 rfl rfl (by kernel_rfl) rfl (fun _ m => m.keeps (.refl _)) (y_no rfl rfl rfl) ?_
     refine d_t 19 rfl rfl (by kernel_rfl) rfl (fun _ m => m.keeps (.refl _)) (y_no rfl rfl rfl) ?_
     refine d_t 20 rfl rfl (by kernel_rfl) rfl (fun _ m => m.keeps (.refl _)) (y_no rfl rfl rfl) ?_
     refine d_t 21 rfl rfl (by kernel_rfl) rfl (fun _ m => m.keeps (.refl _)) (y_no rfl rfl rfl) ?_
     refine d_tv 22 rfl rfl (by kernel_rfl) rfl (.refl _) rfl (v_or_t rfl rfl) ?_
     refine d_done (by kernel_rfl) ?_
     refine go 1 ?_
     refine c_true rfl ?_
     refine go 10 ?_
     exact q_next3 (i + 1) (z) (t) ⟨by omega, by rw [qSt_step hlt hd, quoR_skip (by simp only [h35, h45, bS]), hz]⟩ (by omega) rfl sb rfl
    ·refine d_t 8 rfl rfl (by kernel_rfl) rfl (fun _ m => m.keeps (.refl _)) (y_yes rfl rfl h45 (v_move rfl)) ?_
     refine d_t 9 rfl rfl (by kernel_rfl) rfl (fun _ m => m.keeps (.refl _)) (y_yes rfl rfl h45 (v_move rfl)) ?_
     obtain ⟨b48, o48, w48, e48, c48, r48⟩ := RdA.at_ hA31 (i := i) (by omega)
     obtain rfl := r48
     refine d_t 10 rfl rfl (by kernel_rfl) rfl (fun _ m => m.keeps (.refl _)) (y_yes rfl rfl h45 (v_idx he rfl rfl e48 (i) (by omega) (by omega))) ?_
     refine d_t 11 rfl rfl (by kernel_rfl) rfl (fun _ m => m.keeps (.refl _)) (y_yes rfl rfl h45 (OV.cast (u := .int .i64 (d)) (v_ldI he rfl (c48 0 _ rfl)) (congrArg (Value.int .i64) hd))) ?_
     refine d_t 12 rfl rfl (by kernel_rfl) rfl (fun _ m => m.keeps (.refl _)) (y_yes rfl rfl h45 (v_fieldAddr he rfl)) ?_
     refine d_t 13 rfl rfl (by kernel_rfl) rfl (fun _ m => m.keeps (.refl _)) (y_yes rfl rfl h45 (v_ld m2 he rfl rfl)) ?_
     refine d_t 14 rfl rfl (by kernel_rfl) rfl (fun _ m => m.keeps (.refl _)) (y_yes rfl rfl h45 (v_gtr rfl rfl)) ?_
     refine d_tv 15 rfl rfl (by kernel_rfl) rfl (.refl _) rfl (v_or_f h45 rfl rfl) ?_
     refine d_tv 16 rfl rfl (by kernel_rfl) rfl (.refl _) rfl (v_move rfl) ?_
     refine sxb 54 rfl (fun h54 p54 => ?_) (fun h54 p54 => ?_)
     ·refine d_t 17 rfl rfl (by kernel_rfl) rfl (fun _ m => m.keeps (.refl _)) (y_no rfl rfl h54) ?_
      refine d_t 18 rfl rfl (by kernel_rfl) rfl (fun _ m => m.keeps (.refl _)) (y_no rfl rfl h54) ?_
      refine d_t 19 rfl rfl (by kernel_rfl) rfl (fun _ m => m.keeps (.refl _)) (y_no rfl rfl h54) ?_
      refine d_t 20 rfl rfl (by kernel_rfl) rfl (fun _ m => m.keeps (.refl _)) (y_no rfl rfl h54) ?_
      refine d_t 21 rfl rfl (by kernel_rfl) rfl (fun _ m => m.keeps (.refl _)) (y_no rfl rfl h54) ?_
      refine d_tv 22 rfl rfl (by kernel_rfl) rfl (.refl _) rfl (v_or_t h54 rfl) ?_
      refine d_done (by kernel_rfl) ?_
      refine go 1 ?_
      refine c_true rfl ?_
      refine go 10 ?_
      exact q_next3 (i + 1) (z) (t) ⟨by omega, by rw [qSt_step hlt hd, quoR_skip (by simp only [h35, h45, h54, bS]), hz]⟩ (by omega) rfl sb rfl
     ·refine d_t 17 rfl rfl (by kernel_rfl) rfl (fun _ m => m.keeps (.refl _)) (y_yes rfl rfl h54 (v_move rfl)) ?_
      refine d_t 18 rfl rfl (by kernel_rfl) rfl (fun _ m => m.keeps (.refl _)) (y_yes rfl rfl h54 (v_move rfl)) ?_
      obtain ⟨b57, o57, w57, e57, c57, r57⟩ := RdA.at_ hA31 (i := i) (by omega)
      obtain rfl := r57
      refine d_t 19 rfl rfl (by kernel_rfl) rfl (fun _ m => m.keeps (.refl _)) (y_yes rfl rfl h54 (v_idx he rfl rfl e57 (i) (by omega) (by omega))) ?_
      refine d_t 20 rfl rfl (by kernel_rfl) rfl (fun _ m => m.keeps (.refl _)) (y_yes rfl rfl h54 (OV.cast (u := .int .i64 (d)) (v_ldI he rfl (c57 0 _ rfl)) (congrArg (Value.int .i64) hd))) ?_
      refine d_t 21 rfl rfl (by kernel_rfl) rfl (fun _ m => m.keeps (.refl _)) (y_yes rfl rfl h54 (v_eql rfl rfl)) ?_
      refine d_tv 22 rfl rfl (by kernel_rfl) rfl (.refl _) rfl (v_or_f h54 rfl rfl) ?_
      refine d_done (by kernel_rfl) ?_
      refine go 1 ?_
      refine cb rfl (fun h60 p60 => ?_) (fun h60 p60 => ?_)
      ·refine go 10 ?_
       exact q_next3 (i + 1) (z) (t) ⟨by omega, by rw [qSt_step hlt hd, quoR_skip (by simp only [h35, h45, h54, h60, bS]), hz]⟩ (by omega) rfl sb rfl
      ·refine go 2 ?_
       exact q_cutx () (by simp only [h35, h45, h54, h60, bS]) sb rfl rfl
   ·intro u h60
    refine go 1 ?_
    refine d_startH T.mixed ?_
    refine d_tv 0 rfl rfl (by kernel_rfl) rfl (.refl _) rfl (v_fieldAddr he rfl) ?_
    refine d_tv 1 rfl rfl (by kernel_rfl) rfl (.refl _) rfl (v_ld m3 he rfl rfl) ?_
    refine d_tv 2 rfl rfl (by kernel_rfl) rfl (.refl _) rfl (v_move rfl) ?_
    refine d_tv 3 rfl rfl (by kernel_rfl) rfl (.refl _) rfl (v_move rfl) ?_
    obtain ⟨b65, o65, w65, e65, c65, r65⟩ := RdA.at_ hA31 (i := i) (by omega)
    obtain rfl := r65
    refine d_tv 4 rfl rfl (by kernel_rfl) rfl (.refl _) rfl (v_idx he rfl rfl e65 (i) (by omega) (by omega)) ?_
    refine d_tv 5 rfl rfl (by kernel_rfl) rfl (.refl _) rfl (OV.cast (u := .int .i64 (d)) (v_ldI he rfl (c65 0 _ rfl)) (congrArg (Value.int .i64) hd)) ?_
    refine d_one 6 (by kernel_rfl) rfl ?_
    refine o_callV (r07Div _ a.low d (by omega)) rfl rfl ?_
    refine d_on (fun _ m => m.keeps (.refl _)) ?_
    refine d_tv 7 rfl rfl (by kernel_rfl) rfl (.refl _) rfl (v_assign rfl) ?_
    refine d_done (by kernel_rfl) ?_
    refine go 2 ?_
    refine d_startH T.mixed ?_
    refine d_tv 0 rfl rfl (by kernel_rfl) rfl (.refl _) rfl (v_fieldAddr he rfl) ?_
    refine d_tv 1 rfl rfl (by kernel_rfl) rfl (.refl _) rfl (v_ld m3 he rfl rfl) ?_
    refine d_tv 2 rfl rfl (by kernel_rfl) rfl (.refl _) rfl (v_move rfl) ?_
    refine d_tv 3 rfl rfl (by kernel_rfl) rfl (.refl _) rfl (v_move rfl) ?_
    obtain ⟨b72, o72, w72, e72, c72, r72⟩ := RdA.at_ hA31 (i := i) (by omega)
    obtain rfl := r72
    refine d_tv 4 rfl rfl (by kernel_rfl) rfl (.refl _) rfl (v_idx he rfl rfl e72 (i) (by omega) (by omega)) ?_
    refine d_tv 5 rfl rfl (by kernel_rfl) rfl (.refl _) rfl (OV.cast (u := .int .i64 (d)) (v_ldI he rfl (c72 0 _ rfl)) (congrArg (Value.int .i64) hd)) ?_
    refine d_one 6 (by kernel_rfl) rfl ?_
    refine o_callV (r07Div _ a.high d (by omega)) rfl rfl ?_
    refine d_on (fun _ m => m.keeps (.refl _)) ?_
    refine d_tv 7 rfl rfl (by kernel_rfl) rfl (.refl _) rfl (v_assign rfl) ?_
    refine d_done (by kernel_rfl) ?_
    refine go 5 ?_
    refine o_v rfl (OV.cast (u := .int .i64 (min (floorI a.low d) (floorI a.high d))) (v_imin rfl rfl) (congrArg (Value.int .i64) (by omega))) ?_
    refine go 2 ?_
    refine o_v rfl (OV.cast (u := .int .i64 (max (floorI a.low d) (floorI a.high d))) (v_imax rfl rfl) (congrArg (Value.int .i64) (by omega))) ?_
    refine go 1 ?_
    refine o_val rfl (v_build (pl := [(0, 1), (1, 1)]) he he rfl rfl) ?_
    refine go 1 ?_
    refine o_alloc he rfl (fun g11 => ?_)
    refine go 1 ?_
    refine o_stw _ he rfl rfl rfl rfl rfl rfl ?_
    refine go 8 ?_
    refine cb rfl (fun h82 p82 => ?_) (fun h82 p82 => ?_)
    ·refine go 4 ?_
     refine o_callV (r04Join _ (quoI a d) z) rfl rfl ?_
     refine go 1 ?_
     refine o_stw _ he rfl rfl rfl rfl rfl rfl ?_
     refine go 6 ?_
     refine bring1 ?_
     refine o_stw _ he rfl rfl rfl rfl rfl rfl ?_
     refine go 13 ?_
     refine bring1 ?_
     refine sx_drop ?_
     exact q_next3 (i + 1) (joinI (quoI a d) z) (true) ⟨by omega, by rw [qSt_step hlt hd, hz, quoR_yes h60 h82]⟩ (by omega) rfl sb rfl
    ·refine go 6 ?_
     refine bring1 ?_
     refine o_stw _ he rfl rfl rfl rfl rfl rfl ?_
     refine go 13 ?_
     refine bring1 ?_
     refine sx_drop ?_
     exact q_next3 (i + 1) (quoI a d) (true) ⟨by omega, by rw [qSt_step hlt hd, hz, quoR_no h60 h82]⟩ (by omega) rfl sb rfl
  ·obtain rfl : i = 4 := by simp [dsR] at p35; omega
   refine go 9 ?_
   refine bring1 ?_
   refine o_stw _ he rfl rfl rfl rfl rfl rfl ?_
   refine go 3 ?_
   refine fin1 rfl ⟨_, _, _, rfl, m0, .inr ⟨_, he, rfl, rfl⟩⟩ ?_
   have hqe := qSt_end ha (ivOk_iff.1 hb).2.1
   rw [hz] at hqe
   exact q_vI (by rw [← hqe])

theorem r07span_step (I : IMap) (u : Use) (hu : useOk u = true) (N : Nat) (ih : ∀ (f : Fm), cntN f ≤ N → ∀ vs, FmRd I vs f → rightF f = true → FnV Tryz.prog 182 #[.agg vs.toArray, .agg u.cells.toArray] I (.agg (spanF u f).cells.toArray)) (f : Fm) (hN : cntN f ≤ N + 1) (vs : List Value) (hr : FmRd I vs f) (hR : rightF f = true) :
    FnV Tryz.prog 182 #[.agg vs.toArray, .agg u.cells.toArray] I (.agg (spanF u f).cells.toArray) := by
 obtain ⟨s, rfl, hs⟩ := fm_out hr
 obtain ⟨A, c0, rfl, hA, hc, hm⟩ := hs
 refine enter Tryz.func182 Tryz.call182 rfl Tryz.ntmps182 rfl (fun w0 => ?_)
 refine go 3 ?_
 refine o_box _ rfl rfl rfl (fun g2 => ?_)
 refine go 1 ?_
 refine o_box _ rfl rfl rfl (fun g3 => ?_)
 refine go 1 ?_
 refine o_alloc he rfl (fun g4 => ?_)
 refine go 16 ?_
 refine cb rfl (fun h10 p10 => ?_) (fun h10 p10 => ?_)
 ·refine go 7 ?_
  refine o_val rfl (v_build (pl := [(0, 1), (1, 1)]) he he rfl rfl) ?_
  refine go 1 ?_
  refine o_stw _ he rfl rfl rfl rfl rfl rfl ?_
  refine go 5 ?_
  refine fin1 rfl ⟨_, _, _, rfl, m0, .inr ⟨_, he, rfl, rfl⟩⟩ ?_
  exact q_v (by rw [span_num hR p10]; rfl)
 ·refine go 6 ?_
  refine cb rfl (fun h17 p17 => ?_) (fun h17 p17 => ?_)
  ·refine go 3 ?_
   refine o_v rfl (v_ldp (u.km.cells) m1 he rfl rfl rfl) ?_
   refine go 1 ?_
   refine o_stw _ he rfl rfl rfl rfl rfl rfl ?_
   refine go 5 ?_
   refine fin1 rfl ⟨_, _, _, rfl, m0, .inr ⟨_, he, rfl, rfl⟩⟩ ?_
   exact q_v (by rw [spanR_2 hR p10 p17])
  ·refine go 6 ?_
   refine cb rfl (fun h21 p21 => ?_) (fun h21 p21 => ?_)
   ·refine go 3 ?_
    refine o_v rfl (v_ldp (u.cycles.cells) m1 he rfl rfl rfl) ?_
    refine go 1 ?_
    refine o_stw _ he rfl rfl rfl rfl rfl rfl ?_
    refine go 5 ?_
    refine fin1 rfl ⟨_, _, _, rfl, m0, .inr ⟨_, he, rfl, rfl⟩⟩ ?_
    exact q_v (by rw [spanR_3 hR p10 p17 p21])
   ·refine go 6 ?_
    refine cb rfl (fun h25 p25 => ?_) (fun h25 p25 => ?_)
    ·refine go 3 ?_
     refine o_v rfl (v_ldp (u.load.cells) m1 he rfl rfl rfl) ?_
     refine go 1 ?_
     refine o_stw _ he rfl rfl rfl rfl rfl rfl ?_
     refine go 5 ?_
     refine fin1 rfl ⟨_, _, _, rfl, m0, .inr ⟨_, he, rfl, rfl⟩⟩ ?_
     exact q_v (by rw [spanR_4 hR p10 p17 p21 p25])
    ·have h4n := le4R hR p10 p17 p21 p25
     have h2l := two_of hR h4n
     refine go 4 ?_
     refine d_startH T.mixed ?_
     refine d_tv 0 rfl rfl (by kernel_rfl) rfl (.refl _) rfl (v_fieldAddr he rfl) ?_
     refine d_tv 1 rfl rfl (by kernel_rfl) rfl (.refl _) rfl (v_ld m2 he rfl rfl) ?_
     obtain ⟨b31, o31, w31, e31, c31, r31⟩ := RdA.at_ hA (i := 0) (by omega)
     replace r31 := fm_out r31
     obtain ⟨s31, rfl, hs31⟩ := r31
     refine d_tv 2 rfl rfl (by kernel_rfl) rfl (.refl _) rfl (v_idx he rfl rfl e31 (0) rfl (by omega)) ?_
     refine d_tv 3 rfl rfl (by kernel_rfl) rfl (.refl _) rfl (v_ldIa he rfl c31 rfl) ?_
     refine d_tv 4 rfl rfl (by kernel_rfl) rfl (.refl _) rfl (v_ldw m1 he rfl rfl) ?_
     refine d_two 5 6 (by kernel_rfl) rfl rfl ?_ ?_
     ·refine o_callV (ih (f.kids[0]'(by omega)) (by have := cnt_kid (List.getElem_mem (show 0 < f.kids.length by omega)); omega) _ (fm_back hs31) (right_get hR 0 _)) rfl rfl ?_
      refine d_on (fun _ m => m.keeps (.refl _)) ?_
      refine d_one 6 (by kernel_rfl) rfl ?_
      refine o_alloc he rfl (fun g5 => ?_)
      refine d_on (fun _ m => m.keeps (.cons _ (.refl _))) ?_
      refine d_one 7 (by kernel_rfl) rfl ?_
      refine o_stw _ he rfl rfl rfl rfl rfl rfl ?_
      refine d_on (fun _ m => m.keeps (.cons _ (.refl _))) ?_
      refine d_done (by kernel_rfl) ?_
      refine go 2 ?_
      refine d_startH T.mixed ?_
      refine d_tv 0 rfl rfl (by kernel_rfl) rfl (.refl _) rfl (v_fieldAddr he rfl) ?_
      refine d_tv 1 rfl rfl (by kernel_rfl) rfl (.refl _) rfl (v_ld m3 he rfl rfl) ?_
      obtain ⟨b37, o37, w37, e37, c37, r37⟩ := RdA.at_ hA (i := 1) (by omega)
      replace r37 := fm_out r37
      obtain ⟨s37, rfl, hs37⟩ := r37
      refine d_tv 2 rfl rfl (by kernel_rfl) rfl (.refl _) rfl (v_idx he rfl rfl e37 (1) rfl (by omega)) ?_
      refine d_tv 3 rfl rfl (by kernel_rfl) rfl (.refl _) rfl (v_ldIa he rfl c37 rfl) ?_
      refine d_tv 4 rfl rfl (by kernel_rfl) rfl (.refl _) rfl (v_ldw m2 he rfl rfl) ?_
      refine d_two 5 6 (by kernel_rfl) rfl rfl ?_ ?_
      ·refine o_callV (ih (f.kids[1]'(by omega)) (by have := cnt_kid (List.getElem_mem (show 1 < f.kids.length by omega)); omega) _ (fm_back hs37) (right_get hR 1 _)) rfl rfl ?_
       refine d_on (fun _ m => m.keeps (.refl _)) ?_
       refine d_one 6 (by kernel_rfl) rfl ?_
       refine o_alloc he rfl (fun g6 => ?_)
       refine d_on (fun _ m => m.keeps (.cons _ (.refl _))) ?_
       refine d_one 7 (by kernel_rfl) rfl ?_
       refine o_stw _ he rfl rfl rfl rfl rfl rfl ?_
       refine d_on (fun _ m => m.keeps (.cons _ (.refl _))) ?_
       refine d_done (by kernel_rfl) ?_
       refine go 15 ?_
       refine cb rfl (fun h43 p43 => ?_) (fun h43 p43 => ?_)
       ·refine go 5 ?_
        refine o_callV (r04Add _ _ _) rfl rfl ?_
        refine go 1 ?_
        refine bring2 ?_
        refine o_stw _ he rfl rfl rfl rfl rfl rfl ?_
        refine go 5 ?_
        refine fin1 rfl ⟨_, _, _, rfl, m0, .inr ⟨_, he, rfl, rfl⟩⟩ ?_
        exact q_v (by rw [spanR_two hR h4n p43 (by decide)]; rfl)
       ·refine go 6 ?_
        refine cb rfl (fun h48 p48 => ?_) (fun h48 p48 => ?_)
        ·refine go 5 ?_
         refine o_callV (r04Sub _ _ _) rfl rfl ?_
         refine go 1 ?_
         refine bring2 ?_
         refine o_stw _ he rfl rfl rfl rfl rfl rfl ?_
         refine go 5 ?_
         refine fin1 rfl ⟨_, _, _, rfl, m0, .inr ⟨_, he, rfl, rfl⟩⟩ ?_
         exact q_v (by rw [spanR_two hR h4n p48 (by decide)]; rfl)
        ·refine go 6 ?_
         refine cb rfl (fun h53 p53 => ?_) (fun h53 p53 => ?_)
         ·refine go 5 ?_
          refine o_callV (r04Mul _ _ _) rfl rfl ?_
          refine go 1 ?_
          refine bring2 ?_
          refine o_stw _ he rfl rfl rfl rfl rfl rfl ?_
          refine go 5 ?_
          refine fin1 rfl ⟨_, _, _, rfl, m0, .inr ⟨_, he, rfl, rfl⟩⟩ ?_
          exact q_v (by rw [spanR_two hR h4n p53 (by decide)]; rfl)
         ·refine go 6 ?_
          refine cb rfl (fun h58 p58 => ?_) (fun h58 p58 => ?_)
          ·refine go 5 ?_
           refine o_callV (r07quot _ _ _ (span_ok hu _ (right_get hR 0 (by omega))) (span_ok hu _ (right_get hR 1 (by omega)))) rfl rfl ?_
           refine go 1 ?_
           refine bring2 ?_
           refine o_stw _ he rfl rfl rfl rfl rfl rfl ?_
           refine go 5 ?_
           refine fin1 rfl ⟨_, _, _, rfl, m0, .inr ⟨_, he, rfl, rfl⟩⟩ ?_
           exact q_v (by rw [spanR_two hR h4n p58 (by decide)]; rfl)
          ·refine go 6 ?_
           refine cb rfl (fun h63 p63 => ?_) (fun h63 p63 => ?_)
           ·refine go 6 ?_
            refine o_v rfl (OV.cast (u := .int .i64 (min (spanF u f.kids[0]).low (spanF u f.kids[1]).low)) (v_imin rfl rfl) (congrArg (Value.int .i64) (by omega))) ?_
            refine go 4 ?_
            refine o_v rfl (OV.cast (u := .int .i64 (min (spanF u f.kids[0]).high (spanF u f.kids[1]).high)) (v_imin rfl rfl) (congrArg (Value.int .i64) (by omega))) ?_
            refine go 1 ?_
            refine o_val rfl (v_build (pl := [(0, 1), (1, 1)]) he he rfl rfl) ?_
            refine go 1 ?_
            refine bring2 ?_
            refine o_stw _ he rfl rfl rfl rfl rfl rfl ?_
            refine go 5 ?_
            refine fin1 rfl ⟨_, _, _, rfl, m0, .inr ⟨_, he, rfl, rfl⟩⟩ ?_
            exact q_v (by rw [spanR_two hR h4n p63 (by decide)]; rfl)
           ·refine go 6 ?_
            refine cb rfl (fun h76 p76 => ?_) (fun h76 p76 => ?_)
            ·refine go 6 ?_
             refine o_v rfl (OV.cast (u := .int .i64 (max (spanF u f.kids[0]).low (spanF u f.kids[1]).low)) (v_imax rfl rfl) (congrArg (Value.int .i64) (by omega))) ?_
             refine go 4 ?_
             refine o_v rfl (OV.cast (u := .int .i64 (max (spanF u f.kids[0]).high (spanF u f.kids[1]).high)) (v_imax rfl rfl) (congrArg (Value.int .i64) (by omega))) ?_
             refine go 1 ?_
             refine o_val rfl (v_build (pl := [(0, 1), (1, 1)]) he he rfl rfl) ?_
             refine go 1 ?_
             refine bring2 ?_
             refine o_stw _ he rfl rfl rfl rfl rfl rfl ?_
             refine go 5 ?_
             refine fin1 rfl ⟨_, _, _, rfl, m0, .inr ⟨_, he, rfl, rfl⟩⟩ ?_
             exact q_v (by rw [spanR_two hR h4n p76 (by decide)]; rfl)
            ·have h3 := kids3 hR (op11 hR h4n p43 p48 p53 p58 p63 p76)
             refine go 4 ?_
             refine d_startH T.mixed ?_
             refine d_tv 0 rfl rfl (by kernel_rfl) rfl (.refl _) rfl (v_fieldAddr he rfl) ?_
             refine d_tv 1 rfl rfl (by kernel_rfl) rfl (.refl _) rfl (v_ld m4 he rfl rfl) ?_
             obtain ⟨b91, o91, w91, e91, c91, r91⟩ := RdA.at_ hA (i := 2) (by omega)
             replace r91 := fm_out r91
             obtain ⟨s91, rfl, hs91⟩ := r91
             refine d_tv 2 rfl rfl (by kernel_rfl) rfl (.refl _) rfl (v_idx he rfl rfl e91 (2) rfl (by omega)) ?_
             refine d_tv 3 rfl rfl (by kernel_rfl) rfl (.refl _) rfl (v_ldIa he rfl c91 rfl) ?_
             refine d_tv 4 rfl rfl (by kernel_rfl) rfl (.refl _) rfl (v_ldw m3 he rfl rfl) ?_
             refine d_two 5 6 (by kernel_rfl) rfl rfl ?_ ?_
             ·refine o_callV (ih (f.kids[2]'(by omega)) (by have := cnt_kid (List.getElem_mem (show 2 < f.kids.length by omega)); omega) _ (fm_back hs91) (right_get hR 2 _)) rfl rfl ?_
              refine d_on (fun _ m => m.keeps (.refl _)) ?_
              refine d_one 6 (by kernel_rfl) rfl ?_
              refine o_alloc he rfl (fun g7 => ?_)
              refine d_on (fun _ m => m.keeps (.cons _ (.refl _))) ?_
              refine d_one 7 (by kernel_rfl) rfl ?_
              refine o_stw _ he rfl rfl rfl rfl rfl rfl ?_
              refine d_on (fun _ m => m.keeps (.cons _ (.refl _))) ?_
              refine d_done (by kernel_rfl) ?_
              refine go 6 ?_
              refine o_callV (r04Over _ _ 0) rfl rfl ?_
              refine go 9 ?_
              refine cb rfl (fun h97 p97 => ?_) (fun h97 p97 => ?_)
              ·refine go 4 ?_
               refine bring3 ?_
               refine o_stw _ he rfl rfl rfl rfl rfl rfl ?_
               refine go 5 ?_
               refine fin1 rfl ⟨_, _, _, rfl, m0, .inr ⟨_, he, rfl, rfl⟩⟩ ?_
               exact q_v (by rw [span_if h3]; unfold chooseI; rw [if_pos p97])
              ·refine go 6 ?_
               refine cb rfl (fun h100 p100 => ?_) (fun h100 p100 => ?_)
               ·refine go 4 ?_
                refine bring3 ?_
                refine o_stw _ he rfl rfl rfl rfl rfl rfl ?_
                refine go 5 ?_
                refine fin1 rfl ⟨_, _, _, rfl, m0, .inr ⟨_, he, rfl, rfl⟩⟩ ?_
                exact q_v (by rw [span_if h3]; unfold chooseI; rw [if_neg p97, if_pos p100])
               ·refine go 8 ?_
                refine o_callV (r04Join _ _ _) rfl rfl ?_
                refine go 1 ?_
                refine bring3 ?_
                refine o_stw _ he rfl rfl rfl rfl rfl rfl ?_
                refine go 3 ?_
                refine fin1 rfl ⟨_, _, _, rfl, m0, .inr ⟨_, he, rfl, rfl⟩⟩ ?_
                exact q_v (by rw [span_if h3]; unfold chooseI; rw [if_neg p97, if_neg p100])
             ·refine o_alloc he rfl (fun g7 => ?_)
              refine d_on (fun _ m => m.keeps (.cons _ (.refl _))) ?_
              refine d_one 5 (by kernel_rfl) rfl ?_
              refine o_callV (ih (f.kids[2]'(by omega)) (by have := cnt_kid (List.getElem_mem (show 2 < f.kids.length by omega)); omega) _ (fm_back hs91) (right_get hR 2 _)) rfl rfl ?_
              refine d_on (fun _ m => m.keeps (.cons _ (.refl _))) ?_
              refine d_one 7 (by kernel_rfl) rfl ?_
              refine o_stw _ he rfl rfl rfl rfl rfl rfl ?_
              refine d_on (fun _ m => m.keeps (.cons _ (.refl _))) ?_
              refine d_done (by kernel_rfl) ?_
              refine go 6 ?_
              refine o_callV (r04Over _ _ 0) rfl rfl ?_
              refine go 9 ?_
              refine cb rfl (fun h97 p97 => ?_) (fun h97 p97 => ?_)
              ·refine go 4 ?_
               refine bring3 ?_
               refine o_stw _ he rfl rfl rfl rfl rfl rfl ?_
               refine go 5 ?_
               refine fin1 rfl ⟨_, _, _, rfl, m0, .inr ⟨_, he, rfl, rfl⟩⟩ ?_
               exact q_v (by rw [span_if h3]; unfold chooseI; rw [if_pos p97])
              ·refine go 6 ?_
               refine cb rfl (fun h100 p100 => ?_) (fun h100 p100 => ?_)
               ·refine go 4 ?_
                refine bring3 ?_
                refine o_stw _ he rfl rfl rfl rfl rfl rfl ?_
                refine go 5 ?_
                refine fin1 rfl ⟨_, _, _, rfl, m0, .inr ⟨_, he, rfl, rfl⟩⟩ ?_
                exact q_v (by rw [span_if h3]; unfold chooseI; rw [if_neg p97, if_pos p100])
               ·refine go 8 ?_
                refine o_callV (r04Join _ _ _) rfl rfl ?_
                refine go 1 ?_
                refine bring3 ?_
                refine o_stw _ he rfl rfl rfl rfl rfl rfl ?_
                refine go 3 ?_
                refine fin1 rfl ⟨_, _, _, rfl, m0, .inr ⟨_, he, rfl, rfl⟩⟩ ?_
                exact q_v (by rw [span_if h3]; unfold chooseI; rw [if_neg p97, if_neg p100])
      ·refine o_alloc he rfl (fun g6 => ?_)
       refine d_on (fun _ m => m.keeps (.cons _ (.refl _))) ?_
       refine d_one 5 (by kernel_rfl) rfl ?_
       refine o_callV (ih (f.kids[1]'(by omega)) (by have := cnt_kid (List.getElem_mem (show 1 < f.kids.length by omega)); omega) _ (fm_back hs37) (right_get hR 1 _)) rfl rfl ?_
       refine d_on (fun _ m => m.keeps (.cons _ (.refl _))) ?_
       refine d_one 7 (by kernel_rfl) rfl ?_
       refine o_stw _ he rfl rfl rfl rfl rfl rfl ?_
       refine d_on (fun _ m => m.keeps (.cons _ (.refl _))) ?_
       refine d_done (by kernel_rfl) ?_
       refine go 15 ?_
       refine cb rfl (fun h43 p43 => ?_) (fun h43 p43 => ?_)
       ·refine go 5 ?_
        refine o_callV (r04Add _ _ _) rfl rfl ?_
        refine go 1 ?_
        refine bring2 ?_
        refine o_stw _ he rfl rfl rfl rfl rfl rfl ?_
        refine go 5 ?_
        refine fin1 rfl ⟨_, _, _, rfl, m0, .inr ⟨_, he, rfl, rfl⟩⟩ ?_
        exact q_v (by rw [spanR_two hR h4n p43 (by decide)]; rfl)
       ·refine go 6 ?_
        refine cb rfl (fun h48 p48 => ?_) (fun h48 p48 => ?_)
        ·refine go 5 ?_
         refine o_callV (r04Sub _ _ _) rfl rfl ?_
         refine go 1 ?_
         refine bring2 ?_
         refine o_stw _ he rfl rfl rfl rfl rfl rfl ?_
         refine go 5 ?_
         refine fin1 rfl ⟨_, _, _, rfl, m0, .inr ⟨_, he, rfl, rfl⟩⟩ ?_
         exact q_v (by rw [spanR_two hR h4n p48 (by decide)]; rfl)
        ·refine go 6 ?_
         refine cb rfl (fun h53 p53 => ?_) (fun h53 p53 => ?_)
         ·refine go 5 ?_
          refine o_callV (r04Mul _ _ _) rfl rfl ?_
          refine go 1 ?_
          refine bring2 ?_
          refine o_stw _ he rfl rfl rfl rfl rfl rfl ?_
          refine go 5 ?_
          refine fin1 rfl ⟨_, _, _, rfl, m0, .inr ⟨_, he, rfl, rfl⟩⟩ ?_
          exact q_v (by rw [spanR_two hR h4n p53 (by decide)]; rfl)
         ·refine go 6 ?_
          refine cb rfl (fun h58 p58 => ?_) (fun h58 p58 => ?_)
          ·refine go 5 ?_
           refine o_callV (r07quot _ _ _ (span_ok hu _ (right_get hR 0 (by omega))) (span_ok hu _ (right_get hR 1 (by omega)))) rfl rfl ?_
           refine go 1 ?_
           refine bring2 ?_
           refine o_stw _ he rfl rfl rfl rfl rfl rfl ?_
           refine go 5 ?_
           refine fin1 rfl ⟨_, _, _, rfl, m0, .inr ⟨_, he, rfl, rfl⟩⟩ ?_
           exact q_v (by rw [spanR_two hR h4n p58 (by decide)]; rfl)
          ·refine go 6 ?_
           refine cb rfl (fun h63 p63 => ?_) (fun h63 p63 => ?_)
           ·refine go 6 ?_
            refine o_v rfl (OV.cast (u := .int .i64 (min (spanF u f.kids[0]).low (spanF u f.kids[1]).low)) (v_imin rfl rfl) (congrArg (Value.int .i64) (by omega))) ?_
            refine go 4 ?_
            refine o_v rfl (OV.cast (u := .int .i64 (min (spanF u f.kids[0]).high (spanF u f.kids[1]).high)) (v_imin rfl rfl) (congrArg (Value.int .i64) (by omega))) ?_
            refine go 1 ?_
            refine o_val rfl (v_build (pl := [(0, 1), (1, 1)]) he he rfl rfl) ?_
            refine go 1 ?_
            refine bring2 ?_
            refine o_stw _ he rfl rfl rfl rfl rfl rfl ?_
            refine go 5 ?_
            refine fin1 rfl ⟨_, _, _, rfl, m0, .inr ⟨_, he, rfl, rfl⟩⟩ ?_
            exact q_v (by rw [spanR_two hR h4n p63 (by decide)]; rfl)
           ·refine go 6 ?_
            refine cb rfl (fun h76 p76 => ?_) (fun h76 p76 => ?_)
            ·refine go 6 ?_
             refine o_v rfl (OV.cast (u := .int .i64 (max (spanF u f.kids[0]).low (spanF u f.kids[1]).low)) (v_imax rfl rfl) (congrArg (Value.int .i64) (by omega))) ?_
             refine go 4 ?_
             refine o_v rfl (OV.cast (u := .int .i64 (max (spanF u f.kids[0]).high (spanF u f.kids[1]).high)) (v_imax rfl rfl) (congrArg (Value.int .i64) (by omega))) ?_
             refine go 1 ?_
             refine o_val rfl (v_build (pl := [(0, 1), (1, 1)]) he he rfl rfl) ?_
             refine go 1 ?_
             refine bring2 ?_
             refine o_stw _ he rfl rfl rfl rfl rfl rfl ?_
             refine go 5 ?_
             refine fin1 rfl ⟨_, _, _, rfl, m0, .inr ⟨_, he, rfl, rfl⟩⟩ ?_
             exact q_v (by rw [spanR_two hR h4n p76 (by decide)]; rfl)
            ·have h3 := kids3 hR (op11 hR h4n p43 p48 p53 p58 p63 p76)
             refine go 4 ?_
             refine d_startH T.mixed ?_
             refine d_tv 0 rfl rfl (by kernel_rfl) rfl (.refl _) rfl (v_fieldAddr he rfl) ?_
             refine d_tv 1 rfl rfl (by kernel_rfl) rfl (.refl _) rfl (v_ld m4 he rfl rfl) ?_
             obtain ⟨b91, o91, w91, e91, c91, r91⟩ := RdA.at_ hA (i := 2) (by omega)
             replace r91 := fm_out r91
             obtain ⟨s91, rfl, hs91⟩ := r91
             refine d_tv 2 rfl rfl (by kernel_rfl) rfl (.refl _) rfl (v_idx he rfl rfl e91 (2) rfl (by omega)) ?_
             refine d_tv 3 rfl rfl (by kernel_rfl) rfl (.refl _) rfl (v_ldIa he rfl c91 rfl) ?_
             refine d_tv 4 rfl rfl (by kernel_rfl) rfl (.refl _) rfl (v_ldw m3 he rfl rfl) ?_
             refine d_two 5 6 (by kernel_rfl) rfl rfl ?_ ?_
             ·refine o_callV (ih (f.kids[2]'(by omega)) (by have := cnt_kid (List.getElem_mem (show 2 < f.kids.length by omega)); omega) _ (fm_back hs91) (right_get hR 2 _)) rfl rfl ?_
              refine d_on (fun _ m => m.keeps (.refl _)) ?_
              refine d_one 6 (by kernel_rfl) rfl ?_
              refine o_alloc he rfl (fun g7 => ?_)
              refine d_on (fun _ m => m.keeps (.cons _ (.refl _))) ?_
              refine d_one 7 (by kernel_rfl) rfl ?_
              refine o_stw _ he rfl rfl rfl rfl rfl rfl ?_
              refine d_on (fun _ m => m.keeps (.cons _ (.refl _))) ?_
              refine d_done (by kernel_rfl) ?_
              refine go 6 ?_
              refine o_callV (r04Over _ _ 0) rfl rfl ?_
              refine go 9 ?_
              refine cb rfl (fun h97 p97 => ?_) (fun h97 p97 => ?_)
              ·refine go 4 ?_
               refine bring3 ?_
               refine o_stw _ he rfl rfl rfl rfl rfl rfl ?_
               refine go 5 ?_
               refine fin1 rfl ⟨_, _, _, rfl, m0, .inr ⟨_, he, rfl, rfl⟩⟩ ?_
               exact q_v (by rw [span_if h3]; unfold chooseI; rw [if_pos p97])
              ·refine go 6 ?_
               refine cb rfl (fun h100 p100 => ?_) (fun h100 p100 => ?_)
               ·refine go 4 ?_
                refine bring3 ?_
                refine o_stw _ he rfl rfl rfl rfl rfl rfl ?_
                refine go 5 ?_
                refine fin1 rfl ⟨_, _, _, rfl, m0, .inr ⟨_, he, rfl, rfl⟩⟩ ?_
                exact q_v (by rw [span_if h3]; unfold chooseI; rw [if_neg p97, if_pos p100])
               ·refine go 8 ?_
                refine o_callV (r04Join _ _ _) rfl rfl ?_
                refine go 1 ?_
                refine bring3 ?_
                refine o_stw _ he rfl rfl rfl rfl rfl rfl ?_
                refine go 3 ?_
                refine fin1 rfl ⟨_, _, _, rfl, m0, .inr ⟨_, he, rfl, rfl⟩⟩ ?_
                exact q_v (by rw [span_if h3]; unfold chooseI; rw [if_neg p97, if_neg p100])
             ·refine o_alloc he rfl (fun g7 => ?_)
              refine d_on (fun _ m => m.keeps (.cons _ (.refl _))) ?_
              refine d_one 5 (by kernel_rfl) rfl ?_
              refine o_callV (ih (f.kids[2]'(by omega)) (by have := cnt_kid (List.getElem_mem (show 2 < f.kids.length by omega)); omega) _ (fm_back hs91) (right_get hR 2 _)) rfl rfl ?_
              refine d_on (fun _ m => m.keeps (.cons _ (.refl _))) ?_
              refine d_one 7 (by kernel_rfl) rfl ?_
              refine o_stw _ he rfl rfl rfl rfl rfl rfl ?_
              refine d_on (fun _ m => m.keeps (.cons _ (.refl _))) ?_
              refine d_done (by kernel_rfl) ?_
              refine go 6 ?_
              refine o_callV (r04Over _ _ 0) rfl rfl ?_
              refine go 9 ?_
              refine cb rfl (fun h97 p97 => ?_) (fun h97 p97 => ?_)
              ·refine go 4 ?_
               refine bring3 ?_
               refine o_stw _ he rfl rfl rfl rfl rfl rfl ?_
               refine go 5 ?_
               refine fin1 rfl ⟨_, _, _, rfl, m0, .inr ⟨_, he, rfl, rfl⟩⟩ ?_
               exact q_v (by rw [span_if h3]; unfold chooseI; rw [if_pos p97])
              ·refine go 6 ?_
               refine cb rfl (fun h100 p100 => ?_) (fun h100 p100 => ?_)
               ·refine go 4 ?_
                refine bring3 ?_
                refine o_stw _ he rfl rfl rfl rfl rfl rfl ?_
                refine go 5 ?_
                refine fin1 rfl ⟨_, _, _, rfl, m0, .inr ⟨_, he, rfl, rfl⟩⟩ ?_
                exact q_v (by rw [span_if h3]; unfold chooseI; rw [if_neg p97, if_pos p100])
               ·refine go 8 ?_
                refine o_callV (r04Join _ _ _) rfl rfl ?_
                refine go 1 ?_
                refine bring3 ?_
                refine o_stw _ he rfl rfl rfl rfl rfl rfl ?_
                refine go 3 ?_
                refine fin1 rfl ⟨_, _, _, rfl, m0, .inr ⟨_, he, rfl, rfl⟩⟩ ?_
                exact q_v (by rw [span_if h3]; unfold chooseI; rw [if_neg p97, if_neg p100])
     ·refine o_alloc he rfl (fun g5 => ?_)
      refine d_on (fun _ m => m.keeps (.cons _ (.refl _))) ?_
      refine d_one 5 (by kernel_rfl) rfl ?_
      refine o_callV (ih (f.kids[0]'(by omega)) (by have := cnt_kid (List.getElem_mem (show 0 < f.kids.length by omega)); omega) _ (fm_back hs31) (right_get hR 0 _)) rfl rfl ?_
      refine d_on (fun _ m => m.keeps (.cons _ (.refl _))) ?_
      refine d_one 7 (by kernel_rfl) rfl ?_
      refine o_stw _ he rfl rfl rfl rfl rfl rfl ?_
      refine d_on (fun _ m => m.keeps (.cons _ (.refl _))) ?_
      refine d_done (by kernel_rfl) ?_
      refine go 2 ?_
      refine d_startH T.mixed ?_
      refine d_tv 0 rfl rfl (by kernel_rfl) rfl (.refl _) rfl (v_fieldAddr he rfl) ?_
      refine d_tv 1 rfl rfl (by kernel_rfl) rfl (.refl _) rfl (v_ld m3 he rfl rfl) ?_
      obtain ⟨b37, o37, w37, e37, c37, r37⟩ := RdA.at_ hA (i := 1) (by omega)
      replace r37 := fm_out r37
      obtain ⟨s37, rfl, hs37⟩ := r37
      refine d_tv 2 rfl rfl (by kernel_rfl) rfl (.refl _) rfl (v_idx he rfl rfl e37 (1) rfl (by omega)) ?_
      refine d_tv 3 rfl rfl (by kernel_rfl) rfl (.refl _) rfl (v_ldIa he rfl c37 rfl) ?_
      refine d_tv 4 rfl rfl (by kernel_rfl) rfl (.refl _) rfl (v_ldw m2 he rfl rfl) ?_
      refine d_two 5 6 (by kernel_rfl) rfl rfl ?_ ?_
      ·refine o_callV (ih (f.kids[1]'(by omega)) (by have := cnt_kid (List.getElem_mem (show 1 < f.kids.length by omega)); omega) _ (fm_back hs37) (right_get hR 1 _)) rfl rfl ?_
       refine d_on (fun _ m => m.keeps (.refl _)) ?_
       refine d_one 6 (by kernel_rfl) rfl ?_
       refine o_alloc he rfl (fun g6 => ?_)
       refine d_on (fun _ m => m.keeps (.cons _ (.refl _))) ?_
       refine d_one 7 (by kernel_rfl) rfl ?_
       refine o_stw _ he rfl rfl rfl rfl rfl rfl ?_
       refine d_on (fun _ m => m.keeps (.cons _ (.refl _))) ?_
       refine d_done (by kernel_rfl) ?_
       refine go 15 ?_
       refine cb rfl (fun h43 p43 => ?_) (fun h43 p43 => ?_)
       ·refine go 5 ?_
        refine o_callV (r04Add _ _ _) rfl rfl ?_
        refine go 1 ?_
        refine bring2 ?_
        refine o_stw _ he rfl rfl rfl rfl rfl rfl ?_
        refine go 5 ?_
        refine fin1 rfl ⟨_, _, _, rfl, m0, .inr ⟨_, he, rfl, rfl⟩⟩ ?_
        exact q_v (by rw [spanR_two hR h4n p43 (by decide)]; rfl)
       ·refine go 6 ?_
        refine cb rfl (fun h48 p48 => ?_) (fun h48 p48 => ?_)
        ·refine go 5 ?_
         refine o_callV (r04Sub _ _ _) rfl rfl ?_
         refine go 1 ?_
         refine bring2 ?_
         refine o_stw _ he rfl rfl rfl rfl rfl rfl ?_
         refine go 5 ?_
         refine fin1 rfl ⟨_, _, _, rfl, m0, .inr ⟨_, he, rfl, rfl⟩⟩ ?_
         exact q_v (by rw [spanR_two hR h4n p48 (by decide)]; rfl)
        ·refine go 6 ?_
         refine cb rfl (fun h53 p53 => ?_) (fun h53 p53 => ?_)
         ·refine go 5 ?_
          refine o_callV (r04Mul _ _ _) rfl rfl ?_
          refine go 1 ?_
          refine bring2 ?_
          refine o_stw _ he rfl rfl rfl rfl rfl rfl ?_
          refine go 5 ?_
          refine fin1 rfl ⟨_, _, _, rfl, m0, .inr ⟨_, he, rfl, rfl⟩⟩ ?_
          exact q_v (by rw [spanR_two hR h4n p53 (by decide)]; rfl)
         ·refine go 6 ?_
          refine cb rfl (fun h58 p58 => ?_) (fun h58 p58 => ?_)
          ·refine go 5 ?_
           refine o_callV (r07quot _ _ _ (span_ok hu _ (right_get hR 0 (by omega))) (span_ok hu _ (right_get hR 1 (by omega)))) rfl rfl ?_
           refine go 1 ?_
           refine bring2 ?_
           refine o_stw _ he rfl rfl rfl rfl rfl rfl ?_
           refine go 5 ?_
           refine fin1 rfl ⟨_, _, _, rfl, m0, .inr ⟨_, he, rfl, rfl⟩⟩ ?_
           exact q_v (by rw [spanR_two hR h4n p58 (by decide)]; rfl)
          ·refine go 6 ?_
           refine cb rfl (fun h63 p63 => ?_) (fun h63 p63 => ?_)
           ·refine go 6 ?_
            refine o_v rfl (OV.cast (u := .int .i64 (min (spanF u f.kids[0]).low (spanF u f.kids[1]).low)) (v_imin rfl rfl) (congrArg (Value.int .i64) (by omega))) ?_
            refine go 4 ?_
            refine o_v rfl (OV.cast (u := .int .i64 (min (spanF u f.kids[0]).high (spanF u f.kids[1]).high)) (v_imin rfl rfl) (congrArg (Value.int .i64) (by omega))) ?_
            refine go 1 ?_
            refine o_val rfl (v_build (pl := [(0, 1), (1, 1)]) he he rfl rfl) ?_
            refine go 1 ?_
            refine bring2 ?_
            refine o_stw _ he rfl rfl rfl rfl rfl rfl ?_
            refine go 5 ?_
            refine fin1 rfl ⟨_, _, _, rfl, m0, .inr ⟨_, he, rfl, rfl⟩⟩ ?_
            exact q_v (by rw [spanR_two hR h4n p63 (by decide)]; rfl)
           ·refine go 6 ?_
            refine cb rfl (fun h76 p76 => ?_) (fun h76 p76 => ?_)
            ·refine go 6 ?_
             refine o_v rfl (OV.cast (u := .int .i64 (max (spanF u f.kids[0]).low (spanF u f.kids[1]).low)) (v_imax rfl rfl) (congrArg (Value.int .i64) (by omega))) ?_
             refine go 4 ?_
             refine o_v rfl (OV.cast (u := .int .i64 (max (spanF u f.kids[0]).high (spanF u f.kids[1]).high)) (v_imax rfl rfl) (congrArg (Value.int .i64) (by omega))) ?_
             refine go 1 ?_
             refine o_val rfl (v_build (pl := [(0, 1), (1, 1)]) he he rfl rfl) ?_
             refine go 1 ?_
             refine bring2 ?_
             refine o_stw _ he rfl rfl rfl rfl rfl rfl ?_
             refine go 5 ?_
             refine fin1 rfl ⟨_, _, _, rfl, m0, .inr ⟨_, he, rfl, rfl⟩⟩ ?_
             exact q_v (by rw [spanR_two hR h4n p76 (by decide)]; rfl)
            ·have h3 := kids3 hR (op11 hR h4n p43 p48 p53 p58 p63 p76)
             refine go 4 ?_
             refine d_startH T.mixed ?_
             refine d_tv 0 rfl rfl (by kernel_rfl) rfl (.refl _) rfl (v_fieldAddr he rfl) ?_
             refine d_tv 1 rfl rfl (by kernel_rfl) rfl (.refl _) rfl (v_ld m4 he rfl rfl) ?_
             obtain ⟨b91, o91, w91, e91, c91, r91⟩ := RdA.at_ hA (i := 2) (by omega)
             replace r91 := fm_out r91
             obtain ⟨s91, rfl, hs91⟩ := r91
             refine d_tv 2 rfl rfl (by kernel_rfl) rfl (.refl _) rfl (v_idx he rfl rfl e91 (2) rfl (by omega)) ?_
             refine d_tv 3 rfl rfl (by kernel_rfl) rfl (.refl _) rfl (v_ldIa he rfl c91 rfl) ?_
             refine d_tv 4 rfl rfl (by kernel_rfl) rfl (.refl _) rfl (v_ldw m3 he rfl rfl) ?_
             refine d_two 5 6 (by kernel_rfl) rfl rfl ?_ ?_
             ·refine o_callV (ih (f.kids[2]'(by omega)) (by have := cnt_kid (List.getElem_mem (show 2 < f.kids.length by omega)); omega) _ (fm_back hs91) (right_get hR 2 _)) rfl rfl ?_
              refine d_on (fun _ m => m.keeps (.refl _)) ?_
              refine d_one 6 (by kernel_rfl) rfl ?_
              refine o_alloc he rfl (fun g7 => ?_)
              refine d_on (fun _ m => m.keeps (.cons _ (.refl _))) ?_
              refine d_one 7 (by kernel_rfl) rfl ?_
              refine o_stw _ he rfl rfl rfl rfl rfl rfl ?_
              refine d_on (fun _ m => m.keeps (.cons _ (.refl _))) ?_
              refine d_done (by kernel_rfl) ?_
              refine go 6 ?_
              refine o_callV (r04Over _ _ 0) rfl rfl ?_
              refine go 9 ?_
              refine cb rfl (fun h97 p97 => ?_) (fun h97 p97 => ?_)
              ·refine go 4 ?_
               refine bring3 ?_
               refine o_stw _ he rfl rfl rfl rfl rfl rfl ?_
               refine go 5 ?_
               refine fin1 rfl ⟨_, _, _, rfl, m0, .inr ⟨_, he, rfl, rfl⟩⟩ ?_
               exact q_v (by rw [span_if h3]; unfold chooseI; rw [if_pos p97])
              ·refine go 6 ?_
               refine cb rfl (fun h100 p100 => ?_) (fun h100 p100 => ?_)
               ·refine go 4 ?_
                refine bring3 ?_
                refine o_stw _ he rfl rfl rfl rfl rfl rfl ?_
                refine go 5 ?_
                refine fin1 rfl ⟨_, _, _, rfl, m0, .inr ⟨_, he, rfl, rfl⟩⟩ ?_
                exact q_v (by rw [span_if h3]; unfold chooseI; rw [if_neg p97, if_pos p100])
               ·refine go 8 ?_
                refine o_callV (r04Join _ _ _) rfl rfl ?_
                refine go 1 ?_
                refine bring3 ?_
                refine o_stw _ he rfl rfl rfl rfl rfl rfl ?_
                refine go 3 ?_
                refine fin1 rfl ⟨_, _, _, rfl, m0, .inr ⟨_, he, rfl, rfl⟩⟩ ?_
                exact q_v (by rw [span_if h3]; unfold chooseI; rw [if_neg p97, if_neg p100])
             ·refine o_alloc he rfl (fun g7 => ?_)
              refine d_on (fun _ m => m.keeps (.cons _ (.refl _))) ?_
              refine d_one 5 (by kernel_rfl) rfl ?_
              refine o_callV (ih (f.kids[2]'(by omega)) (by have := cnt_kid (List.getElem_mem (show 2 < f.kids.length by omega)); omega) _ (fm_back hs91) (right_get hR 2 _)) rfl rfl ?_
              refine d_on (fun _ m => m.keeps (.cons _ (.refl _))) ?_
              refine d_one 7 (by kernel_rfl) rfl ?_
              refine o_stw _ he rfl rfl rfl rfl rfl rfl ?_
              refine d_on (fun _ m => m.keeps (.cons _ (.refl _))) ?_
              refine d_done (by kernel_rfl) ?_
              refine go 6 ?_
              refine o_callV (r04Over _ _ 0) rfl rfl ?_
              refine go 9 ?_
              refine cb rfl (fun h97 p97 => ?_) (fun h97 p97 => ?_)
              ·refine go 4 ?_
               refine bring3 ?_
               refine o_stw _ he rfl rfl rfl rfl rfl rfl ?_
               refine go 5 ?_
               refine fin1 rfl ⟨_, _, _, rfl, m0, .inr ⟨_, he, rfl, rfl⟩⟩ ?_
               exact q_v (by rw [span_if h3]; unfold chooseI; rw [if_pos p97])
              ·refine go 6 ?_
               refine cb rfl (fun h100 p100 => ?_) (fun h100 p100 => ?_)
               ·refine go 4 ?_
                refine bring3 ?_
                refine o_stw _ he rfl rfl rfl rfl rfl rfl ?_
                refine go 5 ?_
                refine fin1 rfl ⟨_, _, _, rfl, m0, .inr ⟨_, he, rfl, rfl⟩⟩ ?_
                exact q_v (by rw [span_if h3]; unfold chooseI; rw [if_neg p97, if_pos p100])
               ·refine go 8 ?_
                refine o_callV (r04Join _ _ _) rfl rfl ?_
                refine go 1 ?_
                refine bring3 ?_
                refine o_stw _ he rfl rfl rfl rfl rfl rfl ?_
                refine go 3 ?_
                refine fin1 rfl ⟨_, _, _, rfl, m0, .inr ⟨_, he, rfl, rfl⟩⟩ ?_
                exact q_v (by rw [span_if h3]; unfold chooseI; rw [if_neg p97, if_neg p100])
      ·refine o_alloc he rfl (fun g6 => ?_)
       refine d_on (fun _ m => m.keeps (.cons _ (.refl _))) ?_
       refine d_one 5 (by kernel_rfl) rfl ?_
       refine o_callV (ih (f.kids[1]'(by omega)) (by have := cnt_kid (List.getElem_mem (show 1 < f.kids.length by omega)); omega) _ (fm_back hs37) (right_get hR 1 _)) rfl rfl ?_
       refine d_on (fun _ m => m.keeps (.cons _ (.refl _))) ?_
       refine d_one 7 (by kernel_rfl) rfl ?_
       refine o_stw _ he rfl rfl rfl rfl rfl rfl ?_
       refine d_on (fun _ m => m.keeps (.cons _ (.refl _))) ?_
       refine d_done (by kernel_rfl) ?_
       refine go 15 ?_
       refine cb rfl (fun h43 p43 => ?_) (fun h43 p43 => ?_)
       ·refine go 5 ?_
        refine o_callV (r04Add _ _ _) rfl rfl ?_
        refine go 1 ?_
        refine bring2 ?_
        refine o_stw _ he rfl rfl rfl rfl rfl rfl ?_
        refine go 5 ?_
        refine fin1 rfl ⟨_, _, _, rfl, m0, .inr ⟨_, he, rfl, rfl⟩⟩ ?_
        exact q_v (by rw [spanR_two hR h4n p43 (by decide)]; rfl)
       ·refine go 6 ?_
        refine cb rfl (fun h48 p48 => ?_) (fun h48 p48 => ?_)
        ·refine go 5 ?_
         refine o_callV (r04Sub _ _ _) rfl rfl ?_
         refine go 1 ?_
         refine bring2 ?_
         refine o_stw _ he rfl rfl rfl rfl rfl rfl ?_
         refine go 5 ?_
         refine fin1 rfl ⟨_, _, _, rfl, m0, .inr ⟨_, he, rfl, rfl⟩⟩ ?_
         exact q_v (by rw [spanR_two hR h4n p48 (by decide)]; rfl)
        ·refine go 6 ?_
         refine cb rfl (fun h53 p53 => ?_) (fun h53 p53 => ?_)
         ·refine go 5 ?_
          refine o_callV (r04Mul _ _ _) rfl rfl ?_
          refine go 1 ?_
          refine bring2 ?_
          refine o_stw _ he rfl rfl rfl rfl rfl rfl ?_
          refine go 5 ?_
          refine fin1 rfl ⟨_, _, _, rfl, m0, .inr ⟨_, he, rfl, rfl⟩⟩ ?_
          exact q_v (by rw [spanR_two hR h4n p53 (by decide)]; rfl)
         ·refine go 6 ?_
          refine cb rfl (fun h58 p58 => ?_) (fun h58 p58 => ?_)
          ·refine go 5 ?_
           refine o_callV (r07quot _ _ _ (span_ok hu _ (right_get hR 0 (by omega))) (span_ok hu _ (right_get hR 1 (by omega)))) rfl rfl ?_
           refine go 1 ?_
           refine bring2 ?_
           refine o_stw _ he rfl rfl rfl rfl rfl rfl ?_
           refine go 5 ?_
           refine fin1 rfl ⟨_, _, _, rfl, m0, .inr ⟨_, he, rfl, rfl⟩⟩ ?_
           exact q_v (by rw [spanR_two hR h4n p58 (by decide)]; rfl)
          ·refine go 6 ?_
           refine cb rfl (fun h63 p63 => ?_) (fun h63 p63 => ?_)
           ·refine go 6 ?_
            refine o_v rfl (OV.cast (u := .int .i64 (min (spanF u f.kids[0]).low (spanF u f.kids[1]).low)) (v_imin rfl rfl) (congrArg (Value.int .i64) (by omega))) ?_
            refine go 4 ?_
            refine o_v rfl (OV.cast (u := .int .i64 (min (spanF u f.kids[0]).high (spanF u f.kids[1]).high)) (v_imin rfl rfl) (congrArg (Value.int .i64) (by omega))) ?_
            refine go 1 ?_
            refine o_val rfl (v_build (pl := [(0, 1), (1, 1)]) he he rfl rfl) ?_
            refine go 1 ?_
            refine bring2 ?_
            refine o_stw _ he rfl rfl rfl rfl rfl rfl ?_
            refine go 5 ?_
            refine fin1 rfl ⟨_, _, _, rfl, m0, .inr ⟨_, he, rfl, rfl⟩⟩ ?_
            exact q_v (by rw [spanR_two hR h4n p63 (by decide)]; rfl)
           ·refine go 6 ?_
            refine cb rfl (fun h76 p76 => ?_) (fun h76 p76 => ?_)
            ·refine go 6 ?_
             refine o_v rfl (OV.cast (u := .int .i64 (max (spanF u f.kids[0]).low (spanF u f.kids[1]).low)) (v_imax rfl rfl) (congrArg (Value.int .i64) (by omega))) ?_
             refine go 4 ?_
             refine o_v rfl (OV.cast (u := .int .i64 (max (spanF u f.kids[0]).high (spanF u f.kids[1]).high)) (v_imax rfl rfl) (congrArg (Value.int .i64) (by omega))) ?_
             refine go 1 ?_
             refine o_val rfl (v_build (pl := [(0, 1), (1, 1)]) he he rfl rfl) ?_
             refine go 1 ?_
             refine bring2 ?_
             refine o_stw _ he rfl rfl rfl rfl rfl rfl ?_
             refine go 5 ?_
             refine fin1 rfl ⟨_, _, _, rfl, m0, .inr ⟨_, he, rfl, rfl⟩⟩ ?_
             exact q_v (by rw [spanR_two hR h4n p76 (by decide)]; rfl)
            ·have h3 := kids3 hR (op11 hR h4n p43 p48 p53 p58 p63 p76)
             refine go 4 ?_
             refine d_startH T.mixed ?_
             refine d_tv 0 rfl rfl (by kernel_rfl) rfl (.refl _) rfl (v_fieldAddr he rfl) ?_
             refine d_tv 1 rfl rfl (by kernel_rfl) rfl (.refl _) rfl (v_ld m4 he rfl rfl) ?_
             obtain ⟨b91, o91, w91, e91, c91, r91⟩ := RdA.at_ hA (i := 2) (by omega)
             replace r91 := fm_out r91
             obtain ⟨s91, rfl, hs91⟩ := r91
             refine d_tv 2 rfl rfl (by kernel_rfl) rfl (.refl _) rfl (v_idx he rfl rfl e91 (2) rfl (by omega)) ?_
             refine d_tv 3 rfl rfl (by kernel_rfl) rfl (.refl _) rfl (v_ldIa he rfl c91 rfl) ?_
             refine d_tv 4 rfl rfl (by kernel_rfl) rfl (.refl _) rfl (v_ldw m3 he rfl rfl) ?_
             refine d_two 5 6 (by kernel_rfl) rfl rfl ?_ ?_
             ·refine o_callV (ih (f.kids[2]'(by omega)) (by have := cnt_kid (List.getElem_mem (show 2 < f.kids.length by omega)); omega) _ (fm_back hs91) (right_get hR 2 _)) rfl rfl ?_
              refine d_on (fun _ m => m.keeps (.refl _)) ?_
              refine d_one 6 (by kernel_rfl) rfl ?_
              refine o_alloc he rfl (fun g7 => ?_)
              refine d_on (fun _ m => m.keeps (.cons _ (.refl _))) ?_
              refine d_one 7 (by kernel_rfl) rfl ?_
              refine o_stw _ he rfl rfl rfl rfl rfl rfl ?_
              refine d_on (fun _ m => m.keeps (.cons _ (.refl _))) ?_
              refine d_done (by kernel_rfl) ?_
              refine go 6 ?_
              refine o_callV (r04Over _ _ 0) rfl rfl ?_
              refine go 9 ?_
              refine cb rfl (fun h97 p97 => ?_) (fun h97 p97 => ?_)
              ·refine go 4 ?_
               refine bring3 ?_
               refine o_stw _ he rfl rfl rfl rfl rfl rfl ?_
               refine go 5 ?_
               refine fin1 rfl ⟨_, _, _, rfl, m0, .inr ⟨_, he, rfl, rfl⟩⟩ ?_
               exact q_v (by rw [span_if h3]; unfold chooseI; rw [if_pos p97])
              ·refine go 6 ?_
               refine cb rfl (fun h100 p100 => ?_) (fun h100 p100 => ?_)
               ·refine go 4 ?_
                refine bring3 ?_
                refine o_stw _ he rfl rfl rfl rfl rfl rfl ?_
                refine go 5 ?_
                refine fin1 rfl ⟨_, _, _, rfl, m0, .inr ⟨_, he, rfl, rfl⟩⟩ ?_
                exact q_v (by rw [span_if h3]; unfold chooseI; rw [if_neg p97, if_pos p100])
               ·refine go 8 ?_
                refine o_callV (r04Join _ _ _) rfl rfl ?_
                refine go 1 ?_
                refine bring3 ?_
                refine o_stw _ he rfl rfl rfl rfl rfl rfl ?_
                refine go 3 ?_
                refine fin1 rfl ⟨_, _, _, rfl, m0, .inr ⟨_, he, rfl, rfl⟩⟩ ?_
                exact q_v (by rw [span_if h3]; unfold chooseI; rw [if_neg p97, if_neg p100])
             ·refine o_alloc he rfl (fun g7 => ?_)
              refine d_on (fun _ m => m.keeps (.cons _ (.refl _))) ?_
              refine d_one 5 (by kernel_rfl) rfl ?_
              refine o_callV (ih (f.kids[2]'(by omega)) (by have := cnt_kid (List.getElem_mem (show 2 < f.kids.length by omega)); omega) _ (fm_back hs91) (right_get hR 2 _)) rfl rfl ?_
              refine d_on (fun _ m => m.keeps (.cons _ (.refl _))) ?_
              refine d_one 7 (by kernel_rfl) rfl ?_
              refine o_stw _ he rfl rfl rfl rfl rfl rfl ?_
              refine d_on (fun _ m => m.keeps (.cons _ (.refl _))) ?_
              refine d_done (by kernel_rfl) ?_
              refine go 6 ?_
              refine o_callV (r04Over _ _ 0) rfl rfl ?_
              refine go 9 ?_
              refine cb rfl (fun h97 p97 => ?_) (fun h97 p97 => ?_)
              ·refine go 4 ?_
               refine bring3 ?_
               refine o_stw _ he rfl rfl rfl rfl rfl rfl ?_
               refine go 5 ?_
               refine fin1 rfl ⟨_, _, _, rfl, m0, .inr ⟨_, he, rfl, rfl⟩⟩ ?_
               exact q_v (by rw [span_if h3]; unfold chooseI; rw [if_pos p97])
              ·refine go 6 ?_
               refine cb rfl (fun h100 p100 => ?_) (fun h100 p100 => ?_)
               ·refine go 4 ?_
                refine bring3 ?_
                refine o_stw _ he rfl rfl rfl rfl rfl rfl ?_
                refine go 5 ?_
                refine fin1 rfl ⟨_, _, _, rfl, m0, .inr ⟨_, he, rfl, rfl⟩⟩ ?_
                exact q_v (by rw [span_if h3]; unfold chooseI; rw [if_neg p97, if_pos p100])
               ·refine go 8 ?_
                refine o_callV (r04Join _ _ _) rfl rfl ?_
                refine go 1 ?_
                refine bring3 ?_
                refine o_stw _ he rfl rfl rfl rfl rfl rfl ?_
                refine go 3 ?_
                refine fin1 rfl ⟨_, _, _, rfl, m0, .inr ⟨_, he, rfl, rfl⟩⟩ ?_
                exact q_v (by rw [span_if h3]; unfold chooseI; rw [if_neg p97, if_neg p100])

theorem r07span (I : IMap) (u : Use) (hu : useOk u = true) (f : Fm) (vs : List Value) (hr : FmRd I vs f) (hR : rightF f = true) : FnV Tryz.prog 182 #[.agg vs.toArray, .agg u.cells.toArray] I (.agg (spanF u f).cells.toArray) := by
  have key : ∀ (N : Nat) (f : Fm), cntN f ≤ N → ∀ vs, FmRd I vs f → rightF f = true → FnV Tryz.prog 182 #[.agg vs.toArray, .agg u.cells.toArray] I (.agg (spanF u f).cells.toArray) := by
    intro N
    induction N with
    | zero => intro f hN; exact absurd hN (by cases f; simp [cntN])
    | succ N ih => intro f hN vs hr hR; exact r07span_step I u hu N ih f hN vs hr hR
  exact key (cntN f) f (Nat.le_refl _) vs hr hR

theorem r07Damage (I : IMap) (f : Fm) (vs : List Value) (hr : FmRd I vs f) (u : Use) :
    FnV Tryz.prog 143 #[.agg vs.toArray, .agg u.cells.toArray] I (.agg (damF f u).cells.toArray) := by
 have hl := Enc.len (α := Fm) hr
 refine enter Tryz.func143 Tryz.call143 rfl Tryz.ntmps143 rfl (fun w0 => ?_)
 refine go 3 ?_
 refine o_box _ rfl rfl rfl (fun g2 => ?_)
 refine go 1 ?_
 refine o_box _ rfl rfl rfl (fun g3 => ?_)
 refine go 1 ?_
 refine o_alloc he rfl (fun g4 => ?_)
 refine go 4 ?_
 refine c_cut (I' := I) (L' := [(2, .pointer (some ⟨g2, 0, none⟩)), (3, .pointer (some ⟨g3, 0, none⟩)), (4, .pointer (some ⟨g4, 0, none⟩)), (13, .bool (!validFm f || !useOk u))]) (H' := [.blk g2 27 vs, .blk g3 34 u.cells, .blk g4 32 [.int .i64 (0), .int .i64 (0)]]) ?_ ?_
 ·refine go 1 ?_
  refine o_v rfl (v_ldw m2 he rfl hl) ?_
  refine go 1 ?_
  refine o_callV (r07Valid _ f _ hr) rfl rfl ?_
  refine go 2 ?_
  refine sxb 9 rfl (fun h9 p9 => ?_) (fun h9 p9 => ?_)
  ·refine go 6 ?_
   refine bring1 ?_
   refine bring2 ?_
   exact q_cut ⟨rfl, rfl, rfl, (congrArg (fun b => some (Value.bool b)) (by simp only [h9, bS])), trivial⟩ rfl rfl
  ·refine go 2 ?_
   refine o_yes rfl rfl h9 (o_callV (r07Use _ u) rfl rfl ?_)
   refine go 4 ?_
   refine bring1 ?_
   refine bring2 ?_
   exact q_cut ⟨rfl, rfl, rfl, (congrArg (fun b => some (Value.bool b)) (by simp only [h9, bS])), trivial⟩ rfl rfl
 ·refine cb rfl (fun h13 p13 => ?_) (fun h13 p13 => ?_)
  ·refine go 3 ?_
   refine o_val rfl (v_build (pl := [(0, 1), (1, 1)]) he he rfl rfl) ?_
   refine go 1 ?_
   refine bring2 ?_
   refine o_stw _ he rfl rfl rfl rfl rfl rfl ?_
   refine go 4 ?_
   refine fin1 rfl ⟨_, _, _, rfl, m0, .inr ⟨_, he, rfl, rfl⟩⟩ ?_
   exact q_v (by rw [damR_no h13]; rfl)
  ·obtain ⟨hv, hu⟩ : validFm f = true ∧ useOk u = true := by simpa using h13
   refine go 4 ?_
   refine o_v rfl (v_ldw m0 he rfl hl) ?_
   refine go 2 ?_
   refine o_callV (r07span _ u hu f _ hr (by simp only [validFm, Bool.and_eq_true] at hv; exact hv.2)) rfl rfl ?_
   refine go 1 ?_
   refine o_alloc he rfl (fun g5 => ?_)
   refine go 1 ?_
   refine o_stw _ he rfl rfl rfl rfl rfl rfl ?_
   refine go 6 ?_
   refine o_v rfl (OV.cast (u := .int .i64 (max 0 (spanF u f).low)) (v_imax rfl rfl) (congrArg (Value.int .i64) (by omega))) ?_
   refine go 2 ?_
   refine o_v rfl (OV.cast (u := .int .i64 (max 0 (spanF u f).high)) (v_imax rfl rfl) (congrArg (Value.int .i64) (by omega))) ?_
   refine go 1 ?_
   refine o_val rfl (v_build (pl := [(0, 1), (1, 1)]) he he rfl rfl) ?_
   refine go 1 ?_
   refine bring3 ?_
   refine o_stw _ he rfl rfl rfl rfl rfl rfl ?_
   refine go 3 ?_
   refine fin1 rfl ⟨_, _, _, rfl, m0, .inr ⟨_, he, rfl, rfl⟩⟩ ?_
   exact q_v (by rw [dam_yes hu hv]; rfl)

end Go.Proofs.YthcefohbbfjjfaaGreat

/- The reference of lives: ways up, being inside, a use. -/
set_option linter.all false
namespace Go.Sx
open Go
theorem pt_mem {l : List ByteArray} {k : Nat} {s z : ByteArray} : z ∈ l.take k ++ ([s] ++ l.drop k) ↔ z ∈ l ∨ z = s := by
  have h : z ∈ l ↔ z ∈ l.take k ∨ z ∈ l.drop k := by rw [← List.mem_append, List.take_append_drop]
  rw [h]
  simp only [List.mem_append, List.mem_singleton]
  constructor
  · rintro (h | h | h)
    · exact .inl (.inl h)
    · exact .inr h
    · exact .inl (.inr h)
  · rintro ((h | h) | h)
    · exact .inl h
    · exact .inr (.inr h)
    · exact .inr (.inl h)
theorem tk_mem {α : Type} {l : List α} {i : Nat} (h : i < l.length) {z : α} : z ∈ l.take (i + 1) ↔ z ∈ l.take i ∨ z = l[i] := by
  rw [← take_succ_of h, List.mem_append, List.mem_singleton]
/-- the names on the way up from one, itself first -/
def wayL (l : List Part) : Nat → ByteArray → List ByteArray
  | 0, _ => []
  | k + 1, n => if (findP l n).isSome = true then n :: (if upP l n = nil8 then [] else wayL l k (upP l n)) else []
section
variable {l : List Part} {n s v z : ByteArray} {out : List ByteArray} {k N : Nat}
theorem way_none (hk : ¬ l.length + 1 ≤ out.length) (h : (findP l n).isSome = false) (hq : out ++ wayL l (l.length + 1 - out.length) n = wayL l N s) : wayL l N s = out := by
  rw [← hq]
  obtain ⟨m, hm⟩ : ∃ m, l.length + 1 - out.length = m + 1 := ⟨l.length - out.length, by omega⟩
  rw [hm]; simp [wayL, h]
theorem way_top (hk : ¬ l.length + 1 ≤ out.length) (h : (findP l n).isSome = true) (h0 : upP l n = nil8) (hq : out ++ wayL l (l.length + 1 - out.length) n = wayL l N s) : wayL l N s = out ++ [n] := by
  rw [← hq]
  obtain ⟨m, hm⟩ : ∃ m, l.length + 1 - out.length = m + 1 := ⟨l.length - out.length, by omega⟩
  rw [hm]; simp [wayL, h, h0]
theorem way_next (hk : ¬ l.length + 1 ≤ out.length) (h : (findP l n).isSome = true) (h0 : ¬ upP l n = nil8) (hq : out ++ wayL l (l.length + 1 - out.length) n = wayL l N s) : (out ++ [n]) ++ wayL l (l.length + 1 - (out ++ [n]).length) (upP l n) = wayL l N s := by
  rw [← hq]
  have hm : l.length + 1 - out.length = (l.length + 1 - (out ++ [n]).length) + 1 := by rw [List.length_append, List.length_singleton]; omega
  rw [hm]; simp [wayL, h, h0]
theorem way_end (hk : l.length + 1 ≤ out.length) (hq : out ++ wayL l (l.length + 1 - out.length) n = wayL l N s) : wayL l N s = out := by
  rw [← hq, Nat.sub_eq_zero_of_le hk]; simp [wayL]
/-- on the way: the one, or reached -/
theorem way_mem (hv : (findP l v).isSome = true) : v ∈ wayL l (k + 1) n ↔ (findP l n).isSome = true ∧ (n = v ∨ reachF l v k n = true) := by
  induction k generalizing n with
  | zero =>
    simp only [wayL, reachF]
    split
    · rename_i h
      have e : (if upP l n = nil8 then ([] : List ByteArray) else []) = [] := by split <;> rfl
      rw [e, List.mem_singleton]
      exact ⟨fun h1 => ⟨h, .inl h1.symm⟩, fun h1 => h1.2.elim Eq.symm fun h2 => by cases h2⟩
    · rename_i h; simp [h]
  | succ k ih =>
    rw [wayL]
    split
    · rename_i h
      simp only [h, true_and, List.mem_cons, reachF, Bool.and_eq_true, Bool.or_eq_true, Bool.not_eq_true', decide_eq_true_eq, decide_eq_false_iff_not]
      split
      · rename_i h0
        constructor
        · rintro (h1 | h1)
          · exact .inl h1.symm
          · cases h1
        · rintro (h1 | h1)
          · exact .inl h1.symm
          · exact absurd h0 h1.1
      · rename_i h0
        rw [ih]
        constructor
        · rintro (h1 | ⟨_, h2⟩)
          · exact .inl h1.symm
          · exact .inr ⟨h0, h2⟩
        · rintro (h1 | ⟨_, h2⟩)
          · exact .inl h1.symm
          · refine .inr ⟨?_, h2⟩
            rcases h2 with h2 | h2
            · rw [h2]; exact hv
            · cases k with
              | zero => simp [reachF] at h2
              | succ k =>
                simp only [reachF, Bool.and_eq_true, Bool.not_eq_true', decide_eq_false_iff_not] at h2
                exact up_some h2.1
    · rename_i h
      simp [h]
/-- steps up -/
def itU (l : List Part) (n : ByteArray) : Nat → ByteArray
  | 0 => n
  | k + 1 => upP l (itU l n k)
theorem itU_succ (k : Nat) : itU l n (k + 1) = itU l (upP l n) k := by
  induction k with
  | zero => rfl
  | succ k ih => show upP l (itU l n (k + 1)) = _; rw [ih]; rfl
theorem itU_add (a b : Nat) : itU l n (a + b) = itU l (itU l n a) b := by
  induction b with
  | zero => rfl
  | succ b ih => show upP l (itU l n (a + b)) = _; rw [ih]; rfl
def HitU (l : List Part) (v n : ByteArray) (j : Nat) : Prop := (∀ i, i ≤ j → itU l n (i + 1) ≠ nil8) ∧ itU l n (j + 1) = v
theorem reach_hit : reachF l v k n = true ↔ ∃ j, j < k ∧ HitU l v n j := by
  induction k generalizing n with
  | zero => simp [reachF]
  | succ k ih =>
    simp only [reachF, Bool.and_eq_true, Bool.or_eq_true, Bool.not_eq_true', decide_eq_true_eq, decide_eq_false_iff_not]
    constructor
    · rintro ⟨h0, h | h⟩
      · exact ⟨0, Nat.succ_pos _, fun i hi => by rw [Nat.le_zero.1 hi]; exact h0, h⟩
      · obtain ⟨j, hj, h1, h2⟩ := ih.1 h
        refine ⟨j + 1, by omega, fun i hi => ?_, by rw [itU_succ]; exact h2⟩
        cases i with
        | zero => exact h0
        | succ i => rw [itU_succ]; exact h1 i (by omega)
    · rintro ⟨j, hj, h1, h2⟩
      refine ⟨h1 0 (Nat.zero_le _), ?_⟩
      cases j with
      | zero => exact .inl h2
      | succ j => exact .inr (ih.2 ⟨j, by omega, fun i hi => by rw [← itU_succ]; exact h1 (i + 1) (by omega), by rw [← itU_succ]; exact h2⟩)
/-- the least number of steps is not more than the number of parts -/
theorem hit_least {j : Nat} (h : HitU l v n j) : ∃ j', j' < l.length ∧ HitU l v n j' := by
  induction j using Nat.strongRecOn with
  | ind j ih =>
    by_cases hd : ∃ a b, a < b ∧ b ≤ j ∧ itU l n a = itU l n b
    · obtain ⟨a, b, hab, hbj, e⟩ := hd
      have hs : ∀ c, itU l n (a + c) = itU l n (b + c) := fun c => by rw [itU_add, itU_add, e]
      refine ih (j - (b - a)) (by omega) ⟨fun i hi => ?_, ?_⟩
      · exact h.1 i (by omega)
      · have h2 := hs (j + 1 - b)
        rw [show a + (j + 1 - b) = j - (b - a) + 1 by omega, show b + (j + 1 - b) = j + 1 by omega] at h2
        rw [h2]; exact h.2
    · refine ⟨j, ?_, h⟩
      have hn : ((List.range (j + 1)).map (itU l n)).Nodup := by
        rw [List.nodup_iff_pairwise_ne, List.pairwise_map]
        refine List.Pairwise.imp_of_mem (fun {a b} ha hb hlt e => ?_) (List.pairwise_lt_range (n := j + 1))
        rw [List.mem_range] at ha hb
        exact hd ⟨a, b, hlt, by omega, e⟩
      have hsub : ((List.range (j + 1)).map (itU l n)) ⊆ l.map Part.name := fun x hx => by
        obtain ⟨i, hi, rfl⟩ := List.mem_map.1 hx
        have h1 := up_some (h.1 i (by have := List.mem_range.1 hi; omega))
        obtain ⟨p, hp⟩ := Option.isSome_iff_exists.1 h1
        have hpn : p.name = itU l n i := by simpa using List.find?_some hp
        exact List.mem_map.2 ⟨p, find_mem hp, hpn⟩
      have h3 := hn.length_le_of_subset hsub
      rw [List.length_map, List.length_map, List.length_range] at h3
      omega
theorem find_named {p : Part} (h : p ∈ l) : (findP l p.name).isSome = true := by
  unfold findP
  rw [List.find?_isSome]; exact ⟨p, h, by simp⟩
theorem ins_is (hv : (findP l v).isSome = true) : InsP l v n ↔ (∃ p ∈ l, p.name = n ∧ p.name ≠ v ∧ v ∈ wayL l (l.length + 1) p.name) := by
  constructor
  · rintro ⟨⟨_, h2, h3⟩, k, hk⟩
    obtain ⟨p, hp⟩ := Option.isSome_iff_exists.1 h2
    have hpn : p.name = n := by simpa using List.find?_some hp
    refine ⟨p, find_mem hp, hpn, by rw [hpn]; exact h3, ?_⟩
    rw [way_mem hv, hpn]
    obtain ⟨j, _, hj⟩ := reach_hit.1 hk
    obtain ⟨j', h4, h5⟩ := hit_least hj
    exact ⟨h2, .inr (reach_hit.2 ⟨j', h4, h5⟩)⟩
  · rintro ⟨p, hp, rfl, h1, h2⟩
    rw [way_mem hv] at h2
    refine ⟨⟨hv, find_named hp, h1⟩, l.length, ?_⟩
    rcases h2.2 with h3 | h3
    · exact absurd h3 h1
    · exact h3
def insR (l : List Part) (v : ByteArray) (p : Part) : Prop := p.name ≠ v ∧ v ∈ wayL l (l.length + 1) p.name
theorem insR_skip {i : Nat} {ns : List ByteArray} (hi : i < l.length) (h : ∀ z, z ∈ ns ↔ ∃ p ∈ l.take i, p.name = z ∧ insR l v p) (hn : ¬ insR l v l[i]) : ∀ z, z ∈ ns ↔ ∃ p ∈ l.take (i + 1), p.name = z ∧ insR l v p := fun z => by
  rw [h z]
  constructor
  · rintro ⟨p, hp, h1⟩; exact ⟨p, (tk_mem hi).2 (.inl hp), h1⟩
  · rintro ⟨p, hp, h1, h2⟩
    rcases (tk_mem hi).1 hp with hp | rfl
    · exact ⟨p, hp, h1, h2⟩
    · exact absurd h2 hn
theorem insR_add {i : Nat} {ns ns2 : List ByteArray} (hi : i < l.length) (h : ∀ z, z ∈ ns ↔ ∃ p ∈ l.take i, p.name = z ∧ insR l v p) (h2 : ∀ z, z ∈ ns2 ↔ z ∈ ns ∨ z = l[i].name) (hn : insR l v l[i]) : ∀ z, z ∈ ns2 ↔ ∃ p ∈ l.take (i + 1), p.name = z ∧ insR l v p := fun z => by
  rw [h2 z, h z]
  constructor
  · rintro (⟨p, hp, h1⟩ | rfl)
    · exact ⟨p, (tk_mem hi).2 (.inl hp), h1⟩
    · exact ⟨l[i], (tk_mem hi).2 (.inr rfl), rfl, hn⟩
  · rintro ⟨p, hp, h1, h3⟩
    rcases (tk_mem hi).1 hp with hp | rfl
    · exact .inl ⟨p, hp, h1, h3⟩
    · exact .inr h1.symm
theorem insR_all {ns : List ByteArray} (hv : (findP l v).isSome = true) (h : ∀ z, z ∈ ns ↔ ∃ p ∈ l.take l.length, p.name = z ∧ insR l v p) : ∀ z, z ∈ ns ↔ InsP l v z := fun z => by
  rw [h z, List.take_length, ins_is hv]; rfl
end
/-! a use -/
def addLf (d : Ivl) (u : Use) (x : Life) : Life := ⟨addI x.km u.km, addI x.cycles u.cycles, addI x.damage d⟩
section
variable {p : Part} {s : ByteArray} {day : Int}
theorem curR_rest (h1 : ¬ s = sKm) (h2 : ¬ s = sCycles) (h3 : ¬ s = sDamage) : curI p s day = sinceI day (if s = sDays then p.since else p.made) := by
  unfold curI
  rw [if_neg h1, if_neg h2, if_neg h3]
  split <;> rfl
end
section
variable {st : List Part} {e : Evt} {d : Ivl} {i : Nat} {ns : List ByteArray}
theorem useR_yes (hi : i < st.length) (hn : ∀ n, n ∈ ns ↔ InsP st e.part n) (h : (decide (st[i].name = e.part) || decide (st[i].name ∈ ns)) = true) : (useL st e d)[i]'(by rw [use_len]; exact hi) = addLife d e.use st[i] :=
  use_yes' hi hn (by simpa [or_comm] using h)
theorem useR_no (hi : i < st.length) (hn : ∀ n, n ∈ ns ↔ InsP st e.part n) (h : (decide (st[i].name = e.part) || decide (st[i].name ∈ ns)) = false) : (useL st e d)[i]'(by rw [use_len]; exact hi) = st[i] :=
  use_no' hi hn (by
    simp only [Bool.or_eq_false_iff, decide_eq_false_iff_not] at h
    simp [h.1, h.2])
end
end Go.Sx

