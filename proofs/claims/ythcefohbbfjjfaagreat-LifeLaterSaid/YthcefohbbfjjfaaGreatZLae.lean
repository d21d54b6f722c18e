/- The library of a symbolic run and the walks: merged. -/
import Derived.Test.YthcefohbbfjjfaaGreatZLad
/- Walks, printed by a program out of the code of the functions: each theorem is a contract of one function. -/
namespace Go.Proofs.YthcefohbbfjjfaaGreat
open Go Go.Sx
set_option linter.all false
set_option maxRecDepth 20000
set_option maxHeartbeats 4000000
theorem T.eqg_32 : Tryz.prog.eqGuardType Tryz.prog.depth 32 = false := by kernel_rfl
instance T.pl_27 : Has (plK Tryz.prog 27) [(0, 1), (1, 1), (2, 1)] := ⟨by kernel_rfl⟩
instance T.pl_29 : Has (plK Tryz.prog 29) [(0, 1), (1, 3)] := ⟨by kernel_rfl⟩
instance T.ty_29 : Has (tyK Tryz.prog 29) (true, 4) := ⟨by kernel_rfl⟩
instance T.zero_29 : Has (zeroK Tryz.prog 29) [.slice none 0 0, .int .i64 0, .int .i64 0, .slice none 0 0] := ⟨by kernel_rfl⟩
theorem ref07Nodes_step (I : IMap) (N : Nat) (ih : ∀ (f : Fm), cntN f ≤ N → ∀ vs, FmRd I vs f → ∀ m : Int, 0 ≤ m → m ≤ 1000 → FnV Tryz.prog 100 #[.agg vs.toArray, .int .i64 (m)] I (.int .i64 (nodesF f m))) (f : Fm) (hN : cntN f ≤ N + 1) (vs : List Value) (hr : FmRd I vs f) (m : Int) (h0 : 0 ≤ m) (h1 : m ≤ 1000) :
    FnV Tryz.prog 100 #[.agg vs.toArray, .int .i64 (m)] I (.int .i64 (nodesF f m)) := by
 obtain ⟨s, rfl, hs⟩ := fm_out hr
 obtain ⟨A, c0, rfl, hA, hc, hm⟩ := hs
 refine enter Tryz.func100 Tryz.call100 rfl Tryz.ntmps100 rfl (fun w0 => ?_)
 refine go 3 ?_
 refine o_box _ rfl rfl rfl (fun g2 => ?_)
 refine go 15 ?_
 refine c_loop2 ((0 : Nat)) ((1 : Int)) (fun i n => I)
  (fun i n => [(1, .int .i64 (m)), (2, .pointer (some ⟨g2, 0, none⟩)), (5, .int .i64 (n)), (6, .int .i64 ((i : Nat) : Int))])
  (fun i n => [.blk g2 27 [ci f.op, ci f.n, .slice A f.kids.length c0]])
  (fun i n => i ≤ f.kids.length ∧ (1 ≤ n ∧ n ≤ m + 1) ∧ nodesL (f.kids.drop i) n m = nodesF f m)
  (fun i n => f.kids.length - i) ⟨Nat.zero_le _, ⟨by omega, by omega⟩, nodes_start⟩ rfl sb rfl ?_
 intro i n ⟨hi, hn, hq⟩
 refine go 9 ?_
 refine sxb 12 rfl (fun h12 p12 => ?_) (fun h12 p12 => ?_)
 ·have hlt : i < f.kids.length := by omega
  refine go 6 ?_
  refine cb rfl (fun h16 p16 => ?_) (fun h16 p16 => ?_)
  ·have hkn := nodes_in f.kids[i] (m - n) (by omega)
   refine go 9 ?_
   obtain ⟨b23, o23, w23, e23, c23, r23⟩ := RdA.at_ hA (i := i) (by omega)
   replace r23 := fm_out r23
   obtain ⟨s23, rfl, hs23⟩ := r23
   refine o_v rfl (v_idx he rfl rfl e23 (i) (by omega) (by omega)) ?_
   refine o_v rfl (v_ldIa he rfl c23 rfl) ?_
   refine go 4 ?_
   refine o_callV (ih f.kids[i] (by have := cnt_kid (List.getElem_mem hlt); omega) _ (fm_back hs23) _ (by omega) (by omega)) rfl rfl ?_
   refine go 11 ?_
   exact q_next2 (i + 1) (_) ⟨by omega, by omega, nodes_step hlt hq (by omega)⟩ (by omega) rfl sb rfl
  ·refine go 12 ?_
   refine fin1 rfl rfl ?_
   exact q_v (congrArg (Value.int .i64) (nodes_stop hlt hq (by omega)))
 ·refine go 6 ?_
  refine c_false rfl ?_
  refine go 12 ?_
  refine fin1 rfl rfl ?_
  exact q_v (congrArg (Value.int .i64) (nodes_end (by omega) hq))

theorem ref07Nodes (I : IMap) (f : Fm) (vs : List Value) (hr : FmRd I vs f) (m : Int) (h0 : 0 ≤ m) (h1 : m ≤ 1000) : FnV Tryz.prog 100 #[.agg vs.toArray, .int .i64 (m)] I (.int .i64 (nodesF f m)) := by
  have key : ∀ (N : Nat), ∀ (f : Fm), cntN f ≤ N → ∀ vs, FmRd I vs f → ∀ m : Int, 0 ≤ m → m ≤ 1000 → FnV Tryz.prog 100 #[.agg vs.toArray, .int .i64 (m)] I (.int .i64 (nodesF f m)) := by
    intro N
    induction N with
    | zero => intro f hN; exact absurd hN (by cases f; simp [cntN])
    | succ N ih => intro f hN vs hr m h0 h1; exact ref07Nodes_step I N ih f hN vs hr m h0 h1
  exact key (cntN f) f (Nat.le_refl _) vs hr m h0 h1

theorem ref07Few (I : IMap) (f : Fm) (vs : List Value) (hr : FmRd I vs f) :
    FnV Tryz.prog 58 #[.agg vs.toArray] I (.bool (decide (nodesF f 80 ≤ 80))) := by
 have hl := Enc.len (α := Fm) hr
 refine enter Tryz.func58 Tryz.call58 rfl Tryz.ntmps58 rfl (fun w0 => ?_)
 refine go 3 ?_
 refine o_box _ rfl rfl rfl (fun g1 => ?_)
 refine go 5 ?_
 refine o_v rfl (v_ldw m0 he rfl hl) ?_
 refine go 1 ?_
 refine o_callV (ref07Nodes _ f _ hr 80 (by omega) (by omega)) rfl rfl ?_
 refine go 5 ?_
 refine fin1 rfl rfl ?_
 exact q_v rfl

theorem ref12Few (I : IMap) (vc : Value) (c : List Kind) (hvc : RdS I vc c) (f : Fm) (sf : Value) (hf : FmRd I [ci f.op, ci f.n, sf] f) (v : Value) (l : List Evt) (hv : RdS I v l) (n : Int) :
    FnV Tryz.prog 30 #[.agg #[vc, ci f.op, ci f.n, sf], v, .int .i64 (n)] I (.bool (few12 c f l n)) := by
 have hv0 := hv
 obtain ⟨A, c0, rfl, hA, hc, hm⟩ := hv
 refine enter Tryz.func30 Tryz.call30 rfl Tryz.ntmps30 rfl (fun w0 => ?_)
 refine go 3 ?_
 refine o_box _ rfl rfl rfl (fun g3 => ?_)
 refine go 5 ?_
 refine c_cut (I' := I) (L' := [(1, .slice A l.length c0), (24, .bool (bad12 c f l n))]) (H' := []) ?_ ?_
 ·refine go 6 ?_
  refine sxb 13 rfl (fun h13 p13 => ?_) (fun h13 p13 => ?_)
  ·refine go 13 ?_
   refine sx_drop ?_
   exact q_cut ⟨rfl, (congrArg (fun b => some (Value.bool b)) (by simp only [bad12, h13, bS])), trivial⟩ rfl rfl
  ·refine go 1 ?_
   refine o_cons (o_yes rfl rfl h13 (o_val rfl (v_ldp ([vc]) m0 he rfl rfl rfl) ?_))
   refine go 1 ?_
   refine o_yes rfl rfl h13 (o_callV (refFew _ vc c hvc) rfl rfl ?_)
   refine go 3 ?_
   refine sxb 19 rfl (fun h19 p19 => ?_) (fun h19 p19 => ?_)
   ·refine go 7 ?_
    refine sx_drop ?_
    exact q_cut ⟨rfl, (congrArg (fun b => some (Value.bool b)) (by simp only [bad12, h13, h19, bS])), trivial⟩ rfl rfl
   ·refine go 1 ?_
    refine o_cons (o_yes rfl rfl h19 (o_val rfl (v_ldp ([ci f.op, ci f.n, sf]) m0 he rfl rfl rfl) ?_))
    refine go 1 ?_
    refine o_yes rfl rfl h19 (o_callV (ref07Few _ f _ hf) rfl rfl ?_)
    refine go 4 ?_
    refine sx_drop ?_
    exact q_cut ⟨rfl, (congrArg (fun b => some (Value.bool b)) (by simp only [bad12, h13, h19, bS])), trivial⟩ rfl rfl
 ·refine cb rfl (fun h24 p24 => ?_) (fun h24 p24 => ?_)
  ·refine go 7 ?_
   refine fin1 rfl rfl ?_
   exact q_v (congrArg Value.bool (by simp only [few12, h24]; rfl))
  ·refine go 9 ?_
   refine c_loop (α := Nat) 0 (fun i => I)
    (fun i => [(1, .slice A l.length c0), (7, .int .i64 ((i : Nat) : Int))])
    (fun i => [])
    (fun i => i ≤ l.length ∧ allP (fun _ e => short12 e) l i = true)
    (fun i => l.length - i) ⟨Nat.zero_le _, rfl⟩ rfl sb rfl ?_
   intro i ⟨hi, hn⟩
   refine go 9 ?_
   refine cb rfl (fun h28 p28 => ?_) (fun h28 p28 => ?_)
   ·have hlt : i < l.length := by omega
    refine go 8 ?_
    obtain ⟨b33, o33, w33, e33, c33, r33⟩ := RdA.at_ hA (i := i) (by omega)
    obtain rfl := r33
    refine o_v rfl (v_idx he rfl rfl e33 (i) (by omega) (by omega)) ?_
    refine o_v rfl (v_ldIa he rfl c33 rfl) ?_
    refine go 1 ?_
    refine o_alloc he rfl (fun g8 => ?_)
    refine go 1 ?_
    refine o_stw _ he rfl rfl rfl rfl rfl rfl ?_
    refine go 3 ?_
    refine c_cut (I' := I) (L' := [(1, .slice A l.length c0), (7, .int .i64 ((i : Nat) : Int)), (68, .bool (!short12 l[i]))]) (H' := []) ?_ ?_
    ·refine go 6 ?_
     refine sxb 39 rfl (fun h39 p39 => ?_) (fun h39 p39 => ?_)
     ·refine go 31 ?_
      refine sx_drop ?_
      exact q_cut ⟨rfl, rfl, (congrArg (fun b => some (Value.bool b)) (by simp only [short12, Bool.not_not, h28, h39, bS])), trivial⟩ rfl rfl
     ·refine go 6 ?_
      refine sxb 45 rfl (fun h45 p45 => ?_) (fun h45 p45 => ?_)
      ·refine go 25 ?_
       refine sx_drop ?_
       exact q_cut ⟨rfl, rfl, (congrArg (fun b => some (Value.bool b)) (by simp only [short12, Bool.not_not, h28, h39, h45, bS])), trivial⟩ rfl rfl
      ·refine go 6 ?_
       refine sxb 51 rfl (fun h51 p51 => ?_) (fun h51 p51 => ?_)
       ·refine go 19 ?_
        refine sx_drop ?_
        exact q_cut ⟨rfl, rfl, (congrArg (fun b => some (Value.bool b)) (by simp only [short12, Bool.not_not, h28, h39, h45, h51, bS])), trivial⟩ rfl rfl
       ·refine go 6 ?_
        refine sxb 57 rfl (fun h57 p57 => ?_) (fun h57 p57 => ?_)
        ·refine go 13 ?_
         refine sx_drop ?_
         exact q_cut ⟨rfl, rfl, (congrArg (fun b => some (Value.bool b)) (by simp only [short12, Bool.not_not, h28, h39, h45, h51, h57, bS])), trivial⟩ rfl rfl
        ·refine go 6 ?_
         refine sxb 63 rfl (fun h63 p63 => ?_) (fun h63 p63 => ?_)
         ·refine go 7 ?_
          refine sx_drop ?_
          exact q_cut ⟨rfl, rfl, (congrArg (fun b => some (Value.bool b)) (by simp only [short12, Bool.not_not, h28, h39, h45, h51, h57, h63, bS])), trivial⟩ rfl rfl
         ·refine go 7 ?_
          refine sx_drop ?_
          exact q_cut ⟨rfl, rfl, (congrArg (fun b => some (Value.bool b)) (by simp only [short12, Bool.not_not, h28, h39, h45, h51, h57, h63, bS])), trivial⟩ rfl rfl
    ·refine cb rfl (fun h68 p68 => ?_) (fun h68 p68 => ?_)
     ·refine go 11 ?_
      refine fin1 rfl rfl ?_
      exact q_v (congrArg Value.bool (by simp only [few12, allP_not (f := fun _ e => short12 e) hlt (by simpa using h68)]; simp))
     ·refine go 9 ?_
      exact q_next (i + 1) ⟨by omega, allP_succ (f := fun _ e => short12 e) hn hlt (by simpa using h68)⟩ (by omega) rfl sb rfl
   ·refine go 11 ?_
    refine fin1 rfl rfl ?_
    have e : i = l.length := (by omega)
    subst e
    exact q_v (congrArg Value.bool (by simp only [few12, h24, hn]; rfl))

theorem law12few (I : IMap) (vc : Value) (c : List Kind) (hvc : RdS I vc c) (f : Fm) (sf : Value) (hf : FmRd I [ci f.op, ci f.n, sf] f) (v : Value) (l : List Evt) (hv : RdS I v l) :
    FnV Tryz.prog 10 #[.agg #[vc, ci f.op, ci f.n, sf], v] I (.bool (few12 c f l 24)) := by
 refine enter Tryz.func10 Tryz.call10 rfl Tryz.ntmps10 rfl (fun w0 => ?_)
 refine go 3 ?_
 refine o_box _ rfl rfl rfl (fun g2 => ?_)
 refine go 8 ?_
 refine o_callV (ref12Few _ vc c hvc f sf hf v l hv 24) rfl rfl ?_
 refine go 4 ?_
 refine fin1 rfl rfl ?_
 exact q_v rfl

theorem flFind (I : IMap) (v : Value) (l : List Part) (hv : RdS I v l) (s : ByteArray) :
    FnE Tryz.prog 23 #[.agg #[v], .string s] I (PartIs I (findP l s)) := by
 have hv0 := hv
 obtain ⟨A, c0, rfl, hA, hc, hm⟩ := hv
 refine enter Tryz.func23 Tryz.call23 rfl Tryz.ntmps23 rfl (fun w0 => ?_)
 refine go 3 ?_
 refine o_box _ rfl rfl rfl (fun g2 => ?_)
 refine go 1 ?_
 refine o_alloc he rfl (fun g4 => ?_)
 refine go 13 ?_
 refine bring1 ?_
 refine sx_drop ?_
 refine c_loop (α := Nat) 0 (fun i => I)
  (fun i => [(1, .string s), (4, .pointer (some ⟨g4, 0, none⟩)), (9, .slice A l.length c0), (10, .int .i64 (l.length : Int)), (11, .int .i64 ((i : Nat) : Int))])
  (fun i => [.blk g4 49 [.string ⟨#[]⟩, .string ⟨#[]⟩, .string ⟨#[]⟩, .string ⟨#[]⟩, .int .i64 0, .int .i64 0, .bool false, .slice none 0 0, .int .i64 0, .int .i64 0, .int .i64 0, .int .i64 0, .int .i64 0, .int .i64 0]])
  (fun i => i ≤ l.length ∧ findP (l.drop i) s = findP l s)
  (fun i => l.length - i) ⟨Nat.zero_le _, rfl⟩ rfl sb rfl ?_
 intro i ⟨hi, hn⟩
 refine go 6 ?_
 refine cb rfl (fun h12 p12 => ?_) (fun h12 p12 => ?_)
 ·have hlt : i < l.length := by omega
  refine go 6 ?_
  obtain ⟨b13, o13, w13, e13, c13, r13⟩ := RdA.at_ hA (i := i) hlt
  obtain ⟨q13, rfl, B13, d13, rfl, hB13, hd13, hm13⟩ := r13
  refine o_v rfl (v_idx he rfl rfl e13 (i) (by omega) hlt) ?_
  refine o_v rfl (v_ldIa he rfl c13 rfl) ?_
  refine go 1 ?_
  refine o_alloc he rfl (fun g7 => ?_)
  refine go 1 ?_
  refine o_stw _ he rfl rfl rfl rfl rfl rfl ?_
  refine go 10 ?_
  refine cb rfl (fun h18 p18 => ?_) (fun h18 p18 => ?_)
  ·refine go 4 ?_
   refine bring1 ?_
   refine o_stw _ he rfl rfl rfl rfl rfl rfl ?_
   refine go 9 ?_
   refine fin2 rfl ⟨_, _, _, rfl, m0, .inr ⟨_, he, rfl, rfl⟩⟩ rfl ?_
   exact q_e (PartIs.of (find_hit hlt hn p18) ⟨_, rfl, B13, d13, rfl, hB13, hd13, hm13⟩)
  ·refine go 8 ?_
   refine sx_drop ?_
   exact q_next (i + 1) ⟨by omega, find_step hlt hn p18⟩ (by omega) rfl sb rfl
 ·refine go 8 ?_
  refine o_val rfl (v_build (pl := [(0, 1), (1, 1), (2, 1), (3, 1), (4, 1), (5, 1), (6, 1), (7, 1), (8, 6)]) he he rfl rfl) ?_
  refine go 1 ?_
  refine o_stw _ he rfl rfl rfl rfl rfl rfl ?_
  refine go 4 ?_
  refine fin2 rfl ⟨_, _, _, rfl, m0, .inr ⟨_, he, rfl, rfl⟩⟩ rfl ?_
  exact q_e (PartIs.none (find_end (by omega) hn))

theorem equal_Prp (I : IMap) (v : Value) (l : List Prp) (hv : RdS I v l) (v2 : Value) (m : List Prp) (hv2 : RdS I v2 m) :
    FnV Tryz.prog 56 #[v, v2] I (.bool (decide (l = m))) := by
 obtain ⟨A, c0, rfl, hA, hc, hm⟩ := hv
 obtain ⟨B, c1, rfl, hB, hc1, hm1⟩ := hv2
 refine enter Tryz.func56 Tryz.call56 rfl Tryz.ntmps56 rfl (fun w0 => ?_)
 refine go 15 ?_
 refine cb rfl (fun h10 p10 => ?_) (fun h10 p10 => ?_)
 ·refine go 7 ?_
  refine fin1 rfl rfl ?_
  exact q_v (congrArg Value.bool (decide_eq_false (by rintro rfl; revert h10; simp)).symm)
 ·have hlm : l.length = m.length := by revert h10; simp; omega
  refine go 11 ?_
  refine c_loop (α := Nat) 0 (fun i => I)
   (fun i => [(0, .slice A l.length c0), (1, .slice B m.length c1), (12, .int .i64 ((l.length : Nat) : Int)), (13, .int .i64 ((i : Nat) : Int))])
   (fun i => [])
   (fun i => i ≤ l.length ∧ l.take i = m.take i)
   (fun i => l.length - i) ⟨Nat.zero_le _, rfl⟩ rfl sb rfl ?_
  intro i ⟨hi, hn⟩
  refine go 6 ?_
  refine cb rfl (fun h14 p14 => ?_) (fun h14 p14 => ?_)
  ·have hlt : i < l.length := by omega
   refine go 11 ?_
   refine d_startH T.mixed ?_
   refine d_tv 0 rfl rfl (by kernel_rfl) rfl .slnil rfl (v_move rfl) ?_
   refine d_tv 1 rfl rfl (by kernel_rfl) rfl .slnil rfl (v_move rfl) ?_
   obtain ⟨b18, o18, w18, e18, c18, r18⟩ := RdA.at_ hA (i := i) hlt
   obtain rfl := r18
   refine d_tv 2 rfl rfl (by kernel_rfl) rfl .slnil rfl (v_idx he rfl rfl e18 (i) (by omega) hlt) ?_
   refine d_tv 3 rfl rfl (by kernel_rfl) rfl .slnil rfl (v_ldIa he rfl c18 rfl) ?_
   refine d_tv 4 rfl rfl (by kernel_rfl) rfl .slnil rfl (v_move rfl) ?_
   refine d_tv 5 rfl rfl (by kernel_rfl) rfl .slnil rfl (v_move rfl) ?_
   obtain ⟨b22, o22, w22, e22, c22, r22⟩ := RdA.at_ hB (i := i) (by omega)
   obtain rfl := r22
   refine d_tv 6 rfl rfl (by kernel_rfl) rfl .slnil rfl (v_idx he rfl rfl e22 (i) (by omega) (by omega)) ?_
   refine d_tv 7 rfl rfl (by kernel_rfl) rfl .slnil rfl (v_ldIa he rfl c22 rfl) ?_
   refine d_tv 8 rfl rfl (by kernel_rfl) rfl .slnil rfl (v_stneq T.eqg_87 (eqS_Prp l[i] m[i]) rfl rfl) ?_
   refine d_done (by kernel_rfl) ?_
   refine go 1 ?_
   refine cb rfl (fun h24 p24 => ?_) (fun h24 p24 => ?_)
   ·refine go 11 ?_
    refine fin1 rfl rfl ?_
    exact q_v (congrArg Value.bool (same_no hlt (by omega) (by simpa using h24)).symm)
   ·refine go 8 ?_
    exact q_next (i + 1) ⟨by omega, same_next hlt (by omega) hn (by simpa using h24)⟩ (by omega) rfl sb rfl
  ·refine go 11 ?_
   refine fin1 rfl rfl ?_
   exact q_v (congrArg Value.bool (decide_eq_true (same_end hlm (by omega) hn)).symm)

theorem flSame1 (I : IMap) (x y : Part) (vx vy : Value) (hx : RdS I vx x.props) (hy : RdS I vy y.props) :
    FnV Tryz.prog 55 #[.agg (x.cells vx).toArray, .agg (y.cells vy).toArray] I (.bool (sameB x y)) := by
 refine enter Tryz.func55 Tryz.call55 rfl Tryz.ntmps55 rfl (fun w0 => ?_)
 refine go 3 ?_
 refine o_box _ rfl rfl rfl (fun g2 => ?_)
 refine go 1 ?_
 refine o_box _ rfl rfl rfl (fun g3 => ?_)
 refine go 10 ?_
 refine o_callV (equal_Prp _ _ _ hx _ _ hy) rfl rfl ?_
 refine go 7 ?_
 refine sxb 12 rfl (fun h12 p12 => ?_) (fun h12 p12 => ?_)
 ·refine go 7 ?_
  refine sxb 19 rfl (fun h19 p19 => ?_) (fun h19 p19 => ?_)
  ·refine go 7 ?_
   refine sxb 26 rfl (fun h26 p26 => ?_) (fun h26 p26 => ?_)
   ·refine go 7 ?_
    refine sxb 33 rfl (fun h33 p33 => ?_) (fun h33 p33 => ?_)
    ·refine go 7 ?_
     refine sxb 40 rfl (fun h40 p40 => ?_) (fun h40 p40 => ?_)
     ·refine go 7 ?_
      refine sxb 47 rfl (fun h47 p47 => ?_) (fun h47 p47 => ?_)
      ·refine go 7 ?_
       refine sxb 54 rfl (fun h54 p54 => ?_) (fun h54 p54 => ?_)
       ·refine go 4 ?_
        refine o_cons (o_yes rfl rfl h54 (o_val rfl (v_beql he rfl rfl) ?_))
        refine go 2 ?_
        refine sxb 61 rfl (fun h61 p61 => ?_) (fun h61 p61 => ?_)
        ·refine go 1 ?_
         refine o_cons (o_yes rfl rfl h61 (o_val rfl (v_ldp (x.life.cells) m1 he rfl rfl rfl) ?_))
         refine go 1 ?_
         refine o_cons (o_yes rfl rfl h61 (o_val rfl (v_ldp (y.life.cells) m0 he rfl rfl rfl) ?_))
         refine o_cons (o_yes rfl rfl h61 (o_val rfl (v_steql T.eqg_47 (eqS_Life x.life y.life) rfl rfl) ?_))
         refine go 5 ?_
         refine fin1 rfl rfl ?_
         exact q_v (congrArg Value.bool (by simp only [sameB, h12, h19, h26, h33, h40, h47, h54, h61, bS]))
        ·refine go 10 ?_
         refine fin1 rfl rfl ?_
         exact q_v (congrArg Value.bool (by simp only [sameB, h12, h19, h26, h33, h40, h47, h54, h61, bS]))
       ·refine go 17 ?_
        refine fin1 rfl rfl ?_
        exact q_v (congrArg Value.bool (by simp only [sameB, h12, h19, h26, h33, h40, h47, h54, bS]))
      ·refine go 24 ?_
       refine fin1 rfl rfl ?_
       exact q_v (congrArg Value.bool (by simp only [sameB, h12, h19, h26, h33, h40, h47, bS]))
     ·refine go 31 ?_
      refine fin1 rfl rfl ?_
      exact q_v (congrArg Value.bool (by simp only [sameB, h12, h19, h26, h33, h40, bS]))
    ·refine go 38 ?_
     refine fin1 rfl rfl ?_
     exact q_v (congrArg Value.bool (by simp only [sameB, h12, h19, h26, h33, bS]))
   ·refine go 45 ?_
    refine fin1 rfl rfl ?_
    exact q_v (congrArg Value.bool (by simp only [sameB, h12, h19, h26, bS]))
  ·refine go 52 ?_
   refine fin1 rfl rfl ?_
   exact q_v (congrArg Value.bool (by simp only [sameB, h12, h19, bS]))
 ·refine go 59 ?_
  refine fin1 rfl rfl ?_
  exact q_v (congrArg Value.bool (by simp only [sameB, h12, bS]))

theorem equalF_Part (I : IMap) (v : Value) (l : List Part) (hv : RdS I v l) (v2 : Value) (m : List Part) (hv2 : RdS I v2 m) (g : FuncId) (hg : ∀ (x y : Part) (vx vy : Value), RdS I vx x.props → RdS I vy y.props → FnV Tryz.prog g #[.agg (x.cells vx).toArray, .agg (y.cells vy).toArray] I (.bool (decide (x = y)))) :
    FnV Tryz.prog 54 #[v, v2, .func (.func g) #[] #[]] I (.bool (decide (l = m))) := by
 obtain ⟨A, c0, rfl, hA, hc, hm⟩ := hv
 obtain ⟨B, c1, rfl, hB, hc1, hm1⟩ := hv2
 refine enter Tryz.func54 Tryz.call54 rfl Tryz.ntmps54 rfl (fun w0 => ?_)
 refine go 15 ?_
 refine cb rfl (fun h14 p14 => ?_) (fun h14 p14 => ?_)
 ·refine go 7 ?_
  refine fin1 rfl rfl ?_
  exact q_v (congrArg Value.bool (decide_eq_false (by rintro rfl; revert h14; simp)).symm)
 ·have hlm : l.length = m.length := by revert h14; simp; omega
  refine go 11 ?_
  refine c_loop (α := Nat) 0 (fun i => I)
   (fun i => [(1, .slice B m.length c1), (2, .func (.func g) #[] #[]), (15, .slice A l.length c0), (16, .int .i64 ((l.length : Nat) : Int)), (17, .int .i64 ((i : Nat) : Int))])
   (fun i => [])
   (fun i => i ≤ l.length ∧ l.take i = m.take i)
   (fun i => l.length - i) ⟨Nat.zero_le _, rfl⟩ rfl sb rfl ?_
  intro i ⟨hi, hn⟩
  refine go 6 ?_
  refine cb rfl (fun h18 p18 => ?_) (fun h18 p18 => ?_)
  ·have hlt : i < l.length := by omega
   refine go 7 ?_
   obtain ⟨b20, o20, w20, e20, c20, r20⟩ := RdA.at_ hA (i := i) hlt
   obtain ⟨vx, rfl, hvx⟩ := r20
   refine o_v rfl (v_idx he rfl rfl e20 (i) (by omega) hlt) ?_
   refine o_v rfl (v_ldIa he rfl c20 rfl) ?_
   refine go 1 ?_
   refine o_alloc he rfl (fun g8 => ?_)
   refine go 2 ?_
   refine o_stw _ he rfl rfl rfl rfl rfl (Enc.one (α := Part) (x := l[i]) ⟨vx, rfl, hvx⟩) ?_
   refine go 6 ?_
   obtain ⟨b24, o24, w24, e24, c24, r24⟩ := RdA.at_ hB (i := i) (by omega)
   obtain ⟨vy, rfl, hvy⟩ := r24
   refine o_v rfl (v_idx he rfl rfl e24 (i) (by omega) (by omega)) ?_
   refine o_v rfl (v_ldIa he rfl c24 rfl) ?_
   refine go 1 ?_
   refine o_alloc he rfl (fun g9 => ?_)
   refine go 1 ?_
   refine o_stw _ he rfl rfl rfl rfl rfl (Enc.one (α := Part) (x := m[i]'(by omega)) ⟨vy, rfl, hvy⟩) ?_
   refine go 8 ?_
   refine o_callV (hg _ _ _ _ hvx hvy) rfl rfl ?_
   refine go 3 ?_
   refine cb rfl (fun h30 p30 => ?_) (fun h30 p30 => ?_)
   ·refine go 11 ?_
    refine fin1 rfl rfl ?_
    exact q_v (congrArg Value.bool (same_no hlt (by omega) (by simpa using h30)).symm)
   ·refine go 8 ?_
    refine sx_drop ?_
    refine sx_drop ?_
    exact q_next (i + 1) ⟨by omega, same_next hlt (by omega) hn (by simpa using h30)⟩ (by omega) rfl sb rfl
  ·refine go 11 ?_
   refine fin1 rfl rfl ?_
   exact q_v (congrArg Value.bool (decide_eq_true (same_end hlm (by omega) hn)).symm)

theorem flSame (I : IMap) (v : Value) (l : List Part) (hv : RdS I v l) (v2 : Value) (m : List Part) (hv2 : RdS I v2 m) :
    FnV Tryz.prog 27 #[.agg #[v], .agg #[v2]] I (.bool (decide (l = m))) := by
 refine enter Tryz.func27 Tryz.call27 rfl Tryz.ntmps27 rfl (fun w0 => ?_)
 refine go 3 ?_
 refine o_box _ rfl rfl rfl (fun g2 => ?_)
 refine go 1 ?_
 refine o_box _ rfl rfl rfl (fun g3 => ?_)
 refine go 10 ?_
 refine o_callV (equalF_Part _ _ l hv _ m hv2 _ (fun x y vx vy hx hy => by rw [← sameB_is]; exact flSame1 _ x y vx vy hx hy)) rfl rfl ?_
 refine go 4 ?_
 refine fin1 rfl rfl ?_
 exact q_v rfl

theorem law12least (I : IMap) (a b : Ivl) :
    FnV Tryz.prog 24 #[.agg a.cells.toArray, .agg b.cells.toArray] I (.bool (leastI a b)) := by
 refine enter Tryz.func24 Tryz.call24 rfl Tryz.ntmps24 rfl (fun w0 => ?_)
 refine go 3 ?_
 refine o_box _ rfl rfl rfl (fun g2 => ?_)
 refine go 1 ?_
 refine o_box _ rfl rfl rfl (fun g3 => ?_)
 refine go 11 ?_
 refine sxb 10 rfl (fun h10 p10 => ?_) (fun h10 p10 => ?_)
 ·refine go 10 ?_
  refine fin1 rfl rfl ?_
  exact q_v (congrArg Value.bool (by simp only [leastI, h10, bS]))
 ·refine go 10 ?_
  refine fin1 rfl rfl ?_
  exact q_v (congrArg Value.bool (by simp only [leastI, h10, bS]))

theorem ref12Bare (I : IMap) (v : Value) (l : List Part) (hv : RdS I v l) (hl : l.length ≤ 1000000) :
    FnI Tryz.prog 28 #[.agg #[v]] I (fun u J => ∃ w, u = .agg #[w] ∧ RdS J w (l.map bareP)) := by
 have hv0 := hv
 obtain ⟨A, c0, rfl, hA, hc, hm⟩ := hv
 refine enter Tryz.func28 Tryz.call28 rfl Tryz.ntmps28 rfl (fun w0 => ?_)
 refine go 3 ?_
 refine o_box _ rfl rfl rfl (fun g1 => ?_)
 refine go 1 ?_
 refine o_alloc he rfl (fun g2 => ?_)
 refine go 5 ?_
 refine o_alloc he rfl (fun g3 => ?_)
 refine go 5 ?_
 refine sx_nilrow 49 14 ?_
 refine go 4 ?_
 refine c_loop4 ((0 : Nat)) (none) ((0 : Nat)) ([]) (fun i A1 k1 xs => I)
  (fun i A1 k1 xs => [(1, .pointer (some ⟨g1, 0, none⟩)), (2, .pointer (some ⟨g2, 0, none⟩)), (3, .pointer (some ⟨g3, 0, none⟩)), (4, .int .i64 ((i : Nat) : Int))])
  (fun i A1 k1 xs => [.row (.slice A1 i k1) 49 14 i xs, .blk g3 39 [.slice A1 i k1], .blk g2 39 [.slice none 0 0], .blk g1 39 [.slice A l.length c0]])
  (fun i A1 k1 xs => i ≤ l.length ∧ Flat I xs ((l.take i).map bareP))
  (fun i A1 k1 xs => l.length - i) ⟨Nat.zero_le _, .nil⟩ rfl sb rfl ?_
 intro i A1 k1 xs ⟨hi, hF⟩
 refine go 10 ?_
 refine cb rfl (fun h10 p10 => ?_) (fun h10 p10 => ?_)
 ·have hlt : i < l.length := by omega
  refine go 9 ?_
  obtain ⟨b16, o16, w16, e16, c16, r16⟩ := RdA.at_ hA (i := i) hlt
  obtain ⟨q, rfl, hq⟩ := r16
  refine o_v rfl (v_idx he rfl rfl e16 (i) (by omega) hlt) ?_
  refine o_v rfl (v_ldIa he rfl c16 rfl) ?_
  refine go 1 ?_
  refine o_alloc he rfl (fun g5 => ?_)
  refine go 1 ?_
  refine o_stw _ he rfl rfl rfl rfl rfl (Enc.one (α := Part) (x := l[i]) ⟨q, rfl, hq⟩) ?_
  refine go 5 ?_
  refine o_val rfl (v_build (pl := [(0, 2), (2, 2), (4, 2)]) he he rfl rfl) ?_
  refine go 2 ?_
  refine o_st _ _ he rfl rfl rfl rfl rfl rfl rfl ?_
  refine go 7 ?_
  refine o_buildSlice he he rfl rfl rfl rfl rfl rfl rfl (fun v23 => ?_)
  refine go 1 ?_
  refine bring2 ?_
  refine o_appendO he he rfl rfl (Enc.one (α := Part) (x := bareP l[i]) ⟨q, rfl, hq⟩) rfl rfl (by omega) (by omega) rfl (fun v24 => ?_)
  refine sx_rowslice (fun A24 c24 hv24 => ?_)
  subst hv24
  refine go 2 ?_
  refine bring3 ?_
  refine o_st1 he rfl rfl rfl rfl ?_
  refine go 9 ?_
  refine bring2 ?_
  refine sx_drop ?_
  refine bring2 ?_
  refine sx_drop ?_
  refine bring3 ?_
  refine bring3 ?_
  refine bring2 ?_
  refine bring3 ?_
  exact q_next4 (i + 1) (A24) (c24) (_) ⟨by omega, by rw [← take_succ_of hlt, List.map_append]; exact hF.append (.one ⟨_, rfl, hq⟩)⟩ (by omega) rfl sb rfl
 ·refine go 7 ?_
  have e : i = l.length := (by omega)
  subst e
  rw [List.take_length] at hF
  refine sx_pubrow (l := l.map bareP) rfl (by rw [List.length_map]) hF (fun J9 j9 R9 => ?_)
  refine go 2 ?_
  refine bring1 ?_
  refine o_stw _ he rfl rfl rfl rfl rfl rfl ?_
  refine go 3 ?_
  refine fin1 rfl ⟨_, _, _, rfl, m0, .inr ⟨_, he, rfl, rfl⟩⟩ ?_
  exact q_i ⟨_, rfl, R9⟩

theorem ex12 (I : IMap) :
    FnI Tryz.prog 29 #[] I (fun u J => ∃ vc sf v, u = .tuple #[.agg #[vc, ci exFm.op, ci exFm.n, sf], v] ∧ RdS J vc exKs ∧ FmRd J [ci exFm.op, ci exFm.n, sf] exFm ∧ RdS J v exEs) := by
 refine enter Tryz.func29 Tryz.call29 rfl Tryz.ntmps29 rfl (fun w0 => ?_)
 refine go 3 ?_
 refine o_alloc he rfl (fun g0 => ?_)
 refine go 6 ?_
 refine o_val rfl (v_build (pl := [(0, 1), (1, 1), (2, 1)]) he he rfl rfl) ?_
 refine go 1 ?_
 refine o_val rfl (v_build (pl := [(0, 1), (1, 1), (2, 1)]) he he rfl rfl) ?_
 refine go 1 ?_
 refine o_buildSlice he he rfl rfl rfl rfl rfl rfl rfl (fun v8 => ?_)
 refine sx_pubrow (l := exFm.kids) rfl rfl ((.cons (x := (.mk 2 0 [] : Fm)) (fm_in 2 0 RdS.nil') (.one (x := (.mk 1 2 [] : Fm)) (fm_in 1 2 RdS.nil')))) (fun I8 j8 R8 => ?_)
 have R8s := R8
 obtain ⟨A8, c8, rfl, _⟩ := R8s
 refine go 1 ?_
 refine o_val rfl (v_build (pl := [(0, 1), (1, 1), (2, 1)]) he he rfl rfl) ?_
 refine go 1 ?_
 refine o_alloc he rfl (fun g2 => ?_)
 refine go 1 ?_
 refine o_stw _ he rfl rfl rfl rfl rfl rfl ?_
 refine go 5 ?_
 refine o_val rfl (v_build (pl := [(0, 1), (1, 1), (2, 1)]) he he rfl rfl) ?_
 refine go 1 ?_
 refine o_buildSlice he he rfl rfl rfl rfl rfl rfl rfl (fun v11 => ?_)
 refine sx_pubrow (l := [nBogie]) rfl rfl (.one rfl) (fun I11 j11 R11 => ?_)
 have R8 := R8.le j11
 have R11s := R11
 obtain ⟨A11, c11, rfl, _⟩ := R11s
 refine go 1 ?_
 refine o_val rfl (v_build (pl := [(0, 1), (1, 1), (2, 1)]) he he rfl rfl) ?_
 refine go 1 ?_
 refine o_buildSlice he he rfl rfl rfl rfl rfl rfl rfl (fun v13 => ?_)
 refine sx_pubrow (l := [(⟨nFront, [nBogie], 1⟩ : Slot)]) rfl rfl (.one ⟨_, rfl, R11⟩) (fun I13 j13 R13 => ?_)
 have R8 := R8.le j13
 have R11 := R11.le j13
 have R13s := R13
 obtain ⟨A13, c13, rfl, _⟩ := R13s
 refine go 1 ?_
 refine o_val rfl (v_build (pl := [(0, 1), (1, 1), (2, 1)]) he he rfl rfl) ?_
 refine go 1 ?_
 refine o_buildSlice he he rfl rfl rfl rfl rfl rfl rfl (fun v15 => ?_)
 refine sx_pubrow (l := exKs) rfl rfl (.cons ⟨_, rfl, RdS.nil'⟩ (.one ⟨_, rfl, R13⟩)) (fun I15 j15 R15 => ?_)
 have R8 := R8.le j15
 have R13 := R13.le j15
 have R15s := R15
 obtain ⟨A15, c15, rfl, _⟩ := R15s
 refine go 1 ?_
 refine o_val rfl (v_build (pl := [(0, 1)]) he he rfl rfl) ?_
 refine go 1 ?_
 refine o_alloc he rfl (fun g3 => ?_)
 refine go 1 ?_
 refine o_stw _ he rfl rfl rfl rfl rfl rfl ?_
 refine go 5 ?_
 refine o_val rfl (v_build (pl := [(0, 1), (1, 1)]) he he rfl rfl) ?_
 refine go 1 ?_
 refine o_val rfl (v_build (pl := [(0, 1), (1, 1)]) he he rfl rfl) ?_
 refine go 1 ?_
 refine o_val rfl (v_build (pl := [(0, 2), (2, 2), (4, 2)]) he he rfl rfl) ?_
 refine go 1 ?_
 refine o_alloc he rfl (fun g4 => ?_)
 refine go 1 ?_
 refine o_stw _ he rfl rfl rfl rfl rfl rfl ?_
 refine go 5 ?_
 refine o_val rfl (v_build (pl := [(0, 1), (1, 1)]) he he rfl rfl) ?_
 refine go 1 ?_
 refine o_val rfl (v_build (pl := [(0, 2), (2, 2), (4, 2)]) he he rfl rfl) ?_
 refine go 1 ?_
 refine o_alloc he rfl (fun g5 => ?_)
 refine go 1 ?_
 refine o_stw _ he rfl rfl rfl rfl rfl rfl ?_
 refine go 3 ?_
 refine bring4 ?_
 refine sx_knowI (fun hE5 hf5 => ?_)
 refine d_start1 T.mixed ?_
 refine d_tv 0 rfl rfl (by kernel_rfl) rfl (.cons _ (.refl _)) rfl (v_ldw m2 he rfl rfl) ?_
 refine d_tv 1 rfl rfl (by kernel_rfl) rfl (.cons _ (.refl _)) rfl (v_ldw m3 he rfl rfl) ?_
 refine d_tv 2 rfl rfl (by kernel_rfl) rfl (.cons _ (.refl _)) rfl (v_build (pl := [(0, 1), (1, 3)]) he he rfl rfl) ?_
 refine d_tv 3 rfl rfl (by kernel_rfl) rfl (.cons _ (.refl _)) rfl (v_build (pl := [(0, 1), (1, 1), (2, 1), (3, 1), (4, 1), (5, 1), (6, 1), (7, 1), (8, 6)]) he he rfl rfl) ?_
 refine d_tv 4 rfl rfl (by kernel_rfl) rfl (.cons _ (.refl _)) rfl (v_build (pl := [(0, 1), (1, 1), (2, 1), (3, 1), (4, 1), (5, 1), (6, 1), (7, 1), (8, 6)]) he he rfl rfl) ?_
 refine d_tv 5 rfl rfl (by kernel_rfl) rfl (.cons _ (.refl _)) rfl (v_build (pl := [(0, 1), (1, 1), (2, 1), (3, 1), (4, 1), (5, 1), (6, 1), (7, 1), (8, 6)]) he he rfl rfl) ?_
 refine d_tv 6 rfl rfl (by kernel_rfl) rfl (.cons _ (.refl _)) rfl (v_ldw m1 he rfl rfl) ?_
 refine d_tv 7 rfl rfl (by kernel_rfl) rfl (.cons _ (.refl _)) rfl (v_build (pl := [(0, 1), (1, 1), (2, 1), (3, 1), (4, 1), (5, 1), (6, 1), (7, 1), (8, 6)]) he he rfl rfl) ?_
 refine d_tv 8 rfl rfl (by kernel_rfl) rfl (.cons _ (.refl _)) rfl (v_build (pl := [(0, 1), (1, 1), (2, 1), (3, 1), (4, 1), (5, 1), (6, 1), (7, 1), (8, 6)]) he he rfl rfl) ?_
 refine d_tv 9 rfl rfl (by kernel_rfl) rfl (.cons _ (.refl _)) rfl (v_ldw m0 he rfl rfl) ?_
 refine d_tv 10 rfl rfl (by kernel_rfl) rfl (.cons _ (.refl _)) rfl (v_build (pl := [(0, 1), (1, 1), (2, 1), (3, 1), (4, 1), (5, 1), (6, 1), (7, 1), (8, 6)]) he he rfl rfl) ?_
 refine d_tv 11 rfl rfl (by kernel_rfl) rfl (.cons _ (.refl _)) rfl (v_build (pl := [(0, 1), (1, 1), (2, 1), (3, 1), (4, 1), (5, 1), (6, 1), (7, 1), (8, 6)]) he he rfl rfl) ?_
 refine d_two 12 13 (by kernel_rfl) rfl rfl ?_ ?_
 ·refine o_buildSlice he he rfl rfl rfl rfl rfl rfl rfl (fun v34 => ?_)
  refine sx_roweq (ys := (evCh exEs).flatten) (rfl) ?_
  refine sx_pubrow (l := exEs) rfl rfl ((evCh_flat _).flat) (fun I34 j34 R34 => ?_)
  have R8 := R8.le j34
  have R15 := R15.le j34
  refine d_on (fun _ m => m.keepsI (.cons _ (.refl _)) (j34) hE5 hf5) ?_
  refine d_one 13 (by kernel_rfl) rfl ?_
  refine o_stw _ he rfl rfl rfl rfl rfl rfl ?_
  refine d_on (fun _ m => m.keepsI (.cons _ (.refl _)) (j34) hE5 hf5) ?_
  refine d_t 14 rfl rfl (by kernel_rfl) rfl (fun _ m => m.keepsI (.cons _ (.refl _)) (j34) hE5 hf5) (y_v rfl (v_assign rfl)) ?_
  refine d_done (by kernel_rfl) ?_
  refine go 2 ?_
  refine fin2 rfl ⟨_, _, _, rfl, m0, .inr ⟨_, he, rfl, rfl⟩⟩ rfl ?_
  exact q_i ⟨_, _, _, rfl, R15, fm_in 7 0 R8, R34⟩
 ·refine o_stw _ he rfl rfl rfl rfl rfl rfl ?_
  refine d_on (fun _ m => m.keeps (.cons _ (.refl _))) ?_
  refine d_one 12 (by kernel_rfl) rfl ?_
  refine o_buildSlice he he rfl rfl rfl rfl rfl rfl rfl (fun v34 => ?_)
  refine sx_roweq (ys := (evCh exEs).flatten) (rfl) ?_
  refine sx_pubrow (l := exEs) rfl rfl ((evCh_flat _).flat) (fun I34 j34 R34 => ?_)
  have R8 := R8.le j34
  have R15 := R15.le j34
  refine d_on (fun _ m => m.keepsI (.cons _ (.refl _)) (j34) hE5 hf5) ?_
  refine d_t 14 rfl rfl (by kernel_rfl) rfl (fun _ m => m.keepsI (.cons _ (.refl _)) (j34) hE5 hf5) (y_v rfl (v_assign rfl)) ?_
  refine d_done (by kernel_rfl) ?_
  refine go 2 ?_
  refine fin2 rfl ⟨_, _, _, rfl, m0, .inr ⟨_, he, rfl, rfl⟩⟩ rfl ?_
  exact q_i ⟨_, _, _, rfl, R15, fm_in 7 0 R8, R34⟩

theorem exRun (I : IMap) (vc : Value) (hvc : RdS I vc exKs) (sf : Value) (hf : FmRd I [ci exFm.op, ci exFm.n, sf] exFm) (v : Value) (l : List Evt) (hv : RdS I v l) (hl : l.length ≤ 24) (hse : ∀ e ∈ l, SmE e) (r : List Part) (h : runL exFm exKs l 9 = (r, -1, 0)) :
    FnI Tryz.prog 16 #[.agg #[vc, ci exFm.op, ci exFm.n, sf], v, .int .i64 9] I (fun u J => ∃ w, u = .tuple #[.agg #[w], .int .i64 (-1), .int .i64 0] ∧ RdS J w r) := by
  have h1 := lifeRun I vc exKs hvc ex_smC exFm sf hf v l hv (by omega) hse 9
  refine h1.mono fun u J H' hJ ⟨⟨w, h2, h3⟩, h4⟩ => ⟨⟨w, ?_, ?_⟩, h4⟩
  · rw [h2, h]
  · rw [h] at h3; exact h3

theorem head12 (I : IMap) :
    FnV Tryz.prog 9 #[] I (.bool true) := by
 refine enter Tryz.func9 Tryz.call9 rfl Tryz.ntmps9 rfl (fun w0 => ?_)
 refine go 8 ?_
 refine o_call (ex12 _) rfl rfl (fun v21 I21 j21 q21 => ?_)
 obtain ⟨vc, sf, v, rfl, hvc, hf, hv⟩ := q21
 have hvs := hv
 obtain ⟨A, c0, rfl, hA, hc, hm⟩ := hvs
 refine go 4 ?_
 refine o_alloc he rfl (fun g1 => ?_)
 refine go 1 ?_
 refine o_stw _ he rfl rfl rfl rfl rfl (by simp [hvc.one, fm_one hf]; exact ⟨rfl, rfl⟩) ?_
 refine go 4 ?_
 refine sx_knowI (fun hE2 hf2 => ?_)
 refine d_startH T.mixed ?_
 refine d_tv 0 rfl rfl (by kernel_rfl) rfl (.refl _) rfl (v_ldw m0 he rfl rfl) ?_
 refine d_tv 1 rfl rfl (by kernel_rfl) rfl (.refl _) rfl (v_move rfl) ?_
 refine d_tv 2 rfl rfl (by kernel_rfl) rfl (.refl _) rfl (v_slice_hi he rfl rfl 4 rfl (by have : exEs.length = 7 := rfl; omega)) ?_
 refine d_two 3 8 (by kernel_rfl) rfl rfl ?_ ?_
 ·refine o_call (exRun _ vc hvc sf hf _ (exEs.take 4) (RdS.take hv 4 (by decide)) (by decide) (fun e he => ex_smE e (List.mem_of_mem_take he)) _ ex_a) rfl rfl (fun v28 I28 j28 q28 => ?_)
  try have hvc := hvc.le j28
  try have hf := hf.le j28
  try have hv := hv.le j28
  try have hw3 := hw3.le j28
  try have hw6 := hw6.le j28
  obtain ⟨w3, rfl, hw3⟩ := q28
  refine d_on (fun _ m => m.keepsI (.refl _) (j28) hE2 hf2) ?_
  refine d_t 4 rfl rfl (by kernel_rfl) rfl (fun _ m => m.keepsI (.refl _) (j28) hE2 hf2) (y_v rfl (v_move rfl)) ?_
  refine d_t 5 rfl rfl (by kernel_rfl) rfl (fun _ m => m.keepsI (.refl _) (j28) hE2 hf2) (y_v rfl (v_extract rfl rfl)) ?_
  refine d_t 6 rfl rfl (by kernel_rfl) rfl (fun _ m => m.keepsI (.refl _) (j28) hE2 hf2) (y_v rfl (v_extract rfl rfl)) ?_
  refine d_t 7 rfl rfl (by kernel_rfl) rfl (fun _ m => m.keepsI (.refl _) (j28) hE2 hf2) (y_v rfl (v_extract rfl rfl)) ?_
  refine d_one 8 (by kernel_rfl) rfl ?_
  refine o_alloc he rfl (fun g3 => ?_)
  refine d_on (fun _ m => m.keepsI (.cons _ (.refl _)) (j28) hE2 hf2) ?_
  refine d_one 9 (by kernel_rfl) rfl ?_
  refine o_stw _ he rfl rfl rfl rfl rfl (by simp [hw3.one]) ?_
  refine d_on (fun _ m => m.keepsI (.cons _ (.refl _)) (j28) hE2 hf2) ?_
  refine d_t 10 rfl rfl (by kernel_rfl) rfl (fun _ m => m.keepsI (.cons _ (.refl _)) (j28) hE2 hf2) (y_v rfl (v_assign rfl)) ?_
  refine d_t 11 rfl rfl (by kernel_rfl) rfl (fun _ m => m.keepsI (.cons _ (.refl _)) (j28) hE2 hf2) (y_v rfl (v_assign rfl)) ?_
  refine d_done (by kernel_rfl) ?_
  refine go 2 ?_
  refine sx_knowI (fun hE3 hf3 => ?_)
  refine d_startH T.mixed ?_
  refine d_tv 0 rfl rfl (by kernel_rfl) rfl (.refl _) rfl (v_ldw m1 he rfl rfl) ?_
  refine d_tv 1 rfl rfl (by kernel_rfl) rfl (.refl _) rfl (v_move rfl) ?_
  refine d_tv 2 rfl rfl (by kernel_rfl) rfl (.refl _) rfl (v_slice_hi he rfl rfl 6 rfl (by have : exEs.length = 7 := rfl; omega)) ?_
  refine d_two 3 8 (by kernel_rfl) rfl rfl ?_ ?_
  ·refine o_call (exRun _ vc hvc sf hf _ (exEs.take 6) (RdS.take hv 6 (by decide)) (by decide) (fun e he => ex_smE e (List.mem_of_mem_take he)) _ ex_b) rfl rfl (fun v36 I36 j36 q36 => ?_)
   try have hvc := hvc.le j36
   try have hf := hf.le j36
   try have hv := hv.le j36
   try have hw3 := hw3.le j36
   try have hw6 := hw6.le j36
   obtain ⟨w6, rfl, hw6⟩ := q36
   refine d_on (fun _ m => m.keepsI (.refl _) (j36) hE3 hf3) ?_
   refine d_t 4 rfl rfl (by kernel_rfl) rfl (fun _ m => m.keepsI (.refl _) (j36) hE3 hf3) (y_v rfl (v_move rfl)) ?_
   refine d_t 5 rfl rfl (by kernel_rfl) rfl (fun _ m => m.keepsI (.refl _) (j36) hE3 hf3) (y_v rfl (v_extract rfl rfl)) ?_
   refine d_t 6 rfl rfl (by kernel_rfl) rfl (fun _ m => m.keepsI (.refl _) (j36) hE3 hf3) (y_v rfl (v_extract rfl rfl)) ?_
   refine d_t 7 rfl rfl (by kernel_rfl) rfl (fun _ m => m.keepsI (.refl _) (j36) hE3 hf3) (y_v rfl (v_extract rfl rfl)) ?_
   refine d_one 8 (by kernel_rfl) rfl ?_
   refine o_alloc he rfl (fun g6 => ?_)
   refine d_on (fun _ m => m.keepsI (.cons _ (.refl _)) (j36) hE3 hf3) ?_
   refine d_one 9 (by kernel_rfl) rfl ?_
   refine o_stw _ he rfl rfl rfl rfl rfl (by simp [hw6.one]) ?_
   refine d_on (fun _ m => m.keepsI (.cons _ (.refl _)) (j36) hE3 hf3) ?_
   refine d_t 10 rfl rfl (by kernel_rfl) rfl (fun _ m => m.keepsI (.cons _ (.refl _)) (j36) hE3 hf3) (y_v rfl (v_assign rfl)) ?_
   refine d_t 11 rfl rfl (by kernel_rfl) rfl (fun _ m => m.keepsI (.cons _ (.refl _)) (j36) hE3 hf3) (y_v rfl (v_assign rfl)) ?_
   refine d_done (by kernel_rfl) ?_
   refine go 6 ?_
   refine o_call (exRun _ vc hvc sf hf _ exEs hv (by decide) (fun e he => ex_smE e he) _ ex_c) rfl rfl (fun v43 I43 j43 q43 => ?_)
   try have hvc := hvc.le j43
   try have hf := hf.le j43
   try have hv := hv.le j43
   try have hw3 := hw3.le j43
   try have hw6 := hw6.le j43
   obtain ⟨w9, rfl, hw9⟩ := q43
   obtain ⟨A3, c3, rfl, hA3, _, _⟩ := hw3
   obtain ⟨A6, c6, rfl, hA6, _, _⟩ := hw6
   obtain ⟨A9, c9, rfl, hA9, _, _⟩ := hw9
   refine go 5 ?_
   refine o_alloc he rfl (fun g9 => ?_)
   refine go 1 ?_
   refine o_stw _ he rfl rfl rfl rfl rfl rfl ?_
   refine go 8 ?_
   refine o_v rfl (OV.cast (u := .bool false) (v_neq rfl rfl) rfl) ?_
   refine go 2 ?_
   refine o_cons (o_yes rfl rfl rfl (o_val rfl (OV.cast (u := .bool false) (v_neq rfl rfl) rfl) ?_))
   refine go 3 ?_
   refine o_cons (o_yes rfl rfl rfl (o_val rfl (OV.cast (u := .bool false) (v_neq rfl rfl) rfl) ?_))
   refine go 5 ?_
   refine o_cons (o_yes rfl rfl rfl (o_val rfl (OV.cast (u := .bool false) (v_neq rfl rfl) rfl) ?_))
   refine go 5 ?_
   refine o_cons (o_yes rfl rfl rfl (o_val rfl (OV.cast (u := .bool false) (v_neq rfl rfl) rfl) ?_))
   refine go 5 ?_
   refine o_cons (o_yes rfl rfl rfl (o_val rfl (OV.cast (u := .bool false) (v_neq rfl rfl) rfl) ?_))
   refine go 3 ?_
   refine c_false rfl ?_
   refine go 5 ?_
   refine o_val rfl (v_build (pl := [(0, 1), (1, 1)]) he he rfl rfl) ?_
   refine go 1 ?_
   refine o_val rfl (v_build (pl := [(0, 1), (1, 1)]) he he rfl rfl) ?_
   refine go 1 ?_
   refine o_val rfl (v_build (pl := [(0, 1), (1, 1)]) he he rfl rfl) ?_
   refine go 1 ?_
   refine o_val rfl (v_build (pl := [(0, 2), (2, 2), (4, 2)]) he he rfl rfl) ?_
   refine go 1 ?_
   refine o_alloc he rfl (fun g12 => ?_)
   refine go 1 ?_
   refine o_stw _ he rfl rfl rfl rfl rfl rfl ?_
   refine go 6 ?_
   obtain ⟨b82, o82, w82, e82, c82, r82⟩ := RdA.at_ hA9 (i := 1) (by decide)
   obtain ⟨q82, rfl, hq82⟩ := r82
   refine o_v rfl (v_idx he rfl rfl e82 1 rfl (by decide)) ?_
   refine o_v rfl (v_ldIa he rfl c82 rfl) ?_
   refine go 1 ?_
   refine o_callV (lifeValue _ exSC[1] q82 (RdS.one hq82) sDays 9) rfl rfl ?_
   refine go 4 ?_
   refine o_alloc he rfl (fun g13 => ?_)
   refine go 1 ?_
   refine o_stw _ he rfl rfl rfl rfl rfl rfl ?_
   refine go 7 ?_
   obtain ⟨b90, o90, w90, e90, c90, r90⟩ := RdA.at_ hA9 (i := 1) (by decide)
   obtain ⟨q90, rfl, hq90⟩ := r90
   refine o_v rfl (v_idx he rfl rfl e90 1 rfl (by decide)) ?_
   refine o_v rfl (v_ldIa he rfl c90 rfl) ?_
   refine go 1 ?_
   refine o_callV (lifeValue _ exSC[1] q90 (RdS.one hq90) sAge 9) rfl rfl ?_
   refine go 4 ?_
   refine o_alloc he rfl (fun g15 => ?_)
   refine go 1 ?_
   refine o_stw _ he rfl rfl rfl rfl rfl rfl ?_
   refine go 7 ?_
   obtain ⟨b98, o98, w98, e98, c98, r98⟩ := RdA.at_ hA9 (i := 1) (by decide)
   obtain ⟨q98, rfl, hq98⟩ := r98
   refine o_v rfl (v_idx he rfl rfl e98 1 rfl (by decide)) ?_
   refine o_v rfl (v_ldIa he rfl c98 rfl) ?_
   refine go 1 ?_
   refine o_callV (lifeValue _ exSC[1] q98 (RdS.one hq98) ⟨#[121, 101, 97, 114, 115]⟩ 9) rfl rfl ?_
   refine go 4 ?_
   refine o_alloc he rfl (fun g17 => ?_)
   refine go 1 ?_
   refine o_stw _ he rfl rfl rfl rfl rfl rfl ?_
   refine go 4 ?_
   refine d_startH T.mixed ?_
   refine d_tv 0 rfl rfl (by kernel_rfl) rfl (.refl _) rfl (v_fieldAddr he rfl) ?_
   refine d_tv 1 rfl rfl (by kernel_rfl) rfl (.refl _) rfl (v_ld m6 he rfl rfl) ?_
   obtain ⟨b105, o105, w105, e105, c105, r105⟩ := RdA.at_ hA3 (i := 0) (by decide)
   obtain ⟨q105, rfl, hq105⟩ := r105
   refine d_tv 2 rfl rfl (by kernel_rfl) rfl (.refl _) rfl (v_idx he rfl rfl e105 0 rfl (by decide)) ?_
   refine d_tv 3 rfl rfl (by kernel_rfl) rfl (.refl _) rfl (v_fieldAddr he rfl) ?_
   refine d_tv 4 rfl rfl (by kernel_rfl) rfl (.refl _) rfl (v_ldIa he rfl (c105.sub 8 6) rfl) ?_
   refine d_tv 5 rfl rfl (by kernel_rfl) rfl (.refl _) rfl (v_ldw m3 he rfl rfl) ?_
   refine d_tv 6 rfl rfl (by kernel_rfl) rfl (.refl _) rfl (OV.cast (u := .bool true) (v_steql T.eqg_47 (eqS_Life exSA[0].life exLife) rfl rfl) (congrArg Value.bool (by decide +kernel))) ?_
   refine d_tv 7 rfl rfl (by kernel_rfl) rfl (.refl _) rfl (v_move rfl) ?_
   refine d_t 8 rfl rfl (by kernel_rfl) rfl (fun _ m => m.keeps (.refl _)) (y_yes rfl rfl rfl (v_fieldAddr he rfl)) ?_
   refine d_t 9 rfl rfl (by kernel_rfl) rfl (fun _ m => m.keeps (.refl _)) (y_yes rfl rfl rfl (v_ld m6 he rfl rfl)) ?_
   obtain ⟨b113, o113, w113, e113, c113, r113⟩ := RdA.at_ hA3 (i := 1) (by decide)
   obtain ⟨q113, rfl, hq113⟩ := r113
   refine d_t 10 rfl rfl (by kernel_rfl) rfl (fun _ m => m.keeps (.refl _)) (y_yes rfl rfl rfl (v_idx he rfl rfl e113 1 rfl (by decide))) ?_
   refine d_t 11 rfl rfl (by kernel_rfl) rfl (fun _ m => m.keeps (.refl _)) (y_yes rfl rfl rfl (v_fieldAddr he rfl)) ?_
   refine d_t 12 rfl rfl (by kernel_rfl) rfl (fun _ m => m.keeps (.refl _)) (y_yes rfl rfl rfl (v_ldIa he rfl (c113.sub 8 6) rfl)) ?_
   refine d_t 13 rfl rfl (by kernel_rfl) rfl (fun _ m => m.keeps (.refl _)) (y_yes rfl rfl rfl (v_ldw m3 he rfl rfl)) ?_
   refine d_t 14 rfl rfl (by kernel_rfl) rfl (fun _ m => m.keeps (.refl _)) (y_yes rfl rfl rfl (OV.cast (u := .bool true) (v_steql T.eqg_47 (eqS_Life exSA[1].life exLife) rfl rfl) (congrArg Value.bool (by decide +kernel)))) ?_
   refine d_tv 15 rfl rfl (by kernel_rfl) rfl (.refl _) rfl (v_and_t rfl rfl rfl) ?_
   refine d_tv 16 rfl rfl (by kernel_rfl) rfl (.refl _) rfl (v_move rfl) ?_
   refine d_t 17 rfl rfl (by kernel_rfl) rfl (fun _ m => m.keeps (.refl _)) (y_yes rfl rfl rfl (v_fieldAddr he rfl)) ?_
   refine d_t 18 rfl rfl (by kernel_rfl) rfl (fun _ m => m.keeps (.refl _)) (y_yes rfl rfl rfl (v_ld m5 he rfl rfl)) ?_
   obtain ⟨b122, o122, w122, e122, c122, r122⟩ := RdA.at_ hA6 (i := 0) (by decide)
   obtain ⟨q122, rfl, hq122⟩ := r122
   refine d_t 19 rfl rfl (by kernel_rfl) rfl (fun _ m => m.keeps (.refl _)) (y_yes rfl rfl rfl (v_idx he rfl rfl e122 0 rfl (by decide))) ?_
   refine d_t 20 rfl rfl (by kernel_rfl) rfl (fun _ m => m.keeps (.refl _)) (y_yes rfl rfl rfl (v_fieldAddr he rfl)) ?_
   refine d_t 21 rfl rfl (by kernel_rfl) rfl (fun _ m => m.keeps (.refl _)) (y_yes rfl rfl rfl (v_ldIa he rfl (c122.sub 8 6) rfl)) ?_
   refine d_t 22 rfl rfl (by kernel_rfl) rfl (fun _ m => m.keeps (.refl _)) (y_yes rfl rfl rfl (v_ldw m3 he rfl rfl)) ?_
   refine d_t 23 rfl rfl (by kernel_rfl) rfl (fun _ m => m.keeps (.refl _)) (y_yes rfl rfl rfl (OV.cast (u := .bool true) (v_steql T.eqg_47 (eqS_Life exSB[0].life exLife) rfl rfl) (congrArg Value.bool (by decide +kernel)))) ?_
   refine d_tv 24 rfl rfl (by kernel_rfl) rfl (.refl _) rfl (v_and_t rfl rfl rfl) ?_
   refine d_tv 25 rfl rfl (by kernel_rfl) rfl (.refl _) rfl (v_move rfl) ?_
   refine d_t 26 rfl rfl (by kernel_rfl) rfl (fun _ m => m.keeps (.refl _)) (y_yes rfl rfl rfl (v_fieldAddr he rfl)) ?_
   refine d_t 27 rfl rfl (by kernel_rfl) rfl (fun _ m => m.keeps (.refl _)) (y_yes rfl rfl rfl (v_ld m5 he rfl rfl)) ?_
   obtain ⟨b131, o131, w131, e131, c131, r131⟩ := RdA.at_ hA6 (i := 1) (by decide)
   obtain ⟨q131, rfl, hq131⟩ := r131
   refine d_t 28 rfl rfl (by kernel_rfl) rfl (fun _ m => m.keeps (.refl _)) (y_yes rfl rfl rfl (v_idx he rfl rfl e131 1 rfl (by decide))) ?_
   refine d_t 29 rfl rfl (by kernel_rfl) rfl (fun _ m => m.keeps (.refl _)) (y_yes rfl rfl rfl (v_fieldAddr he rfl)) ?_
   refine d_t 30 rfl rfl (by kernel_rfl) rfl (fun _ m => m.keeps (.refl _)) (y_yes rfl rfl rfl (v_fieldAddr he rfl)) ?_
   refine d_t 31 rfl rfl (by kernel_rfl) rfl (fun _ m => m.keeps (.refl _)) (y_yes rfl rfl rfl (v_ldIa he rfl (c131.sub 8 2) rfl)) ?_
   refine d_t 32 rfl rfl (by kernel_rfl) rfl (fun _ m => m.keeps (.refl _)) (y_yes rfl rfl rfl (v_build (pl := [(0, 1), (1, 1)]) he he rfl rfl)) ?_
   refine d_t 33 rfl rfl (by kernel_rfl) rfl (fun _ m => m.keeps (.refl _)) (y_yes rfl rfl rfl (OV.cast (u := .bool true) (v_steql T.eqg_32 (eqS_Ivl exSB[1].life.km ⟨15, 17⟩) rfl rfl) (congrArg Value.bool (by decide +kernel)))) ?_
   refine d_tv 34 rfl rfl (by kernel_rfl) rfl (.refl _) rfl (v_and_t rfl rfl rfl) ?_
   refine d_tv 35 rfl rfl (by kernel_rfl) rfl (.refl _) rfl (v_move rfl) ?_
   refine d_t 36 rfl rfl (by kernel_rfl) rfl (fun _ m => m.keeps (.refl _)) (y_yes rfl rfl rfl (v_fieldAddr he rfl)) ?_
   refine d_t 37 rfl rfl (by kernel_rfl) rfl (fun _ m => m.keeps (.refl _)) (y_yes rfl rfl rfl (v_ld m4 he rfl rfl)) ?_
   obtain ⟨b141, o141, w141, e141, c141, r141⟩ := RdA.at_ hA9 (i := 1) (by decide)
   obtain ⟨q141, rfl, hq141⟩ := r141
   refine d_t 38 rfl rfl (by kernel_rfl) rfl (fun _ m => m.keeps (.refl _)) (y_yes rfl rfl rfl (v_idx he rfl rfl e141 1 rfl (by decide))) ?_
   refine d_t 39 rfl rfl (by kernel_rfl) rfl (fun _ m => m.keeps (.refl _)) (y_yes rfl rfl rfl (v_fieldAddr he rfl)) ?_
   refine d_t 40 rfl rfl (by kernel_rfl) rfl (fun _ m => m.keeps (.refl _)) (y_yes rfl rfl rfl (v_ldIa he rfl (c141.sub 8 6) rfl)) ?_
   refine d_t 41 rfl rfl (by kernel_rfl) rfl (fun _ m => m.keeps (.refl _)) (y_yes rfl rfl rfl (v_build (pl := [(0, 2), (2, 2), (4, 2)]) he he rfl rfl)) ?_
   refine d_t 42 rfl rfl (by kernel_rfl) rfl (fun _ m => m.keeps (.refl _)) (y_yes rfl rfl rfl (OV.cast (u := .bool true) (v_steql T.eqg_47 (eqS_Life exSC[1].life zLife) rfl rfl) (congrArg Value.bool (by decide +kernel)))) ?_
   refine d_tv 43 rfl rfl (by kernel_rfl) rfl (.refl _) rfl (v_and_t rfl rfl rfl) ?_
   refine d_tv 44 rfl rfl (by kernel_rfl) rfl (.refl _) rfl (v_assign rfl) ?_
   refine d_done (by kernel_rfl) ?_
   refine go 6 ?_
   refine o_cons (o_yes rfl rfl rfl (o_val rfl (OV.cast (u := .bool true) (v_eql rfl rfl) (congrArg Value.bool (by decide +kernel))) ?_))
   refine go 4 ?_
   refine o_yes rfl rfl rfl (o_val rfl (v_build (pl := [(0, 1), (1, 1)]) he he rfl rfl) ?_)
   refine o_cons (o_yes rfl rfl rfl (o_val rfl (OV.cast (u := .bool true) (v_steql T.eqg_32 (eqS_Ivl (valueF exSC[1] sDays 9).1 ⟨5, 5⟩) rfl rfl) (congrArg Value.bool (by decide +kernel))) ?_))
   refine go 3 ?_
   refine o_cons (o_yes rfl rfl rfl (o_val rfl (OV.cast (u := .bool true) (v_eql rfl rfl) (congrArg Value.bool (by decide +kernel))) ?_))
   refine go 4 ?_
   refine o_yes rfl rfl rfl (o_val rfl (v_build (pl := [(0, 1), (1, 1)]) he he rfl rfl) ?_)
   refine o_cons (o_yes rfl rfl rfl (o_val rfl (OV.cast (u := .bool true) (v_steql T.eqg_32 (eqS_Ivl (valueF exSC[1] sAge 9).1 ⟨9, 9⟩) rfl rfl) (congrArg Value.bool (by decide +kernel))) ?_))
   refine go 3 ?_
   refine o_cons (o_yes rfl rfl rfl (o_val rfl (OV.cast (u := .bool true) (v_eql rfl rfl) (congrArg Value.bool (by decide +kernel))) ?_))
   refine go 5 ?_
   refine fin1 rfl rfl ?_
   exact q_vI rfl
  ·refine o_alloc he rfl (fun g6 => ?_)
   refine d_on (fun _ m => m.keeps (.cons _ (.refl _))) ?_
   refine d_one 3 (by kernel_rfl) rfl ?_
   refine o_call (exRun _ vc hvc sf hf _ (exEs.take 6) (RdS.take hv 6 (by decide)) (by decide) (fun e he => ex_smE e (List.mem_of_mem_take he)) _ ex_b) rfl rfl (fun v36 I36 j36 q36 => ?_)
   try have hvc := hvc.le j36
   try have hf := hf.le j36
   try have hv := hv.le j36
   try have hw3 := hw3.le j36
   try have hw6 := hw6.le j36
   obtain ⟨w6, rfl, hw6⟩ := q36
   refine d_on (fun _ m => m.keepsI (.cons _ (.refl _)) (j36) hE3 hf3) ?_
   refine d_t 4 rfl rfl (by kernel_rfl) rfl (fun _ m => m.keepsI (.cons _ (.refl _)) (j36) hE3 hf3) (y_v rfl (v_move rfl)) ?_
   refine d_t 5 rfl rfl (by kernel_rfl) rfl (fun _ m => m.keepsI (.cons _ (.refl _)) (j36) hE3 hf3) (y_v rfl (v_extract rfl rfl)) ?_
   refine d_t 6 rfl rfl (by kernel_rfl) rfl (fun _ m => m.keepsI (.cons _ (.refl _)) (j36) hE3 hf3) (y_v rfl (v_extract rfl rfl)) ?_
   refine d_t 7 rfl rfl (by kernel_rfl) rfl (fun _ m => m.keepsI (.cons _ (.refl _)) (j36) hE3 hf3) (y_v rfl (v_extract rfl rfl)) ?_
   refine d_one 9 (by kernel_rfl) rfl ?_
   refine o_stw _ he rfl rfl rfl rfl rfl (by simp [hw6.one]) ?_
   refine d_on (fun _ m => m.keepsI (.cons _ (.refl _)) (j36) hE3 hf3) ?_
   refine d_t 10 rfl rfl (by kernel_rfl) rfl (fun _ m => m.keepsI (.cons _ (.refl _)) (j36) hE3 hf3) (y_v rfl (v_assign rfl)) ?_
   refine d_t 11 rfl rfl (by kernel_rfl) rfl (fun _ m => m.keepsI (.cons _ (.refl _)) (j36) hE3 hf3) (y_v rfl (v_assign rfl)) ?_
   refine d_done (by kernel_rfl) ?_
   refine go 6 ?_
   refine o_call (exRun _ vc hvc sf hf _ exEs hv (by decide) (fun e he => ex_smE e he) _ ex_c) rfl rfl (fun v43 I43 j43 q43 => ?_)
   try have hvc := hvc.le j43
   try have hf := hf.le j43
   try have hv := hv.le j43
   try have hw3 := hw3.le j43
   try have hw6 := hw6.le j43
   obtain ⟨w9, rfl, hw9⟩ := q43
   obtain ⟨A3, c3, rfl, hA3, _, _⟩ := hw3
   obtain ⟨A6, c6, rfl, hA6, _, _⟩ := hw6
   obtain ⟨A9, c9, rfl, hA9, _, _⟩ := hw9
   refine go 5 ?_
   refine o_alloc he rfl (fun g9 => ?_)
   refine go 1 ?_
   refine o_stw _ he rfl rfl rfl rfl rfl rfl ?_
   refine go 8 ?_
   refine o_v rfl (OV.cast (u := .bool false) (v_neq rfl rfl) rfl) ?_
   refine go 2 ?_
   refine o_cons (o_yes rfl rfl rfl (o_val rfl (OV.cast (u := .bool false) (v_neq rfl rfl) rfl) ?_))
   refine go 3 ?_
   refine o_cons (o_yes rfl rfl rfl (o_val rfl (OV.cast (u := .bool false) (v_neq rfl rfl) rfl) ?_))
   refine go 5 ?_
   refine o_cons (o_yes rfl rfl rfl (o_val rfl (OV.cast (u := .bool false) (v_neq rfl rfl) rfl) ?_))
   refine go 5 ?_
   refine o_cons (o_yes rfl rfl rfl (o_val rfl (OV.cast (u := .bool false) (v_neq rfl rfl) rfl) ?_))
   refine go 5 ?_
   refine o_cons (o_yes rfl rfl rfl (o_val rfl (OV.cast (u := .bool false) (v_neq rfl rfl) rfl) ?_))
   refine go 3 ?_
   refine c_false rfl ?_
   refine go 5 ?_
   refine o_val rfl (v_build (pl := [(0, 1), (1, 1)]) he he rfl rfl) ?_
   refine go 1 ?_
   refine o_val rfl (v_build (pl := [(0, 1), (1, 1)]) he he rfl rfl) ?_
   refine go 1 ?_
   refine o_val rfl (v_build (pl := [(0, 1), (1, 1)]) he he rfl rfl) ?_
   refine go 1 ?_
   refine o_val rfl (v_build (pl := [(0, 2), (2, 2), (4, 2)]) he he rfl rfl) ?_
   refine go 1 ?_
   refine o_alloc he rfl (fun g12 => ?_)
   refine go 1 ?_
   refine o_stw _ he rfl rfl rfl rfl rfl rfl ?_
   refine go 6 ?_
   obtain ⟨b82, o82, w82, e82, c82, r82⟩ := RdA.at_ hA9 (i := 1) (by decide)
   obtain ⟨q82, rfl, hq82⟩ := r82
   refine o_v rfl (v_idx he rfl rfl e82 1 rfl (by decide)) ?_
   refine o_v rfl (v_ldIa he rfl c82 rfl) ?_
   refine go 1 ?_
   refine o_callV (lifeValue _ exSC[1] q82 (RdS.one hq82) sDays 9) rfl rfl ?_
   refine go 4 ?_
   refine o_alloc he rfl (fun g13 => ?_)
   refine go 1 ?_
   refine o_stw _ he rfl rfl rfl rfl rfl rfl ?_
   refine go 7 ?_
   obtain ⟨b90, o90, w90, e90, c90, r90⟩ := RdA.at_ hA9 (i := 1) (by decide)
   obtain ⟨q90, rfl, hq90⟩ := r90
   refine o_v rfl (v_idx he rfl rfl e90 1 rfl (by decide)) ?_
   refine o_v rfl (v_ldIa he rfl c90 rfl) ?_
   refine go 1 ?_
   refine o_callV (lifeValue _ exSC[1] q90 (RdS.one hq90) sAge 9) rfl rfl ?_
   refine go 4 ?_
   refine o_alloc he rfl (fun g15 => ?_)
   refine go 1 ?_
   refine o_stw _ he rfl rfl rfl rfl rfl rfl ?_
   refine go 7 ?_
   obtain ⟨b98, o98, w98, e98, c98, r98⟩ := RdA.at_ hA9 (i := 1) (by decide)
   obtain ⟨q98, rfl, hq98⟩ := r98
   refine o_v rfl (v_idx he rfl rfl e98 1 rfl (by decide)) ?_
   refine o_v rfl (v_ldIa he rfl c98 rfl) ?_
   refine go 1 ?_
   refine o_callV (lifeValue _ exSC[1] q98 (RdS.one hq98) ⟨#[121, 101, 97, 114, 115]⟩ 9) rfl rfl ?_
   refine go 4 ?_
   refine o_alloc he rfl (fun g17 => ?_)
   refine go 1 ?_
   refine o_stw _ he rfl rfl rfl rfl rfl rfl ?_
   refine go 4 ?_
   refine d_startH T.mixed ?_
   refine d_tv 0 rfl rfl (by kernel_rfl) rfl (.refl _) rfl (v_fieldAddr he rfl) ?_
   refine d_tv 1 rfl rfl (by kernel_rfl) rfl (.refl _) rfl (v_ld m6 he rfl rfl) ?_
   obtain ⟨b105, o105, w105, e105, c105, r105⟩ := RdA.at_ hA3 (i := 0) (by decide)
   obtain ⟨q105, rfl, hq105⟩ := r105
   refine d_tv 2 rfl rfl (by kernel_rfl) rfl (.refl _) rfl (v_idx he rfl rfl e105 0 rfl (by decide)) ?_
   refine d_tv 3 rfl rfl (by kernel_rfl) rfl (.refl _) rfl (v_fieldAddr he rfl) ?_
   refine d_tv 4 rfl rfl (by kernel_rfl) rfl (.refl _) rfl (v_ldIa he rfl (c105.sub 8 6) rfl) ?_
   refine d_tv 5 rfl rfl (by kernel_rfl) rfl (.refl _) rfl (v_ldw m3 he rfl rfl) ?_
   refine d_tv 6 rfl rfl (by kernel_rfl) rfl (.refl _) rfl (OV.cast (u := .bool true) (v_steql T.eqg_47 (eqS_Life exSA[0].life exLife) rfl rfl) (congrArg Value.bool (by decide +kernel))) ?_
   refine d_tv 7 rfl rfl (by kernel_rfl) rfl (.refl _) rfl (v_move rfl) ?_
   refine d_t 8 rfl rfl (by kernel_rfl) rfl (fun _ m => m.keeps (.refl _)) (y_yes rfl rfl rfl (v_fieldAddr he rfl)) ?_
   refine d_t 9 rfl rfl (by kernel_rfl) rfl (fun _ m => m.keeps (.refl _)) (y_yes rfl rfl rfl (v_ld m6 he rfl rfl)) ?_
   obtain ⟨b113, o113, w113, e113, c113, r113⟩ := RdA.at_ hA3 (i := 1) (by decide)
   obtain ⟨q113, rfl, hq113⟩ := r113
   refine d_t 10 rfl rfl (by kernel_rfl) rfl (fun _ m => m.keeps (.refl _)) (y_yes rfl rfl rfl (v_idx he rfl rfl e113 1 rfl (by decide))) ?_
   refine d_t 11 rfl rfl (by kernel_rfl) rfl (fun _ m => m.keeps (.refl _)) (y_yes rfl rfl rfl (v_fieldAddr he rfl)) ?_
   refine d_t 12 rfl rfl (by kernel_rfl) rfl (fun _ m => m.keeps (.refl _)) (y_yes rfl rfl rfl (v_ldIa he rfl (c113.sub 8 6) rfl)) ?_
   refine d_t 13 rfl rfl (by kernel_rfl) rfl (fun _ m => m.keeps (.refl _)) (y_yes rfl rfl rfl (v_ldw m3 he rfl rfl)) ?_
   refine d_t 14 rfl rfl (by kernel_rfl) rfl (fun _ m => m.keeps (.refl _)) (y_yes rfl rfl rfl (OV.cast (u := .bool true) (v_steql T.eqg_47 (eqS_Life exSA[1].life exLife) rfl rfl) (congrArg Value.bool (by decide +kernel)))) ?_
   refine d_tv 15 rfl rfl (by kernel_rfl) rfl (.refl _) rfl (v_and_t rfl rfl rfl) ?_
   refine d_tv 16 rfl rfl (by kernel_rfl) rfl (.refl _) rfl (v_move rfl) ?_
   refine d_t 17 rfl rfl (by kernel_rfl) rfl (fun _ m => m.keeps (.refl _)) (y_yes rfl rfl rfl (v_fieldAddr he rfl)) ?_
   refine d_t 18 rfl rfl (by kernel_rfl) rfl (fun _ m => m.keeps (.refl _)) (y_yes rfl rfl rfl (v_ld m5 he rfl rfl)) ?_
   obtain ⟨b122, o122, w122, e122, c122, r122⟩ := RdA.at_ hA6 (i := 0) (by decide)
   obtain ⟨q122, rfl, hq122⟩ := r122
   refine d_t 19 rfl rfl (by kernel_rfl) rfl (fun _ m => m.keeps (.refl _)) (y_yes rfl rfl rfl (v_idx he rfl rfl e122 0 rfl (by decide))) ?_
   refine d_t 20 rfl rfl (by kernel_rfl) rfl (fun _ m => m.keeps (.refl _)) (y_yes rfl rfl rfl (v_fieldAddr he rfl)) ?_
   refine d_t 21 rfl rfl (by kernel_rfl) rfl (fun _ m => m.keeps (.refl _)) (y_yes rfl rfl rfl (v_ldIa he rfl (c122.sub 8 6) rfl)) ?_
   refine d_t 22 rfl rfl (by kernel_rfl) rfl (fun _ m => m.keeps (.refl _)) (y_yes rfl rfl rfl (v_ldw m3 he rfl rfl)) ?_
   refine d_t 23 rfl rfl (by kernel_rfl) rfl (fun _ m => m.keeps (.refl _)) (y_yes rfl rfl rfl (OV.cast (u := .bool true) (v_steql T.eqg_47 (eqS_Life exSB[0].life exLife) rfl rfl) (congrArg Value.bool (by decide +kernel)))) ?_
   refine d_tv 24 rfl rfl (by kernel_rfl) rfl (.refl _) rfl (v_and_t rfl rfl rfl) ?_
   refine d_tv 25 rfl rfl (by kernel_rfl) rfl (.refl _) rfl (v_move rfl) ?_
   refine d_t 26 rfl rfl (by kernel_rfl) rfl (fun _ m => m.keeps (.refl _)) (y_yes rfl rfl rfl (v_fieldAddr he rfl)) ?_
   refine d_t 27 rfl rfl (by kernel_rfl) rfl (fun _ m => m.keeps (.refl _)) (y_yes rfl rfl rfl (v_ld m5 he rfl rfl)) ?_
   obtain ⟨b131, o131, w131, e131, c131, r131⟩ := RdA.at_ hA6 (i := 1) (by decide)
   obtain ⟨q131, rfl, hq131⟩ := r131
   refine d_t 28 rfl rfl (by kernel_rfl) rfl (fun _ m => m.keeps (.refl _)) (y_yes rfl rfl rfl (v_idx he rfl rfl e131 1 rfl (by decide))) ?_
   refine d_t 29 rfl rfl (by kernel_rfl) rfl (fun _ m => m.keeps (.refl _)) (y_yes rfl rfl rfl (v_fieldAddr he rfl)) ?_
   refine d_t 30 rfl rfl (by kernel_rfl) rfl (fun _ m => m.keeps (.refl _)) (y_yes rfl rfl rfl (v_fieldAddr he rfl)) ?_
   refine d_t 31 rfl rfl (by kernel_rfl) rfl (fun _ m => m.keeps (.refl _)) (y_yes rfl rfl rfl (v_ldIa he rfl (c131.sub 8 2) rfl)) ?_
   refine d_t 32 rfl rfl (by kernel_rfl) rfl (fun _ m => m.keeps (.refl _)) (y_yes rfl rfl rfl (v_build (pl := [(0, 1), (1, 1)]) he he rfl rfl)) ?_
   refine d_t 33 rfl rfl (by kernel_rfl) rfl (fun _ m => m.keeps (.refl _)) (y_yes rfl rfl rfl (OV.cast (u := .bool true) (v_steql T.eqg_32 (eqS_Ivl exSB[1].life.km ⟨15, 17⟩) rfl rfl) (congrArg Value.bool (by decide +kernel)))) ?_
   refine d_tv 34 rfl rfl (by kernel_rfl) rfl (.refl _) rfl (v_and_t rfl rfl rfl) ?_
   refine d_tv 35 rfl rfl (by kernel_rfl) rfl (.refl _) rfl (v_move rfl) ?_
   refine d_t 36 rfl rfl (by kernel_rfl) rfl (fun _ m => m.keeps (.refl _)) (y_yes rfl rfl rfl (v_fieldAddr he rfl)) ?_
   refine d_t 37 rfl rfl (by kernel_rfl) rfl (fun _ m => m.keeps (.refl _)) (y_yes rfl rfl rfl (v_ld m4 he rfl rfl)) ?_
   obtain ⟨b141, o141, w141, e141, c141, r141⟩ := RdA.at_ hA9 (i := 1) (by decide)
   obtain ⟨q141, rfl, hq141⟩ := r141
   refine d_t 38 rfl rfl (by kernel_rfl) rfl (fun _ m => m.keeps (.refl _)) (y_yes rfl rfl rfl (v_idx he rfl rfl e141 1 rfl (by decide))) ?_
   refine d_t 39 rfl rfl (by kernel_rfl) rfl (fun _ m => m.keeps (.refl _)) (y_yes rfl rfl rfl (v_fieldAddr he rfl)) ?_
   refine d_t 40 rfl rfl (by kernel_rfl) rfl (fun _ m => m.keeps (.refl _)) (y_yes rfl rfl rfl (v_ldIa he rfl (c141.sub 8 6) rfl)) ?_
   refine d_t 41 rfl rfl (by kernel_rfl) rfl (fun _ m => m.keeps (.refl _)) (y_yes rfl rfl rfl (v_build (pl := [(0, 2), (2, 2), (4, 2)]) he he rfl rfl)) ?_
   refine d_t 42 rfl rfl (by kernel_rfl) rfl (fun _ m => m.keeps (.refl _)) (y_yes rfl rfl rfl (OV.cast (u := .bool true) (v_steql T.eqg_47 (eqS_Life exSC[1].life zLife) rfl rfl) (congrArg Value.bool (by decide +kernel)))) ?_
   refine d_tv 43 rfl rfl (by kernel_rfl) rfl (.refl _) rfl (v_and_t rfl rfl rfl) ?_
   refine d_tv 44 rfl rfl (by kernel_rfl) rfl (.refl _) rfl (v_assign rfl) ?_
   refine d_done (by kernel_rfl) ?_
   refine go 6 ?_
   refine o_cons (o_yes rfl rfl rfl (o_val rfl (OV.cast (u := .bool true) (v_eql rfl rfl) (congrArg Value.bool (by decide +kernel))) ?_))
   refine go 4 ?_
   refine o_yes rfl rfl rfl (o_val rfl (v_build (pl := [(0, 1), (1, 1)]) he he rfl rfl) ?_)
   refine o_cons (o_yes rfl rfl rfl (o_val rfl (OV.cast (u := .bool true) (v_steql T.eqg_32 (eqS_Ivl (valueF exSC[1] sDays 9).1 ⟨5, 5⟩) rfl rfl) (congrArg Value.bool (by decide +kernel))) ?_))
   refine go 3 ?_
   refine o_cons (o_yes rfl rfl rfl (o_val rfl (OV.cast (u := .bool true) (v_eql rfl rfl) (congrArg Value.bool (by decide +kernel))) ?_))
   refine go 4 ?_
   refine o_yes rfl rfl rfl (o_val rfl (v_build (pl := [(0, 1), (1, 1)]) he he rfl rfl) ?_)
   refine o_cons (o_yes rfl rfl rfl (o_val rfl (OV.cast (u := .bool true) (v_steql T.eqg_32 (eqS_Ivl (valueF exSC[1] sAge 9).1 ⟨9, 9⟩) rfl rfl) (congrArg Value.bool (by decide +kernel))) ?_))
   refine go 3 ?_
   refine o_cons (o_yes rfl rfl rfl (o_val rfl (OV.cast (u := .bool true) (v_eql rfl rfl) (congrArg Value.bool (by decide +kernel))) ?_))
   refine go 5 ?_
   refine fin1 rfl rfl ?_
   exact q_vI rfl
 ·refine o_alloc he rfl (fun g3 => ?_)
  refine d_on (fun _ m => m.keeps (.cons _ (.refl _))) ?_
  refine d_one 3 (by kernel_rfl) rfl ?_
  refine o_call (exRun _ vc hvc sf hf _ (exEs.take 4) (RdS.take hv 4 (by decide)) (by decide) (fun e he => ex_smE e (List.mem_of_mem_take he)) _ ex_a) rfl rfl (fun v28 I28 j28 q28 => ?_)
  try have hvc := hvc.le j28
  try have hf := hf.le j28
  try have hv := hv.le j28
  try have hw3 := hw3.le j28
  try have hw6 := hw6.le j28
  obtain ⟨w3, rfl, hw3⟩ := q28
  refine d_on (fun _ m => m.keepsI (.cons _ (.refl _)) (j28) hE2 hf2) ?_
  refine d_t 4 rfl rfl (by kernel_rfl) rfl (fun _ m => m.keepsI (.cons _ (.refl _)) (j28) hE2 hf2) (y_v rfl (v_move rfl)) ?_
  refine d_t 5 rfl rfl (by kernel_rfl) rfl (fun _ m => m.keepsI (.cons _ (.refl _)) (j28) hE2 hf2) (y_v rfl (v_extract rfl rfl)) ?_
  refine d_t 6 rfl rfl (by kernel_rfl) rfl (fun _ m => m.keepsI (.cons _ (.refl _)) (j28) hE2 hf2) (y_v rfl (v_extract rfl rfl)) ?_
  refine d_t 7 rfl rfl (by kernel_rfl) rfl (fun _ m => m.keepsI (.cons _ (.refl _)) (j28) hE2 hf2) (y_v rfl (v_extract rfl rfl)) ?_
  refine d_one 9 (by kernel_rfl) rfl ?_
  refine o_stw _ he rfl rfl rfl rfl rfl (by simp [hw3.one]) ?_
  refine d_on (fun _ m => m.keepsI (.cons _ (.refl _)) (j28) hE2 hf2) ?_
  refine d_t 10 rfl rfl (by kernel_rfl) rfl (fun _ m => m.keepsI (.cons _ (.refl _)) (j28) hE2 hf2) (y_v rfl (v_assign rfl)) ?_
  refine d_t 11 rfl rfl (by kernel_rfl) rfl (fun _ m => m.keepsI (.cons _ (.refl _)) (j28) hE2 hf2) (y_v rfl (v_assign rfl)) ?_
  refine d_done (by kernel_rfl) ?_
  refine go 2 ?_
  refine sx_knowI (fun hE3 hf3 => ?_)
  refine d_startH T.mixed ?_
  refine d_tv 0 rfl rfl (by kernel_rfl) rfl (.refl _) rfl (v_ldw m1 he rfl rfl) ?_
  refine d_tv 1 rfl rfl (by kernel_rfl) rfl (.refl _) rfl (v_move rfl) ?_
  refine d_tv 2 rfl rfl (by kernel_rfl) rfl (.refl _) rfl (v_slice_hi he rfl rfl 6 rfl (by have : exEs.length = 7 := rfl; omega)) ?_
  refine d_two 3 8 (by kernel_rfl) rfl rfl ?_ ?_
  ·refine o_call (exRun _ vc hvc sf hf _ (exEs.take 6) (RdS.take hv 6 (by decide)) (by decide) (fun e he => ex_smE e (List.mem_of_mem_take he)) _ ex_b) rfl rfl (fun v36 I36 j36 q36 => ?_)
   try have hvc := hvc.le j36
   try have hf := hf.le j36
   try have hv := hv.le j36
   try have hw3 := hw3.le j36
   try have hw6 := hw6.le j36
   obtain ⟨w6, rfl, hw6⟩ := q36
   refine d_on (fun _ m => m.keepsI (.refl _) (j36) hE3 hf3) ?_
   refine d_t 4 rfl rfl (by kernel_rfl) rfl (fun _ m => m.keepsI (.refl _) (j36) hE3 hf3) (y_v rfl (v_move rfl)) ?_
   refine d_t 5 rfl rfl (by kernel_rfl) rfl (fun _ m => m.keepsI (.refl _) (j36) hE3 hf3) (y_v rfl (v_extract rfl rfl)) ?_
   refine d_t 6 rfl rfl (by kernel_rfl) rfl (fun _ m => m.keepsI (.refl _) (j36) hE3 hf3) (y_v rfl (v_extract rfl rfl)) ?_
   refine d_t 7 rfl rfl (by kernel_rfl) rfl (fun _ m => m.keepsI (.refl _) (j36) hE3 hf3) (y_v rfl (v_extract rfl rfl)) ?_
   refine d_one 8 (by kernel_rfl) rfl ?_
   refine o_alloc he rfl (fun g6 => ?_)
   refine d_on (fun _ m => m.keepsI (.cons _ (.refl _)) (j36) hE3 hf3) ?_
   refine d_one 9 (by kernel_rfl) rfl ?_
   refine o_stw _ he rfl rfl rfl rfl rfl (by simp [hw6.one]) ?_
   refine d_on (fun _ m => m.keepsI (.cons _ (.refl _)) (j36) hE3 hf3) ?_
   refine d_t 10 rfl rfl (by kernel_rfl) rfl (fun _ m => m.keepsI (.cons _ (.refl _)) (j36) hE3 hf3) (y_v rfl (v_assign rfl)) ?_
   refine d_t 11 rfl rfl (by kernel_rfl) rfl (fun _ m => m.keepsI (.cons _ (.refl _)) (j36) hE3 hf3) (y_v rfl (v_assign rfl)) ?_
   refine d_done (by kernel_rfl) ?_
   refine go 6 ?_
   refine o_call (exRun _ vc hvc sf hf _ exEs hv (by decide) (fun e he => ex_smE e he) _ ex_c) rfl rfl (fun v43 I43 j43 q43 => ?_)
   try have hvc := hvc.le j43
   try have hf := hf.le j43
   try have hv := hv.le j43
   try have hw3 := hw3.le j43
   try have hw6 := hw6.le j43
   obtain ⟨w9, rfl, hw9⟩ := q43
   obtain ⟨A3, c3, rfl, hA3, _, _⟩ := hw3
   obtain ⟨A6, c6, rfl, hA6, _, _⟩ := hw6
   obtain ⟨A9, c9, rfl, hA9, _, _⟩ := hw9
   refine go 5 ?_
   refine o_alloc he rfl (fun g9 => ?_)
   refine go 1 ?_
   refine o_stw _ he rfl rfl rfl rfl rfl rfl ?_
   refine go 8 ?_
   refine o_v rfl (OV.cast (u := .bool false) (v_neq rfl rfl) rfl) ?_
   refine go 2 ?_
   refine o_cons (o_yes rfl rfl rfl (o_val rfl (OV.cast (u := .bool false) (v_neq rfl rfl) rfl) ?_))
   refine go 3 ?_
   refine o_cons (o_yes rfl rfl rfl (o_val rfl (OV.cast (u := .bool false) (v_neq rfl rfl) rfl) ?_))
   refine go 5 ?_
   refine o_cons (o_yes rfl rfl rfl (o_val rfl (OV.cast (u := .bool false) (v_neq rfl rfl) rfl) ?_))
   refine go 5 ?_
   refine o_cons (o_yes rfl rfl rfl (o_val rfl (OV.cast (u := .bool false) (v_neq rfl rfl) rfl) ?_))
   refine go 5 ?_
   refine o_cons (o_yes rfl rfl rfl (o_val rfl (OV.cast (u := .bool false) (v_neq rfl rfl) rfl) ?_))
   refine go 3 ?_
   refine c_false rfl ?_
   refine go 5 ?_
   refine o_val rfl (v_build (pl := [(0, 1), (1, 1)]) he he rfl rfl) ?_
   refine go 1 ?_
   refine o_val rfl (v_build (pl := [(0, 1), (1, 1)]) he he rfl rfl) ?_
   refine go 1 ?_
   refine o_val rfl (v_build (pl := [(0, 1), (1, 1)]) he he rfl rfl) ?_
   refine go 1 ?_
   refine o_val rfl (v_build (pl := [(0, 2), (2, 2), (4, 2)]) he he rfl rfl) ?_
   refine go 1 ?_
   refine o_alloc he rfl (fun g12 => ?_)
   refine go 1 ?_
   refine o_stw _ he rfl rfl rfl rfl rfl rfl ?_
   refine go 6 ?_
   obtain ⟨b82, o82, w82, e82, c82, r82⟩ := RdA.at_ hA9 (i := 1) (by decide)
   obtain ⟨q82, rfl, hq82⟩ := r82
   refine o_v rfl (v_idx he rfl rfl e82 1 rfl (by decide)) ?_
   refine o_v rfl (v_ldIa he rfl c82 rfl) ?_
   refine go 1 ?_
   refine o_callV (lifeValue _ exSC[1] q82 (RdS.one hq82) sDays 9) rfl rfl ?_
   refine go 4 ?_
   refine o_alloc he rfl (fun g13 => ?_)
   refine go 1 ?_
   refine o_stw _ he rfl rfl rfl rfl rfl rfl ?_
   refine go 7 ?_
   obtain ⟨b90, o90, w90, e90, c90, r90⟩ := RdA.at_ hA9 (i := 1) (by decide)
   obtain ⟨q90, rfl, hq90⟩ := r90
   refine o_v rfl (v_idx he rfl rfl e90 1 rfl (by decide)) ?_
   refine o_v rfl (v_ldIa he rfl c90 rfl) ?_
   refine go 1 ?_
   refine o_callV (lifeValue _ exSC[1] q90 (RdS.one hq90) sAge 9) rfl rfl ?_
   refine go 4 ?_
   refine o_alloc he rfl (fun g15 => ?_)
   refine go 1 ?_
   refine o_stw _ he rfl rfl rfl rfl rfl rfl ?_
   refine go 7 ?_
   obtain ⟨b98, o98, w98, e98, c98, r98⟩ := RdA.at_ hA9 (i := 1) (by decide)
   obtain ⟨q98, rfl, hq98⟩ := r98
   refine o_v rfl (v_idx he rfl rfl e98 1 rfl (by decide)) ?_
   refine o_v rfl (v_ldIa he rfl c98 rfl) ?_
   refine go 1 ?_
   refine o_callV (lifeValue _ exSC[1] q98 (RdS.one hq98) ⟨#[121, 101, 97, 114, 115]⟩ 9) rfl rfl ?_
   refine go 4 ?_
   refine o_alloc he rfl (fun g17 => ?_)
   refine go 1 ?_
   refine o_stw _ he rfl rfl rfl rfl rfl rfl ?_
   refine go 4 ?_
   refine d_startH T.mixed ?_
   refine d_tv 0 rfl rfl (by kernel_rfl) rfl (.refl _) rfl (v_fieldAddr he rfl) ?_
   refine d_tv 1 rfl rfl (by kernel_rfl) rfl (.refl _) rfl (v_ld m6 he rfl rfl) ?_
   obtain ⟨b105, o105, w105, e105, c105, r105⟩ := RdA.at_ hA3 (i := 0) (by decide)
   obtain ⟨q105, rfl, hq105⟩ := r105
   refine d_tv 2 rfl rfl (by kernel_rfl) rfl (.refl _) rfl (v_idx he rfl rfl e105 0 rfl (by decide)) ?_
   refine d_tv 3 rfl rfl (by kernel_rfl) rfl (.refl _) rfl (v_fieldAddr he rfl) ?_
   refine d_tv 4 rfl rfl (by kernel_rfl) rfl (.refl _) rfl (v_ldIa he rfl (c105.sub 8 6) rfl) ?_
   refine d_tv 5 rfl rfl (by kernel_rfl) rfl (.refl _) rfl (v_ldw m3 he rfl rfl) ?_
   refine d_tv 6 rfl rfl (by kernel_rfl) rfl (.refl _) rfl (OV.cast (u := .bool true) (v_steql T.eqg_47 (eqS_Life exSA[0].life exLife) rfl rfl) (congrArg Value.bool (by decide +kernel))) ?_
   refine d_tv 7 rfl rfl (by kernel_rfl) rfl (.refl _) rfl (v_move rfl) ?_
   refine d_t 8 rfl rfl (by kernel_rfl) rfl (fun _ m => m.keeps (.refl _)) (y_yes rfl rfl rfl (v_fieldAddr he rfl)) ?_
   refine d_t 9 rfl rfl (by kernel_rfl) rfl (fun _ m => m.keeps (.refl _)) (y_yes rfl rfl rfl (v_ld m6 he rfl rfl)) ?_
   obtain ⟨b113, o113, w113, e113, c113, r113⟩ := RdA.at_ hA3 (i := 1) (by decide)
   obtain ⟨q113, rfl, hq113⟩ := r113
   refine d_t 10 rfl rfl (by kernel_rfl) rfl (fun _ m => m.keeps (.refl _)) (y_yes rfl rfl rfl (v_idx he rfl rfl e113 1 rfl (by decide))) ?_
   refine d_t 11 rfl rfl (by kernel_rfl) rfl (fun _ m => m.keeps (.refl _)) (y_yes rfl rfl rfl (v_fieldAddr he rfl)) ?_
   refine d_t 12 rfl rfl (by kernel_rfl) rfl (fun _ m => m.keeps (.refl _)) (y_yes rfl rfl rfl (v_ldIa he rfl (c113.sub 8 6) rfl)) ?_
   refine d_t 13 rfl rfl (by kernel_rfl) rfl (fun _ m => m.keeps (.refl _)) (y_yes rfl rfl rfl (v_ldw m3 he rfl rfl)) ?_
   refine d_t 14 rfl rfl (by kernel_rfl) rfl (fun _ m => m.keeps (.refl _)) (y_yes rfl rfl rfl (OV.cast (u := .bool true) (v_steql T.eqg_47 (eqS_Life exSA[1].life exLife) rfl rfl) (congrArg Value.bool (by decide +kernel)))) ?_
   refine d_tv 15 rfl rfl (by kernel_rfl) rfl (.refl _) rfl (v_and_t rfl rfl rfl) ?_
   refine d_tv 16 rfl rfl (by kernel_rfl) rfl (.refl _) rfl (v_move rfl) ?_
   refine d_t 17 rfl rfl (by kernel_rfl) rfl (fun _ m => m.keeps (.refl _)) (y_yes rfl rfl rfl (v_fieldAddr he rfl)) ?_
   refine d_t 18 rfl rfl (by kernel_rfl) rfl (fun _ m => m.keeps (.refl _)) (y_yes rfl rfl rfl (v_ld m5 he rfl rfl)) ?_
   obtain ⟨b122, o122, w122, e122, c122, r122⟩ := RdA.at_ hA6 (i := 0) (by decide)
   obtain ⟨q122, rfl, hq122⟩ := r122
   refine d_t 19 rfl rfl (by kernel_rfl) rfl (fun _ m => m.keeps (.refl _)) (y_yes rfl rfl rfl (v_idx he rfl rfl e122 0 rfl (by decide))) ?_
   refine d_t 20 rfl rfl (by kernel_rfl) rfl (fun _ m => m.keeps (.refl _)) (y_yes rfl rfl rfl (v_fieldAddr he rfl)) ?_
   refine d_t 21 rfl rfl (by kernel_rfl) rfl (fun _ m => m.keeps (.refl _)) (y_yes rfl rfl rfl (v_ldIa he rfl (c122.sub 8 6) rfl)) ?_
   refine d_t 22 rfl rfl (by kernel_rfl) rfl (fun _ m => m.keeps (.refl _)) (y_yes rfl rfl rfl (v_ldw m3 he rfl rfl)) ?_
   refine d_t 23 rfl rfl (by kernel_rfl) rfl (fun _ m => m.keeps (.refl _)) (y_yes rfl rfl rfl (OV.cast (u := .bool true) (v_steql T.eqg_47 (eqS_Life exSB[0].life exLife) rfl rfl) (congrArg Value.bool (by decide +kernel)))) ?_
   refine d_tv 24 rfl rfl (by kernel_rfl) rfl (.refl _) rfl (v_and_t rfl rfl rfl) ?_
   refine d_tv 25 rfl rfl (by kernel_rfl) rfl (.refl _) rfl (v_move rfl) ?_
   refine d_t 26 rfl rfl (by kernel_rfl) rfl (fun _ m => m.keeps (.refl _)) (y_yes rfl rfl rfl (v_fieldAddr he rfl)) ?_
   refine d_t 27 rfl rfl (by kernel_rfl) rfl (fun _ m => m.keeps (.refl _)) (y_yes rfl rfl rfl (v_ld m5 he rfl rfl)) ?_
   obtain ⟨b131, o131, w131, e131, c131, r131⟩ := RdA.at_ hA6 (i := 1) (by decide)
   obtain ⟨q131, rfl, hq131⟩ := r131
   refine d_t 28 rfl rfl (by kernel_rfl) rfl (fun _ m => m.keeps (.refl _)) (y_yes rfl rfl rfl (v_idx he rfl rfl e131 1 rfl (by decide))) ?_
   refine d_t 29 rfl rfl (by kernel_rfl) rfl (fun _ m => m.keeps (.refl _)) (y_yes rfl rfl rfl (v_fieldAddr he rfl)) ?_
   refine d_t 30 rfl rfl (by kernel_rfl) rfl (fun _ m => m.keeps (.refl _)) (y_yes rfl rfl rfl (v_fieldAddr he rfl)) ?_
   refine d_t 31 rfl rfl (by kernel_rfl) rfl (fun _ m => m.keeps (.refl _)) (y_yes rfl rfl rfl (v_ldIa he rfl (c131.sub 8 2) rfl)) ?_
   refine d_t 32 rfl rfl (by kernel_rfl) rfl (fun _ m => m.keeps (.refl _)) (y_yes rfl rfl rfl (v_build (pl := [(0, 1), (1, 1)]) he he rfl rfl)) ?_
   refine d_t 33 rfl rfl (by kernel_rfl) rfl (fun _ m => m.keeps (.refl _)) (y_yes rfl rfl rfl (OV.cast (u := .bool true) (v_steql T.eqg_32 (eqS_Ivl exSB[1].life.km ⟨15, 17⟩) rfl rfl) (congrArg Value.bool (by decide +kernel)))) ?_
   refine d_tv 34 rfl rfl (by kernel_rfl) rfl (.refl _) rfl (v_and_t rfl rfl rfl) ?_
   refine d_tv 35 rfl rfl (by kernel_rfl) rfl (.refl _) rfl (v_move rfl) ?_
   refine d_t 36 rfl rfl (by kernel_rfl) rfl (fun _ m => m.keeps (.refl _)) (y_yes rfl rfl rfl (v_fieldAddr he rfl)) ?_
   refine d_t 37 rfl rfl (by kernel_rfl) rfl (fun _ m => m.keeps (.refl _)) (y_yes rfl rfl rfl (v_ld m4 he rfl rfl)) ?_
   obtain ⟨b141, o141, w141, e141, c141, r141⟩ := RdA.at_ hA9 (i := 1) (by decide)
   obtain ⟨q141, rfl, hq141⟩ := r141
   refine d_t 38 rfl rfl (by kernel_rfl) rfl (fun _ m => m.keeps (.refl _)) (y_yes rfl rfl rfl (v_idx he rfl rfl e141 1 rfl (by decide))) ?_
   refine d_t 39 rfl rfl (by kernel_rfl) rfl (fun _ m => m.keeps (.refl _)) (y_yes rfl rfl rfl (v_fieldAddr he rfl)) ?_
   refine d_t 40 rfl rfl (by kernel_rfl) rfl (fun _ m => m.keeps (.refl _)) (y_yes rfl rfl rfl (v_ldIa he rfl (c141.sub 8 6) rfl)) ?_
   refine d_t 41 rfl rfl (by kernel_rfl) rfl (fun _ m => m.keeps (.refl _)) (y_yes rfl rfl rfl (v_build (pl := [(0, 2), (2, 2), (4, 2)]) he he rfl rfl)) ?_
   refine d_t 42 rfl rfl (by kernel_rfl) rfl (fun _ m => m.keeps (.refl _)) (y_yes rfl rfl rfl (OV.cast (u := .bool true) (v_steql T.eqg_47 (eqS_Life exSC[1].life zLife) rfl rfl) (congrArg Value.bool (by decide +kernel)))) ?_
   refine d_tv 43 rfl rfl (by kernel_rfl) rfl (.refl _) rfl (v_and_t rfl rfl rfl) ?_
   refine d_tv 44 rfl rfl (by kernel_rfl) rfl (.refl _) rfl (v_assign rfl) ?_
   refine d_done (by kernel_rfl) ?_
   refine go 6 ?_
   refine o_cons (o_yes rfl rfl rfl (o_val rfl (OV.cast (u := .bool true) (v_eql rfl rfl) (congrArg Value.bool (by decide +kernel))) ?_))
   refine go 4 ?_
   refine o_yes rfl rfl rfl (o_val rfl (v_build (pl := [(0, 1), (1, 1)]) he he rfl rfl) ?_)
   refine o_cons (o_yes rfl rfl rfl (o_val rfl (OV.cast (u := .bool true) (v_steql T.eqg_32 (eqS_Ivl (valueF exSC[1] sDays 9).1 ⟨5, 5⟩) rfl rfl) (congrArg Value.bool (by decide +kernel))) ?_))
   refine go 3 ?_
   refine o_cons (o_yes rfl rfl rfl (o_val rfl (OV.cast (u := .bool true) (v_eql rfl rfl) (congrArg Value.bool (by decide +kernel))) ?_))
   refine go 4 ?_
   refine o_yes rfl rfl rfl (o_val rfl (v_build (pl := [(0, 1), (1, 1)]) he he rfl rfl) ?_)
   refine o_cons (o_yes rfl rfl rfl (o_val rfl (OV.cast (u := .bool true) (v_steql T.eqg_32 (eqS_Ivl (valueF exSC[1] sAge 9).1 ⟨9, 9⟩) rfl rfl) (congrArg Value.bool (by decide +kernel))) ?_))
   refine go 3 ?_
   refine o_cons (o_yes rfl rfl rfl (o_val rfl (OV.cast (u := .bool true) (v_eql rfl rfl) (congrArg Value.bool (by decide +kernel))) ?_))
   refine go 5 ?_
   refine fin1 rfl rfl ?_
   exact q_vI rfl
  ·refine o_alloc he rfl (fun g6 => ?_)
   refine d_on (fun _ m => m.keeps (.cons _ (.refl _))) ?_
   refine d_one 3 (by kernel_rfl) rfl ?_
   refine o_call (exRun _ vc hvc sf hf _ (exEs.take 6) (RdS.take hv 6 (by decide)) (by decide) (fun e he => ex_smE e (List.mem_of_mem_take he)) _ ex_b) rfl rfl (fun v36 I36 j36 q36 => ?_)
   try have hvc := hvc.le j36
   try have hf := hf.le j36
   try have hv := hv.le j36
   try have hw3 := hw3.le j36
   try have hw6 := hw6.le j36
   obtain ⟨w6, rfl, hw6⟩ := q36
   refine d_on (fun _ m => m.keepsI (.cons _ (.refl _)) (j36) hE3 hf3) ?_
   refine d_t 4 rfl rfl (by kernel_rfl) rfl (fun _ m => m.keepsI (.cons _ (.refl _)) (j36) hE3 hf3) (y_v rfl (v_move rfl)) ?_
   refine d_t 5 rfl rfl (by kernel_rfl) rfl (fun _ m => m.keepsI (.cons _ (.refl _)) (j36) hE3 hf3) (y_v rfl (v_extract rfl rfl)) ?_
   refine d_t 6 rfl rfl (by kernel_rfl) rfl (fun _ m => m.keepsI (.cons _ (.refl _)) (j36) hE3 hf3) (y_v rfl (v_extract rfl rfl)) ?_
   refine d_t 7 rfl rfl (by kernel_rfl) rfl (fun _ m => m.keepsI (.cons _ (.refl _)) (j36) hE3 hf3) (y_v rfl (v_extract rfl rfl)) ?_
   refine d_one 9 (by kernel_rfl) rfl ?_
   refine o_stw _ he rfl rfl rfl rfl rfl (by simp [hw6.one]) ?_
   refine d_on (fun _ m => m.keepsI (.cons _ (.refl _)) (j36) hE3 hf3) ?_
   refine d_t 10 rfl rfl (by kernel_rfl) rfl (fun _ m => m.keepsI (.cons _ (.refl _)) (j36) hE3 hf3) (y_v rfl (v_assign rfl)) ?_
   refine d_t 11 rfl rfl (by kernel_rfl) rfl (fun _ m => m.keepsI (.cons _ (.refl _)) (j36) hE3 hf3) (y_v rfl (v_assign rfl)) ?_
   refine d_done (by kernel_rfl) ?_
   refine go 6 ?_
   refine o_call (exRun _ vc hvc sf hf _ exEs hv (by decide) (fun e he => ex_smE e he) _ ex_c) rfl rfl (fun v43 I43 j43 q43 => ?_)
   try have hvc := hvc.le j43
   try have hf := hf.le j43
   try have hv := hv.le j43
   try have hw3 := hw3.le j43
   try have hw6 := hw6.le j43
   obtain ⟨w9, rfl, hw9⟩ := q43
   obtain ⟨A3, c3, rfl, hA3, _, _⟩ := hw3
   obtain ⟨A6, c6, rfl, hA6, _, _⟩ := hw6
   obtain ⟨A9, c9, rfl, hA9, _, _⟩ := hw9
   refine go 5 ?_
   refine o_alloc he rfl (fun g9 => ?_)
   refine go 1 ?_
   refine o_stw _ he rfl rfl rfl rfl rfl rfl ?_
   refine go 8 ?_
   refine o_v rfl (OV.cast (u := .bool false) (v_neq rfl rfl) rfl) ?_
   refine go 2 ?_
   refine o_cons (o_yes rfl rfl rfl (o_val rfl (OV.cast (u := .bool false) (v_neq rfl rfl) rfl) ?_))
   refine go 3 ?_
   refine o_cons (o_yes rfl rfl rfl (o_val rfl (OV.cast (u := .bool false) (v_neq rfl rfl) rfl) ?_))
   refine go 5 ?_
   refine o_cons (o_yes rfl rfl rfl (o_val rfl (OV.cast (u := .bool false) (v_neq rfl rfl) rfl) ?_))
   refine go 5 ?_
   refine o_cons (o_yes rfl rfl rfl (o_val rfl (OV.cast (u := .bool false) (v_neq rfl rfl) rfl) ?_))
   refine go 5 ?_
   refine o_cons (o_yes rfl rfl rfl (o_val rfl (OV.cast (u := .bool false) (v_neq rfl rfl) rfl) ?_))
   refine go 3 ?_
   refine c_false rfl ?_
   refine go 5 ?_
   refine o_val rfl (v_build (pl := [(0, 1), (1, 1)]) he he rfl rfl) ?_
   refine go 1 ?_
   refine o_val rfl (v_build (pl := [(0, 1), (1, 1)]) he he rfl rfl) ?_
   refine go 1 ?_
   refine o_val rfl (v_build (pl := [(0, 1), (1, 1)]) he he rfl rfl) ?_
   refine go 1 ?_
   refine o_val rfl (v_build (pl := [(0, 2), (2, 2), (4, 2)]) he he rfl rfl) ?_
   refine go 1 ?_
   refine o_alloc he rfl (fun g12 => ?_)
   refine go 1 ?_
   refine o_stw _ he rfl rfl rfl rfl rfl rfl ?_
   refine go 6 ?_
   obtain ⟨b82, o82, w82, e82, c82, r82⟩ := RdA.at_ hA9 (i := 1) (by decide)
   obtain ⟨q82, rfl, hq82⟩ := r82
   refine o_v rfl (v_idx he rfl rfl e82 1 rfl (by decide)) ?_
   refine o_v rfl (v_ldIa he rfl c82 rfl) ?_
   refine go 1 ?_
   refine o_callV (lifeValue _ exSC[1] q82 (RdS.one hq82) sDays 9) rfl rfl ?_
   refine go 4 ?_
   refine o_alloc he rfl (fun g13 => ?_)
   refine go 1 ?_
   refine o_stw _ he rfl rfl rfl rfl rfl rfl ?_
   refine go 7 ?_
   obtain ⟨b90, o90, w90, e90, c90, r90⟩ := RdA.at_ hA9 (i := 1) (by decide)
   obtain ⟨q90, rfl, hq90⟩ := r90
   refine o_v rfl (v_idx he rfl rfl e90 1 rfl (by decide)) ?_
   refine o_v rfl (v_ldIa he rfl c90 rfl) ?_
   refine go 1 ?_
   refine o_callV (lifeValue _ exSC[1] q90 (RdS.one hq90) sAge 9) rfl rfl ?_
   refine go 4 ?_
   refine o_alloc he rfl (fun g15 => ?_)
   refine go 1 ?_
   refine o_stw _ he rfl rfl rfl rfl rfl rfl ?_
   refine go 7 ?_
   obtain ⟨b98, o98, w98, e98, c98, r98⟩ := RdA.at_ hA9 (i := 1) (by decide)
   obtain ⟨q98, rfl, hq98⟩ := r98
   refine o_v rfl (v_idx he rfl rfl e98 1 rfl (by decide)) ?_
   refine o_v rfl (v_ldIa he rfl c98 rfl) ?_
   refine go 1 ?_
   refine o_callV (lifeValue _ exSC[1] q98 (RdS.one hq98) ⟨#[121, 101, 97, 114, 115]⟩ 9) rfl rfl ?_
   refine go 4 ?_
   refine o_alloc he rfl (fun g17 => ?_)
   refine go 1 ?_
   refine o_stw _ he rfl rfl rfl rfl rfl rfl ?_
   refine go 4 ?_
   refine d_startH T.mixed ?_
   refine d_tv 0 rfl rfl (by kernel_rfl) rfl (.refl _) rfl (v_fieldAddr he rfl) ?_
   refine d_tv 1 rfl rfl (by kernel_rfl) rfl (.refl _) rfl (v_ld m6 he rfl rfl) ?_
   obtain ⟨b105, o105, w105, e105, c105, r105⟩ := RdA.at_ hA3 (i := 0) (by decide)
   obtain ⟨q105, rfl, hq105⟩ := r105
   refine d_tv 2 rfl rfl (by kernel_rfl) rfl (.refl _) rfl (v_idx he rfl rfl e105 0 rfl (by decide)) ?_
   refine d_tv 3 rfl rfl (by kernel_rfl) rfl (.refl _) rfl (v_fieldAddr he rfl) ?_
   refine d_tv 4 rfl rfl (by kernel_rfl) rfl (.refl _) rfl (v_ldIa he rfl (c105.sub 8 6) rfl) ?_
   refine d_tv 5 rfl rfl (by kernel_rfl) rfl (.refl _) rfl (v_ldw m3 he rfl rfl) ?_
   refine d_tv 6 rfl rfl (by kernel_rfl) rfl (.refl _) rfl (OV.cast (u := .bool true) (v_steql T.eqg_47 (eqS_Life exSA[0].life exLife) rfl rfl) (congrArg Value.bool (by decide +kernel))) ?_
   refine d_tv 7 rfl rfl (by kernel_rfl) rfl (.refl _) rfl (v_move rfl) ?_
   refine d_t 8 rfl rfl (by kernel_rfl) rfl (fun _ m => m.keeps (.refl _)) (y_yes rfl rfl rfl (v_fieldAddr he rfl)) ?_
   refine d_t 9 rfl rfl (by kernel_rfl) rfl (fun _ m => m.keeps (.refl _)) (y_yes rfl rfl rfl (v_ld m6 he rfl rfl)) ?_
   obtain ⟨b113, o113, w113, e113, c113, r113⟩ := RdA.at_ hA3 (i := 1) (by decide)
   obtain ⟨q113, rfl, hq113⟩ := r113
   refine d_t 10 rfl rfl (by kernel_rfl) rfl (fun _ m => m.keeps (.refl _)) (y_yes rfl rfl rfl (v_idx he rfl rfl e113 1 rfl (by decide))) ?_
   refine d_t 11 rfl rfl (by kernel_rfl) rfl (fun _ m => m.keeps (.refl _)) (y_yes rfl rfl rfl (v_fieldAddr he rfl)) ?_
   refine d_t 12 rfl rfl (by kernel_rfl) rfl (fun _ m => m.keeps (.refl _)) (y_yes rfl rfl rfl (v_ldIa he rfl (c113.sub 8 6) rfl)) ?_
   refine d_t 13 rfl rfl (by kernel_rfl) rfl (fun _ m => m.keeps (.refl _)) (y_yes rfl rfl rfl (v_ldw m3 he rfl rfl)) ?_
   refine d_t 14 rfl rfl (by kernel_rfl) rfl (fun _ m => m.keeps (.refl _)) (y_yes rfl rfl rfl (OV.cast (u := .bool true) (v_steql T.eqg_47 (eqS_Life exSA[1].life exLife) rfl rfl) (congrArg Value.bool (by decide +kernel)))) ?_
   refine d_tv 15 rfl rfl (by kernel_rfl) rfl (.refl _) rfl (v_and_t rfl rfl rfl) ?_
   refine d_tv 16 rfl rfl (by kernel_rfl) rfl (.refl _) rfl (v_move rfl) ?_
   refine d_t 17 rfl rfl (by kernel_rfl) rfl (fun _ m => m.keeps (.refl _)) (y_yes rfl rfl rfl (v_fieldAddr he rfl)) ?_
   refine d_t 18 rfl rfl (by kernel_rfl) rfl (fun _ m => m.keeps (.refl _)) (y_yes rfl rfl rfl (v_ld m5 he rfl rfl)) ?_
   obtain ⟨b122, o122, w122, e122, c122, r122⟩ := RdA.at_ hA6 (i := 0) (by decide)
   obtain ⟨q122, rfl, hq122⟩ := r122
   refine d_t 19 rfl rfl (by kernel_rfl) rfl (fun _ m => m.keeps (.refl _)) (y_yes rfl rfl rfl (v_idx he rfl rfl e122 0 rfl (by decide))) ?_
   refine d_t 20 rfl rfl (by kernel_rfl) rfl (fun _ m => m.keeps (.refl _)) (y_yes rfl rfl rfl (v_fieldAddr he rfl)) ?_
   refine d_t 21 rfl rfl (by kernel_rfl) rfl (fun _ m => m.keeps (.refl _)) (y_yes rfl rfl rfl (v_ldIa he rfl (c122.sub 8 6) rfl)) ?_
   refine d_t 22 rfl rfl (by kernel_rfl) rfl (fun _ m => m.keeps (.refl _)) (y_yes rfl rfl rfl (v_ldw m3 he rfl rfl)) ?_
   refine d_t 23 rfl rfl (by kernel_rfl) rfl (fun _ m => m.keeps (.refl _)) (y_yes rfl rfl rfl (OV.cast (u := .bool true) (v_steql T.eqg_47 (eqS_Life exSB[0].life exLife) rfl rfl) (congrArg Value.bool (by decide +kernel)))) ?_
   refine d_tv 24 rfl rfl (by kernel_rfl) rfl (.refl _) rfl (v_and_t rfl rfl rfl) ?_
   refine d_tv 25 rfl rfl (by kernel_rfl) rfl (.refl _) rfl (v_move rfl) ?_
   refine d_t 26 rfl rfl (by kernel_rfl) rfl (fun _ m => m.keeps (.refl _)) (y_yes rfl rfl rfl (v_fieldAddr he rfl)) ?_
   refine d_t 27 rfl rfl (by kernel_rfl) rfl (fun _ m => m.keeps (.refl _)) (y_yes rfl rfl rfl (v_ld m5 he rfl rfl)) ?_
   obtain ⟨b131, o131, w131, e131, c131, r131⟩ := RdA.at_ hA6 (i := 1) (by decide)
   obtain ⟨q131, rfl, hq131⟩ := r131
   refine d_t 28 rfl rfl (by kernel_rfl) rfl (fun _ m => m.keeps (.refl _)) (y_yes rfl rfl rfl (v_idx he rfl rfl e131 1 rfl (by decide))) ?_
   refine d_t 29 rfl rfl (by kernel_rfl) rfl (fun _ m => m.keeps (.refl _)) (y_yes rfl rfl rfl (v_fieldAddr he rfl)) ?_
   refine d_t 30 rfl rfl (by kernel_rfl) rfl (fun _ m => m.keeps (.refl _)) (y_yes rfl rfl rfl (v_fieldAddr he rfl)) ?_
   refine d_t 31 rfl rfl (by kernel_rfl) rfl (fun _ m => m.keeps (.refl _)) (y_yes rfl rfl rfl (v_ldIa he rfl (c131.sub 8 2) rfl)) ?_
   refine d_t 32 rfl rfl (by kernel_rfl) rfl (fun _ m => m.keeps (.refl _)) (y_yes rfl rfl rfl (v_build (pl := [(0, 1), (1, 1)]) he he rfl rfl)) ?_
   refine d_t 33 rfl rfl (by kernel_rfl) rfl (fun _ m => m.keeps (.refl _)) (y_yes rfl rfl rfl (OV.cast (u := .bool true) (v_steql T.eqg_32 (eqS_Ivl exSB[1].life.km ⟨15, 17⟩) rfl rfl) (congrArg Value.bool (by decide +kernel)))) ?_
   refine d_tv 34 rfl rfl (by kernel_rfl) rfl (.refl _) rfl (v_and_t rfl rfl rfl) ?_
   refine d_tv 35 rfl rfl (by kernel_rfl) rfl (.refl _) rfl (v_move rfl) ?_
   refine d_t 36 rfl rfl (by kernel_rfl) rfl (fun _ m => m.keeps (.refl _)) (y_yes rfl rfl rfl (v_fieldAddr he rfl)) ?_
   refine d_t 37 rfl rfl (by kernel_rfl) rfl (fun _ m => m.keeps (.refl _)) (y_yes rfl rfl rfl (v_ld m4 he rfl rfl)) ?_
   obtain ⟨b141, o141, w141, e141, c141, r141⟩ := RdA.at_ hA9 (i := 1) (by decide)
   obtain ⟨q141, rfl, hq141⟩ := r141
   refine d_t 38 rfl rfl (by kernel_rfl) rfl (fun _ m => m.keeps (.refl _)) (y_yes rfl rfl rfl (v_idx he rfl rfl e141 1 rfl (by decide))) ?_
   refine d_t 39 rfl rfl (by kernel_rfl) rfl (fun _ m => m.keeps (.refl _)) (y_yes rfl rfl rfl (v_fieldAddr he rfl)) ?_
   refine d_t 40 rfl rfl (by kernel_rfl) rfl (fun _ m => m.keeps (.refl _)) (y_yes rfl rfl rfl (v_ldIa he rfl (c141.sub 8 6) rfl)) ?_
   refine d_t 41 rfl rfl (by kernel_rfl) rfl (fun _ m => m.keeps (.refl _)) (y_yes rfl rfl rfl (v_build (pl := [(0, 2), (2, 2), (4, 2)]) he he rfl rfl)) ?_
   refine d_t 42 rfl rfl (by kernel_rfl) rfl (fun _ m => m.keeps (.refl _)) (y_yes rfl rfl rfl (OV.cast (u := .bool true) (v_steql T.eqg_47 (eqS_Life exSC[1].life zLife) rfl rfl) (congrArg Value.bool (by decide +kernel)))) ?_
   refine d_tv 43 rfl rfl (by kernel_rfl) rfl (.refl _) rfl (v_and_t rfl rfl rfl) ?_
   refine d_tv 44 rfl rfl (by kernel_rfl) rfl (.refl _) rfl (v_assign rfl) ?_
   refine d_done (by kernel_rfl) ?_
   refine go 6 ?_
   refine o_cons (o_yes rfl rfl rfl (o_val rfl (OV.cast (u := .bool true) (v_eql rfl rfl) (congrArg Value.bool (by decide +kernel))) ?_))
   refine go 4 ?_
   refine o_yes rfl rfl rfl (o_val rfl (v_build (pl := [(0, 1), (1, 1)]) he he rfl rfl) ?_)
   refine o_cons (o_yes rfl rfl rfl (o_val rfl (OV.cast (u := .bool true) (v_steql T.eqg_32 (eqS_Ivl (valueF exSC[1] sDays 9).1 ⟨5, 5⟩) rfl rfl) (congrArg Value.bool (by decide +kernel))) ?_))
   refine go 3 ?_
   refine o_cons (o_yes rfl rfl rfl (o_val rfl (OV.cast (u := .bool true) (v_eql rfl rfl) (congrArg Value.bool (by decide +kernel))) ?_))
   refine go 4 ?_
   refine o_yes rfl rfl rfl (o_val rfl (v_build (pl := [(0, 1), (1, 1)]) he he rfl rfl) ?_)
   refine o_cons (o_yes rfl rfl rfl (o_val rfl (OV.cast (u := .bool true) (v_steql T.eqg_32 (eqS_Ivl (valueF exSC[1] sAge 9).1 ⟨9, 9⟩) rfl rfl) (congrArg Value.bool (by decide +kernel))) ?_))
   refine go 3 ?_
   refine o_cons (o_yes rfl rfl rfl (o_val rfl (OV.cast (u := .bool true) (v_eql rfl rfl) (congrArg Value.bool (by decide +kernel))) ?_))
   refine go 5 ?_
   refine fin1 rfl rfl ?_
   exact q_vI rfl

theorem law12after (I : IMap) (vc : Value) (c : List Kind) (hvc : RdS I vc c) (hsc : SmC c) (f : Fm) (sf : Value) (hf : FmRd I [ci f.op, ci f.n, sf] f) (v : Value) (l : List Evt) (hv : RdS I v l) (hl : l.length ≤ 24) (hse : ∀ e ∈ l, SmE e) (e : Evt) (hee : SmE e) :
    FnI Tryz.prog 11 #[.agg #[vc, ci f.op, ci f.n, sf], v, .agg e.cells.toArray] I (fun u J => ∃ wa wb, u = .tuple #[.agg #[wa], .agg #[wb], .bool (decide ((runL f c l 40000).2.2 = 0) && decide ((runL f c (l ++ [e]) 40000).2.2 = 0))] ∧ RdS J wa (runL f c l 40000).1 ∧ RdS J wb (runL f c (l ++ [e]) 40000).1) := by
 refine enter Tryz.func11 Tryz.call11 rfl Tryz.ntmps11 rfl (fun w0 => ?_)
 refine go 3 ?_
 refine o_box _ rfl rfl rfl (fun g3 => ?_)
 refine go 1 ?_
 refine o_box _ rfl rfl rfl (fun g5 => ?_)
 refine go 1 ?_
 refine o_alloc he rfl (fun g6 => ?_)
 refine go 1 ?_
 refine o_alloc he rfl (fun g7 => ?_)
 refine go 8 ?_
 refine o_call (lifeRun _ vc c hvc hsc f sf hf v l hv (by omega) hse 40000) rfl rfl (fun v18 I18 j18 q18 => ?_)
 try have hvc := hvc.le j18
 try have hf := hf.le j18
 try have hv := hv.le j18
 try have hwa := hwa.le j18
 try have hA := hA.le j18
 obtain ⟨wa, rfl, hwa⟩ := q18
 refine go 5 ?_
 refine o_alloc he rfl (fun g9 => ?_)
 refine go 1 ?_
 refine o_stw _ he rfl rfl rfl rfl rfl (by simp [RdS.one hwa]) ?_
 refine go 5 ?_
 refine sx_knowI (fun hE2 hf2 => ?_)
 refine d_startH T.mixed ?_
 refine d_tv 0 rfl rfl (by kernel_rfl) rfl (.refl _) rfl (v_ldw m4 he rfl rfl) ?_
 refine d_tv 2 rfl rfl (by kernel_rfl) rfl (.refl _) rfl (v_move rfl) ?_
 refine d_tv 4 rfl rfl (by kernel_rfl) rfl (.refl _) rfl (v_ldw m3 he rfl rfl) ?_
 refine d_three 1 5 12 (by kernel_rfl) rfl rfl rfl ?_ ?_ ?_
 ·refine o_buildSlice he he rfl rfl rfl rfl rfl rfl rfl (fun v24 => ?_)
  refine d_on (fun _ m => m.keeps (.cons _ (.refl _))) ?_
  refine d_three 3 5 12 (by kernel_rfl) rfl rfl rfl ?_ ?_ ?_
  ·refine o_appendR (hv) rfl he he rfl rfl rfl rfl (by omega) (by omega) rfl (fun v26 x26 f26 => ?_)
   refine d_on (fun _ m => m.keeps (.cons _ (.refl _))) ?_
   refine d_two 5 12 (by kernel_rfl) rfl rfl ?_ ?_
   ·refine o_buildSlice he he rfl rfl rfl rfl rfl rfl rfl (fun v28 => ?_)
    refine d_on (fun _ m => m.keeps (.cons _ (.cons _ (.refl _)))) ?_
    refine d_two 6 12 (by kernel_rfl) rfl rfl ?_ ?_
    ·refine bring1 ?_
     refine o_appendO he he rfl rfl rfl rfl rfl (by omega) (by omega) rfl (fun v29 => ?_)
     refine d_on (fun _ m => m.keeps (.cons _ (.cons _ (.refl _)))) ?_
     refine d_two 7 12 (by kernel_rfl) rfl rfl ?_ ?_
     ·refine sx_pubrow (l := (l ++ [e])) rfl (by simp) ((f26.append (.one rfl))) (fun Ip jp Rp => ?_)
      try have hvc := hvc.le jp
      try have hf := hf.le jp
      try have hv := hv.le jp
      try have hwa := hwa.le jp
      try have hA := hA.le jp
      refine o_call (lifeRun _ vc c hvc hsc f sf hf _ (l ++ [e]) Rp (by simp; omega) (fun x hx => by rcases List.mem_append.1 hx with h | h; exact hse x h; rw [List.mem_singleton.1 h]; exact hee) 40000) rfl rfl (fun v30 I30 j30 q30 => ?_)
      try have hvc := hvc.le j30
      try have hf := hf.le j30
      try have hv := hv.le j30
      try have hwa := hwa.le j30
      try have hA := hA.le j30
      obtain ⟨wb, rfl, hwb⟩ := q30
      refine d_on (fun _ m => m.keepsI (.cons _ (.refl _)) ((jp).trans j30) hE2 hf2) ?_
      refine d_t 8 rfl rfl (by kernel_rfl) rfl (fun _ m => m.keepsI (.cons _ (.refl _)) ((jp).trans j30) hE2 hf2) (y_v rfl (v_move rfl)) ?_
      refine d_t 9 rfl rfl (by kernel_rfl) rfl (fun _ m => m.keepsI (.cons _ (.refl _)) ((jp).trans j30) hE2 hf2) (y_v rfl (v_extract rfl rfl)) ?_
      refine d_t 10 rfl rfl (by kernel_rfl) rfl (fun _ m => m.keepsI (.cons _ (.refl _)) ((jp).trans j30) hE2 hf2) (y_v rfl (v_extract rfl rfl)) ?_
      refine d_t 11 rfl rfl (by kernel_rfl) rfl (fun _ m => m.keepsI (.cons _ (.refl _)) ((jp).trans j30) hE2 hf2) (y_v rfl (v_extract rfl rfl)) ?_
      refine d_one 12 (by kernel_rfl) rfl ?_
      refine o_alloc he rfl (fun g12 => ?_)
      refine d_on (fun _ m => m.keepsI (.cons _ (.cons _ (.refl _))) ((jp).trans j30) hE2 hf2) ?_
      refine d_one 13 (by kernel_rfl) rfl ?_
      refine o_stw _ he rfl rfl rfl rfl rfl (by simp [RdS.one hwb]) ?_
      refine d_on (fun _ m => m.keepsI (.cons _ (.cons _ (.refl _))) ((jp).trans j30) hE2 hf2) ?_
      refine d_t 14 rfl rfl (by kernel_rfl) rfl (fun _ m => m.keepsI (.cons _ (.cons _ (.refl _))) ((jp).trans j30) hE2 hf2) (y_v rfl (v_assign rfl)) ?_
      refine d_t 15 rfl rfl (by kernel_rfl) rfl (fun _ m => m.keepsI (.cons _ (.cons _ (.refl _))) ((jp).trans j30) hE2 hf2) (y_v rfl (v_assign rfl)) ?_
      refine d_done (by kernel_rfl) ?_
      refine go 2 ?_
      refine bring3 ?_
      refine bring4 ?_
      refine d_start2 T.mixed ?_
      refine d_tv 0 rfl rfl (by kernel_rfl) rfl (.cons _ (.cons _ (.refl _))) rfl (v_ldw m2 he rfl rfl) ?_
      refine d_tv 1 rfl rfl (by kernel_rfl) rfl (.cons _ (.cons _ (.refl _))) rfl (v_ldw m0 he rfl rfl) ?_
      refine d_tv 2 rfl rfl (by kernel_rfl) rfl (.cons _ (.cons _ (.refl _))) rfl (v_move rfl) ?_
      refine d_tv 3 rfl rfl (by kernel_rfl) rfl (.cons _ (.cons _ (.refl _))) rfl (v_eql rfl rfl) ?_
      refine d_tv 4 rfl rfl (by kernel_rfl) rfl (.cons _ (.cons _ (.refl _))) rfl (v_move rfl) ?_
      refine sxb 38 rfl (fun h38 p38 => ?_) (fun h38 p38 => ?_)
      ·refine d_t 5 rfl rfl (by kernel_rfl) rfl (fun _ m => m.keeps (.cons _ (.cons _ (.refl _)))) (y_yes rfl rfl h38 (v_move rfl)) ?_
       refine d_t 6 rfl rfl (by kernel_rfl) rfl (fun _ m => m.keeps (.cons _ (.cons _ (.refl _)))) (y_yes rfl rfl h38 (v_eql rfl rfl)) ?_
       refine d_tv 7 rfl rfl (by kernel_rfl) rfl (.cons _ (.cons _ (.refl _))) rfl (v_and_t h38 rfl rfl) ?_
       refine d_one 8 (by kernel_rfl) rfl ?_
       refine o_stw _ he rfl rfl rfl rfl rfl (by simp [RdS.one hwa]) ?_
       refine d_on (fun _ m => m.keeps (.cons _ (.cons _ (.refl _)))) ?_
       refine d_one 9 (by kernel_rfl) rfl ?_
       refine bring1 ?_
       refine o_stw _ he rfl rfl rfl rfl rfl (by simp [RdS.one hwb]) ?_
       refine d_on (fun _ m => m.keeps (.cons _ (.cons _ (.refl _)))) ?_
       refine d_tv 10 rfl rfl (by kernel_rfl) rfl (.cons _ (.cons _ (.refl _))) rfl (v_assign rfl) ?_
       refine d_done (by kernel_rfl) ?_
       refine go 2 ?_
       refine fin3 rfl ⟨_, _, _, rfl, m1, .inr ⟨_, he, rfl, rfl⟩⟩ ⟨_, _, _, rfl, m0, .inr ⟨_, he, rfl, rfl⟩⟩ rfl ?_
       exact q_i ⟨wa, wb, by simp only [h38, bS], hwa, hwb⟩
      ·refine d_t 5 rfl rfl (by kernel_rfl) rfl (fun _ m => m.keeps (.cons _ (.cons _ (.refl _)))) (y_no rfl rfl h38) ?_
       refine d_t 6 rfl rfl (by kernel_rfl) rfl (fun _ m => m.keeps (.cons _ (.cons _ (.refl _)))) (y_no rfl rfl h38) ?_
       refine d_tv 7 rfl rfl (by kernel_rfl) rfl (.cons _ (.cons _ (.refl _))) rfl (v_and_f h38 rfl) ?_
       refine d_one 8 (by kernel_rfl) rfl ?_
       refine o_stw _ he rfl rfl rfl rfl rfl (by simp [RdS.one hwa]) ?_
       refine d_on (fun _ m => m.keeps (.cons _ (.cons _ (.refl _)))) ?_
       refine d_one 9 (by kernel_rfl) rfl ?_
       refine bring1 ?_
       refine o_stw _ he rfl rfl rfl rfl rfl (by simp [RdS.one hwb]) ?_
       refine d_on (fun _ m => m.keeps (.cons _ (.cons _ (.refl _)))) ?_
       refine d_tv 10 rfl rfl (by kernel_rfl) rfl (.cons _ (.cons _ (.refl _))) rfl (v_assign rfl) ?_
       refine d_done (by kernel_rfl) ?_
       refine go 2 ?_
       refine fin3 rfl ⟨_, _, _, rfl, m1, .inr ⟨_, he, rfl, rfl⟩⟩ ⟨_, _, _, rfl, m0, .inr ⟨_, he, rfl, rfl⟩⟩ rfl ?_
       exact q_i ⟨wa, wb, by simp only [h38, bS], hwa, hwb⟩
     ·refine o_alloc he rfl (fun g12 => ?_)
      refine d_on (fun _ m => m.keeps (.cons _ (.cons _ (.cons _ (.refl _))))) ?_
      refine d_one 7 (by kernel_rfl) rfl ?_
      refine bring1 ?_
      refine sx_pubrow (l := (l ++ [e])) rfl (by simp) ((f26.append (.one rfl))) (fun Ip jp Rp => ?_)
      try have hvc := hvc.le jp
      try have hf := hf.le jp
      try have hv := hv.le jp
      try have hwa := hwa.le jp
      try have hA := hA.le jp
      refine o_call (lifeRun _ vc c hvc hsc f sf hf _ (l ++ [e]) Rp (by simp; omega) (fun x hx => by rcases List.mem_append.1 hx with h | h; exact hse x h; rw [List.mem_singleton.1 h]; exact hee) 40000) rfl rfl (fun v30 I30 j30 q30 => ?_)
      try have hvc := hvc.le j30
      try have hf := hf.le j30
      try have hv := hv.le j30
      try have hwa := hwa.le j30
      try have hA := hA.le j30
      obtain ⟨wb, rfl, hwb⟩ := q30
      refine d_on (fun _ m => m.keepsI (.cons _ (.cons _ (.refl _))) ((jp).trans j30) hE2 hf2) ?_
      refine d_t 8 rfl rfl (by kernel_rfl) rfl (fun _ m => m.keepsI (.cons _ (.cons _ (.refl _))) ((jp).trans j30) hE2 hf2) (y_v rfl (v_move rfl)) ?_
      refine d_t 9 rfl rfl (by kernel_rfl) rfl (fun _ m => m.keepsI (.cons _ (.cons _ (.refl _))) ((jp).trans j30) hE2 hf2) (y_v rfl (v_extract rfl rfl)) ?_
      refine d_t 10 rfl rfl (by kernel_rfl) rfl (fun _ m => m.keepsI (.cons _ (.cons _ (.refl _))) ((jp).trans j30) hE2 hf2) (y_v rfl (v_extract rfl rfl)) ?_
      refine d_t 11 rfl rfl (by kernel_rfl) rfl (fun _ m => m.keepsI (.cons _ (.cons _ (.refl _))) ((jp).trans j30) hE2 hf2) (y_v rfl (v_extract rfl rfl)) ?_
      refine d_one 13 (by kernel_rfl) rfl ?_
      refine o_stw _ he rfl rfl rfl rfl rfl (by simp [RdS.one hwb]) ?_
      refine d_on (fun _ m => m.keepsI (.cons _ (.cons _ (.refl _))) ((jp).trans j30) hE2 hf2) ?_
      refine d_t 14 rfl rfl (by kernel_rfl) rfl (fun _ m => m.keepsI (.cons _ (.cons _ (.refl _))) ((jp).trans j30) hE2 hf2) (y_v rfl (v_assign rfl)) ?_
      refine d_t 15 rfl rfl (by kernel_rfl) rfl (fun _ m => m.keepsI (.cons _ (.cons _ (.refl _))) ((jp).trans j30) hE2 hf2) (y_v rfl (v_assign rfl)) ?_
      refine d_done (by kernel_rfl) ?_
      refine go 2 ?_
      refine bring3 ?_
      refine bring4 ?_
      refine d_start2 T.mixed ?_
      refine d_tv 0 rfl rfl (by kernel_rfl) rfl (.cons _ (.cons _ (.refl _))) rfl (v_ldw m2 he rfl rfl) ?_
      refine d_tv 1 rfl rfl (by kernel_rfl) rfl (.cons _ (.cons _ (.refl _))) rfl (v_ldw m0 he rfl rfl) ?_
      refine d_tv 2 rfl rfl (by kernel_rfl) rfl (.cons _ (.cons _ (.refl _))) rfl (v_move rfl) ?_
      refine d_tv 3 rfl rfl (by kernel_rfl) rfl (.cons _ (.cons _ (.refl _))) rfl (v_eql rfl rfl) ?_
      refine d_tv 4 rfl rfl (by kernel_rfl) rfl (.cons _ (.cons _ (.refl _))) rfl (v_move rfl) ?_
      refine sxb 38 rfl (fun h38 p38 => ?_) (fun h38 p38 => ?_)
      ·refine d_t 5 rfl rfl (by kernel_rfl) rfl (fun _ m => m.keeps (.cons _ (.cons _ (.refl _)))) (y_yes rfl rfl h38 (v_move rfl)) ?_
       refine d_t 6 rfl rfl (by kernel_rfl) rfl (fun _ m => m.keeps (.cons _ (.cons _ (.refl _)))) (y_yes rfl rfl h38 (v_eql rfl rfl)) ?_
       refine d_tv 7 rfl rfl (by kernel_rfl) rfl (.cons _ (.cons _ (.refl _))) rfl (v_and_t h38 rfl rfl) ?_
       refine d_one 8 (by kernel_rfl) rfl ?_
       refine o_stw _ he rfl rfl rfl rfl rfl (by simp [RdS.one hwa]) ?_
       refine d_on (fun _ m => m.keeps (.cons _ (.cons _ (.refl _)))) ?_
       refine d_one 9 (by kernel_rfl) rfl ?_
       refine bring1 ?_
       refine o_stw _ he rfl rfl rfl rfl rfl (by simp [RdS.one hwb]) ?_
       refine d_on (fun _ m => m.keeps (.cons _ (.cons _ (.refl _)))) ?_
       refine d_tv 10 rfl rfl (by kernel_rfl) rfl (.cons _ (.cons _ (.refl _))) rfl (v_assign rfl) ?_
       refine d_done (by kernel_rfl) ?_
       refine go 2 ?_
       refine fin3 rfl ⟨_, _, _, rfl, m1, .inr ⟨_, he, rfl, rfl⟩⟩ ⟨_, _, _, rfl, m0, .inr ⟨_, he, rfl, rfl⟩⟩ rfl ?_
       exact q_i ⟨wa, wb, by simp only [h38, bS], hwa, hwb⟩
      ·refine d_t 5 rfl rfl (by kernel_rfl) rfl (fun _ m => m.keeps (.cons _ (.cons _ (.refl _)))) (y_no rfl rfl h38) ?_
       refine d_t 6 rfl rfl (by kernel_rfl) rfl (fun _ m => m.keeps (.cons _ (.cons _ (.refl _)))) (y_no rfl rfl h38) ?_
       refine d_tv 7 rfl rfl (by kernel_rfl) rfl (.cons _ (.cons _ (.refl _))) rfl (v_and_f h38 rfl) ?_
       refine d_one 8 (by kernel_rfl) rfl ?_
       refine o_stw _ he rfl rfl rfl rfl rfl (by simp [RdS.one hwa]) ?_
       refine d_on (fun _ m => m.keeps (.cons _ (.cons _ (.refl _)))) ?_
       refine d_one 9 (by kernel_rfl) rfl ?_
       refine bring1 ?_
       refine o_stw _ he rfl rfl rfl rfl rfl (by simp [RdS.one hwb]) ?_
       refine d_on (fun _ m => m.keeps (.cons _ (.cons _ (.refl _)))) ?_
       refine d_tv 10 rfl rfl (by kernel_rfl) rfl (.cons _ (.cons _ (.refl _))) rfl (v_assign rfl) ?_
       refine d_done (by kernel_rfl) ?_
       refine go 2 ?_
       refine fin3 rfl ⟨_, _, _, rfl, m1, .inr ⟨_, he, rfl, rfl⟩⟩ ⟨_, _, _, rfl, m0, .inr ⟨_, he, rfl, rfl⟩⟩ rfl ?_
       exact q_i ⟨wa, wb, by simp only [h38, bS], hwa, hwb⟩
    ·refine o_alloc he rfl (fun g12 => ?_)
     refine d_on (fun _ m => m.keeps (.cons _ (.cons _ (.cons _ (.refl _))))) ?_
     refine d_one 6 (by kernel_rfl) rfl ?_
     refine bring1 ?_
     refine bring2 ?_
     refine o_appendO he he rfl rfl rfl rfl rfl (by omega) (by omega) rfl (fun v29 => ?_)
     refine d_on (fun _ m => m.keeps (.cons _ (.cons _ (.cons _ (.refl _))))) ?_
     refine d_one 7 (by kernel_rfl) rfl ?_
     refine sx_pubrow (l := (l ++ [e])) rfl (by simp) ((f26.append (.one rfl))) (fun Ip jp Rp => ?_)
     try have hvc := hvc.le jp
     try have hf := hf.le jp
     try have hv := hv.le jp
     try have hwa := hwa.le jp
     try have hA := hA.le jp
     refine o_call (lifeRun _ vc c hvc hsc f sf hf _ (l ++ [e]) Rp (by simp; omega) (fun x hx => by rcases List.mem_append.1 hx with h | h; exact hse x h; rw [List.mem_singleton.1 h]; exact hee) 40000) rfl rfl (fun v30 I30 j30 q30 => ?_)
     try have hvc := hvc.le j30
     try have hf := hf.le j30
     try have hv := hv.le j30
     try have hwa := hwa.le j30
     try have hA := hA.le j30
     obtain ⟨wb, rfl, hwb⟩ := q30
     refine d_on (fun _ m => m.keepsI (.cons _ (.cons _ (.refl _))) ((jp).trans j30) hE2 hf2) ?_
     refine d_t 8 rfl rfl (by kernel_rfl) rfl (fun _ m => m.keepsI (.cons _ (.cons _ (.refl _))) ((jp).trans j30) hE2 hf2) (y_v rfl (v_move rfl)) ?_
     refine d_t 9 rfl rfl (by kernel_rfl) rfl (fun _ m => m.keepsI (.cons _ (.cons _ (.refl _))) ((jp).trans j30) hE2 hf2) (y_v rfl (v_extract rfl rfl)) ?_
     refine d_t 10 rfl rfl (by kernel_rfl) rfl (fun _ m => m.keepsI (.cons _ (.cons _ (.refl _))) ((jp).trans j30) hE2 hf2) (y_v rfl (v_extract rfl rfl)) ?_
     refine d_t 11 rfl rfl (by kernel_rfl) rfl (fun _ m => m.keepsI (.cons _ (.cons _ (.refl _))) ((jp).trans j30) hE2 hf2) (y_v rfl (v_extract rfl rfl)) ?_
     refine d_one 13 (by kernel_rfl) rfl ?_
     refine bring1 ?_
     refine o_stw _ he rfl rfl rfl rfl rfl (by simp [RdS.one hwb]) ?_
     refine d_on (fun _ m => m.keepsI (.cons _ (.cons _ (.refl _))) ((jp).trans j30) hE2 hf2) ?_
     refine d_t 14 rfl rfl (by kernel_rfl) rfl (fun _ m => m.keepsI (.cons _ (.cons _ (.refl _))) ((jp).trans j30) hE2 hf2) (y_v rfl (v_assign rfl)) ?_
     refine d_t 15 rfl rfl (by kernel_rfl) rfl (fun _ m => m.keepsI (.cons _ (.cons _ (.refl _))) ((jp).trans j30) hE2 hf2) (y_v rfl (v_assign rfl)) ?_
     refine d_done (by kernel_rfl) ?_
     refine go 2 ?_
     refine bring3 ?_
     refine bring4 ?_
     refine d_start2 T.mixed ?_
     refine d_tv 0 rfl rfl (by kernel_rfl) rfl (.cons _ (.cons _ (.refl _))) rfl (v_ldw m2 he rfl rfl) ?_
     refine d_tv 1 rfl rfl (by kernel_rfl) rfl (.cons _ (.cons _ (.refl _))) rfl (v_ldw m0 he rfl rfl) ?_
     refine d_tv 2 rfl rfl (by kernel_rfl) rfl (.cons _ (.cons _ (.refl _))) rfl (v_move rfl) ?_
     refine d_tv 3 rfl rfl (by kernel_rfl) rfl (.cons _ (.cons _ (.refl _))) rfl (v_eql rfl rfl) ?_
     refine d_tv 4 rfl rfl (by kernel_rfl) rfl (.cons _ (.cons _ (.refl _))) rfl (v_move rfl) ?_
     refine sxb 38 rfl (fun h38 p38 => ?_) (fun h38 p38 => ?_)
     ·refine d_t 5 rfl rfl (by kernel_rfl) rfl (fun _ m => m.keeps (.cons _ (.cons _ (.refl _)))) (y_yes rfl rfl h38 (v_move rfl)) ?_
      refine d_t 6 rfl rfl (by kernel_rfl) rfl (fun _ m => m.keeps (.cons _ (.cons _ (.refl _)))) (y_yes rfl rfl h38 (v_eql rfl rfl)) ?_
      refine d_tv 7 rfl rfl (by kernel_rfl) rfl (.cons _ (.cons _ (.refl _))) rfl (v_and_t h38 rfl rfl) ?_
      refine d_one 8 (by kernel_rfl) rfl ?_
      refine o_stw _ he rfl rfl rfl rfl rfl (by simp [RdS.one hwa]) ?_
      refine d_on (fun _ m => m.keeps (.cons _ (.cons _ (.refl _)))) ?_
      refine d_one 9 (by kernel_rfl) rfl ?_
      refine bring1 ?_
      refine o_stw _ he rfl rfl rfl rfl rfl (by simp [RdS.one hwb]) ?_
      refine d_on (fun _ m => m.keeps (.cons _ (.cons _ (.refl _)))) ?_
      refine d_tv 10 rfl rfl (by kernel_rfl) rfl (.cons _ (.cons _ (.refl _))) rfl (v_assign rfl) ?_
      refine d_done (by kernel_rfl) ?_
      refine go 2 ?_
      refine fin3 rfl ⟨_, _, _, rfl, m1, .inr ⟨_, he, rfl, rfl⟩⟩ ⟨_, _, _, rfl, m0, .inr ⟨_, he, rfl, rfl⟩⟩ rfl ?_
      exact q_i ⟨wa, wb, by simp only [h38, bS], hwa, hwb⟩
     ·refine d_t 5 rfl rfl (by kernel_rfl) rfl (fun _ m => m.keeps (.cons _ (.cons _ (.refl _)))) (y_no rfl rfl h38) ?_
      refine d_t 6 rfl rfl (by kernel_rfl) rfl (fun _ m => m.keeps (.cons _ (.cons _ (.refl _)))) (y_no rfl rfl h38) ?_
      refine d_tv 7 rfl rfl (by kernel_rfl) rfl (.cons _ (.cons _ (.refl _))) rfl (v_and_f h38 rfl) ?_
      refine d_one 8 (by kernel_rfl) rfl ?_
      refine o_stw _ he rfl rfl rfl rfl rfl (by simp [RdS.one hwa]) ?_
      refine d_on (fun _ m => m.keeps (.cons _ (.cons _ (.refl _)))) ?_
      refine d_one 9 (by kernel_rfl) rfl ?_
      refine bring1 ?_
      refine o_stw _ he rfl rfl rfl rfl rfl (by simp [RdS.one hwb]) ?_
      refine d_on (fun _ m => m.keeps (.cons _ (.cons _ (.refl _)))) ?_
      refine d_tv 10 rfl rfl (by kernel_rfl) rfl (.cons _ (.cons _ (.refl _))) rfl (v_assign rfl) ?_
      refine d_done (by kernel_rfl) ?_
      refine go 2 ?_
      refine fin3 rfl ⟨_, _, _, rfl, m1, .inr ⟨_, he, rfl, rfl⟩⟩ ⟨_, _, _, rfl, m0, .inr ⟨_, he, rfl, rfl⟩⟩ rfl ?_
      exact q_i ⟨wa, wb, by simp only [h38, bS], hwa, hwb⟩
   ·refine o_alloc he rfl (fun g12 => ?_)
    refine d_on (fun _ m => m.keeps (.cons _ (.cons _ (.refl _)))) ?_
    refine d_one 5 (by kernel_rfl) rfl ?_
    refine o_buildSlice he he rfl rfl rfl rfl rfl rfl rfl (fun v28 => ?_)
    refine d_on (fun _ m => m.keeps (.cons _ (.cons _ (.cons _ (.refl _))))) ?_
    refine d_one 6 (by kernel_rfl) rfl ?_
    refine bring2 ?_
    refine o_appendO he he rfl rfl rfl rfl rfl (by omega) (by omega) rfl (fun v29 => ?_)
    refine d_on (fun _ m => m.keeps (.cons _ (.cons _ (.cons _ (.refl _))))) ?_
    refine d_one 7 (by kernel_rfl) rfl ?_
    refine sx_pubrow (l := (l ++ [e])) rfl (by simp) ((f26.append (.one rfl))) (fun Ip jp Rp => ?_)
    try have hvc := hvc.le jp
    try have hf := hf.le jp
    try have hv := hv.le jp
    try have hwa := hwa.le jp
    try have hA := hA.le jp
    refine o_call (lifeRun _ vc c hvc hsc f sf hf _ (l ++ [e]) Rp (by simp; omega) (fun x hx => by rcases List.mem_append.1 hx with h | h; exact hse x h; rw [List.mem_singleton.1 h]; exact hee) 40000) rfl rfl (fun v30 I30 j30 q30 => ?_)
    try have hvc := hvc.le j30
    try have hf := hf.le j30
    try have hv := hv.le j30
    try have hwa := hwa.le j30
    try have hA := hA.le j30
    obtain ⟨wb, rfl, hwb⟩ := q30
    refine d_on (fun _ m => m.keepsI (.cons _ (.cons _ (.refl _))) ((jp).trans j30) hE2 hf2) ?_
    refine d_t 8 rfl rfl (by kernel_rfl) rfl (fun _ m => m.keepsI (.cons _ (.cons _ (.refl _))) ((jp).trans j30) hE2 hf2) (y_v rfl (v_move rfl)) ?_
    refine d_t 9 rfl rfl (by kernel_rfl) rfl (fun _ m => m.keepsI (.cons _ (.cons _ (.refl _))) ((jp).trans j30) hE2 hf2) (y_v rfl (v_extract rfl rfl)) ?_
    refine d_t 10 rfl rfl (by kernel_rfl) rfl (fun _ m => m.keepsI (.cons _ (.cons _ (.refl _))) ((jp).trans j30) hE2 hf2) (y_v rfl (v_extract rfl rfl)) ?_
    refine d_t 11 rfl rfl (by kernel_rfl) rfl (fun _ m => m.keepsI (.cons _ (.cons _ (.refl _))) ((jp).trans j30) hE2 hf2) (y_v rfl (v_extract rfl rfl)) ?_
    refine d_one 13 (by kernel_rfl) rfl ?_
    refine bring1 ?_
    refine o_stw _ he rfl rfl rfl rfl rfl (by simp [RdS.one hwb]) ?_
    refine d_on (fun _ m => m.keepsI (.cons _ (.cons _ (.refl _))) ((jp).trans j30) hE2 hf2) ?_
    refine d_t 14 rfl rfl (by kernel_rfl) rfl (fun _ m => m.keepsI (.cons _ (.cons _ (.refl _))) ((jp).trans j30) hE2 hf2) (y_v rfl (v_assign rfl)) ?_
    refine d_t 15 rfl rfl (by kernel_rfl) rfl (fun _ m => m.keepsI (.cons _ (.cons _ (.refl _))) ((jp).trans j30) hE2 hf2) (y_v rfl (v_assign rfl)) ?_
    refine d_done (by kernel_rfl) ?_
    refine go 2 ?_
    refine bring3 ?_
    refine bring4 ?_
    refine d_start2 T.mixed ?_
    refine d_tv 0 rfl rfl (by kernel_rfl) rfl (.cons _ (.cons _ (.refl _))) rfl (v_ldw m2 he rfl rfl) ?_
    refine d_tv 1 rfl rfl (by kernel_rfl) rfl (.cons _ (.cons _ (.refl _))) rfl (v_ldw m0 he rfl rfl) ?_
    refine d_tv 2 rfl rfl (by kernel_rfl) rfl (.cons _ (.cons _ (.refl _))) rfl (v_move rfl) ?_
    refine d_tv 3 rfl rfl (by kernel_rfl) rfl (.cons _ (.cons _ (.refl _))) rfl (v_eql rfl rfl) ?_
    refine d_tv 4 rfl rfl (by kernel_rfl) rfl (.cons _ (.cons _ (.refl _))) rfl (v_move rfl) ?_
    refine sxb 38 rfl (fun h38 p38 => ?_) (fun h38 p38 => ?_)
    ·refine d_t 5 rfl rfl (by kernel_rfl) rfl (fun _ m => m.keeps (.cons _ (.cons _ (.refl _)))) (y_yes rfl rfl h38 (v_move rfl)) ?_
     refine d_t 6 rfl rfl (by kernel_rfl) rfl (fun _ m => m.keeps (.cons _ (.cons _ (.refl _)))) (y_yes rfl rfl h38 (v_eql rfl rfl)) ?_
     refine d_tv 7 rfl rfl (by kernel_rfl) rfl (.cons _ (.cons _ (.refl _))) rfl (v_and_t h38 rfl rfl) ?_
     refine d_one 8 (by kernel_rfl) rfl ?_
     refine o_stw _ he rfl rfl rfl rfl rfl (by simp [RdS.one hwa]) ?_
     refine d_on (fun _ m => m.keeps (.cons _ (.cons _ (.refl _)))) ?_
     refine d_one 9 (by kernel_rfl) rfl ?_
     refine bring1 ?_
     refine o_stw _ he rfl rfl rfl rfl rfl (by simp [RdS.one hwb]) ?_
     refine d_on (fun _ m => m.keeps (.cons _ (.cons _ (.refl _)))) ?_
     refine d_tv 10 rfl rfl (by kernel_rfl) rfl (.cons _ (.cons _ (.refl _))) rfl (v_assign rfl) ?_
     refine d_done (by kernel_rfl) ?_
     refine go 2 ?_
     refine fin3 rfl ⟨_, _, _, rfl, m1, .inr ⟨_, he, rfl, rfl⟩⟩ ⟨_, _, _, rfl, m0, .inr ⟨_, he, rfl, rfl⟩⟩ rfl ?_
     exact q_i ⟨wa, wb, by simp only [h38, bS], hwa, hwb⟩
    ·refine d_t 5 rfl rfl (by kernel_rfl) rfl (fun _ m => m.keeps (.cons _ (.cons _ (.refl _)))) (y_no rfl rfl h38) ?_
     refine d_t 6 rfl rfl (by kernel_rfl) rfl (fun _ m => m.keeps (.cons _ (.cons _ (.refl _)))) (y_no rfl rfl h38) ?_
     refine d_tv 7 rfl rfl (by kernel_rfl) rfl (.cons _ (.cons _ (.refl _))) rfl (v_and_f h38 rfl) ?_
     refine d_one 8 (by kernel_rfl) rfl ?_
     refine o_stw _ he rfl rfl rfl rfl rfl (by simp [RdS.one hwa]) ?_
     refine d_on (fun _ m => m.keeps (.cons _ (.cons _ (.refl _)))) ?_
     refine d_one 9 (by kernel_rfl) rfl ?_
     refine bring1 ?_
     refine o_stw _ he rfl rfl rfl rfl rfl (by simp [RdS.one hwb]) ?_
     refine d_on (fun _ m => m.keeps (.cons _ (.cons _ (.refl _)))) ?_
     refine d_tv 10 rfl rfl (by kernel_rfl) rfl (.cons _ (.cons _ (.refl _))) rfl (v_assign rfl) ?_
     refine d_done (by kernel_rfl) ?_
     refine go 2 ?_
     refine fin3 rfl ⟨_, _, _, rfl, m1, .inr ⟨_, he, rfl, rfl⟩⟩ ⟨_, _, _, rfl, m0, .inr ⟨_, he, rfl, rfl⟩⟩ rfl ?_
     exact q_i ⟨wa, wb, by simp only [h38, bS], hwa, hwb⟩
  ·refine o_buildSlice he he rfl rfl rfl rfl rfl rfl rfl (fun v28 => ?_)
   refine d_on (fun _ m => m.keeps (.cons _ (.cons _ (.refl _)))) ?_
   refine d_two 3 12 (by kernel_rfl) rfl rfl ?_ ?_
   ·refine bring1 ?_
    refine o_appendR (hv) rfl he he rfl rfl rfl rfl (by omega) (by omega) rfl (fun v26 x26 f26 => ?_)
    refine d_on (fun _ m => m.keeps (.cons _ (.cons _ (.refl _)))) ?_
    refine d_two 6 12 (by kernel_rfl) rfl rfl ?_ ?_
    ·refine bring1 ?_
     refine bring1 ?_
     refine o_appendO he he rfl rfl rfl rfl rfl (by omega) (by omega) rfl (fun v29 => ?_)
     refine d_on (fun _ m => m.keeps (.cons _ (.cons _ (.refl _)))) ?_
     refine d_two 7 12 (by kernel_rfl) rfl rfl ?_ ?_
     ·refine sx_pubrow (l := (l ++ [e])) rfl (by simp) ((f26.append (.one rfl))) (fun Ip jp Rp => ?_)
      try have hvc := hvc.le jp
      try have hf := hf.le jp
      try have hv := hv.le jp
      try have hwa := hwa.le jp
      try have hA := hA.le jp
      refine o_call (lifeRun _ vc c hvc hsc f sf hf _ (l ++ [e]) Rp (by simp; omega) (fun x hx => by rcases List.mem_append.1 hx with h | h; exact hse x h; rw [List.mem_singleton.1 h]; exact hee) 40000) rfl rfl (fun v30 I30 j30 q30 => ?_)
      try have hvc := hvc.le j30
      try have hf := hf.le j30
      try have hv := hv.le j30
      try have hwa := hwa.le j30
      try have hA := hA.le j30
      obtain ⟨wb, rfl, hwb⟩ := q30
      refine d_on (fun _ m => m.keepsI (.cons _ (.refl _)) ((jp).trans j30) hE2 hf2) ?_
      refine d_t 8 rfl rfl (by kernel_rfl) rfl (fun _ m => m.keepsI (.cons _ (.refl _)) ((jp).trans j30) hE2 hf2) (y_v rfl (v_move rfl)) ?_
      refine d_t 9 rfl rfl (by kernel_rfl) rfl (fun _ m => m.keepsI (.cons _ (.refl _)) ((jp).trans j30) hE2 hf2) (y_v rfl (v_extract rfl rfl)) ?_
      refine d_t 10 rfl rfl (by kernel_rfl) rfl (fun _ m => m.keepsI (.cons _ (.refl _)) ((jp).trans j30) hE2 hf2) (y_v rfl (v_extract rfl rfl)) ?_
      refine d_t 11 rfl rfl (by kernel_rfl) rfl (fun _ m => m.keepsI (.cons _ (.refl _)) ((jp).trans j30) hE2 hf2) (y_v rfl (v_extract rfl rfl)) ?_
      refine d_one 12 (by kernel_rfl) rfl ?_
      refine o_alloc he rfl (fun g12 => ?_)
      refine d_on (fun _ m => m.keepsI (.cons _ (.cons _ (.refl _))) ((jp).trans j30) hE2 hf2) ?_
      refine d_one 13 (by kernel_rfl) rfl ?_
      refine o_stw _ he rfl rfl rfl rfl rfl (by simp [RdS.one hwb]) ?_
      refine d_on (fun _ m => m.keepsI (.cons _ (.cons _ (.refl _))) ((jp).trans j30) hE2 hf2) ?_
      refine d_t 14 rfl rfl (by kernel_rfl) rfl (fun _ m => m.keepsI (.cons _ (.cons _ (.refl _))) ((jp).trans j30) hE2 hf2) (y_v rfl (v_assign rfl)) ?_
      refine d_t 15 rfl rfl (by kernel_rfl) rfl (fun _ m => m.keepsI (.cons _ (.cons _ (.refl _))) ((jp).trans j30) hE2 hf2) (y_v rfl (v_assign rfl)) ?_
      refine d_done (by kernel_rfl) ?_
      refine go 2 ?_
      refine bring3 ?_
      refine bring4 ?_
      refine d_start2 T.mixed ?_
      refine d_tv 0 rfl rfl (by kernel_rfl) rfl (.cons _ (.cons _ (.refl _))) rfl (v_ldw m2 he rfl rfl) ?_
      refine d_tv 1 rfl rfl (by kernel_rfl) rfl (.cons _ (.cons _ (.refl _))) rfl (v_ldw m0 he rfl rfl) ?_
      refine d_tv 2 rfl rfl (by kernel_rfl) rfl (.cons _ (.cons _ (.refl _))) rfl (v_move rfl) ?_
      refine d_tv 3 rfl rfl (by kernel_rfl) rfl (.cons _ (.cons _ (.refl _))) rfl (v_eql rfl rfl) ?_
      refine d_tv 4 rfl rfl (by kernel_rfl) rfl (.cons _ (.cons _ (.refl _))) rfl (v_move rfl) ?_
      refine sxb 38 rfl (fun h38 p38 => ?_) (fun h38 p38 => ?_)
      ·refine d_t 5 rfl rfl (by kernel_rfl) rfl (fun _ m => m.keeps (.cons _ (.cons _ (.refl _)))) (y_yes rfl rfl h38 (v_move rfl)) ?_
       refine d_t 6 rfl rfl (by kernel_rfl) rfl (fun _ m => m.keeps (.cons _ (.cons _ (.refl _)))) (y_yes rfl rfl h38 (v_eql rfl rfl)) ?_
       refine d_tv 7 rfl rfl (by kernel_rfl) rfl (.cons _ (.cons _ (.refl _))) rfl (v_and_t h38 rfl rfl) ?_
       refine d_one 8 (by kernel_rfl) rfl ?_
       refine o_stw _ he rfl rfl rfl rfl rfl (by simp [RdS.one hwa]) ?_
       refine d_on (fun _ m => m.keeps (.cons _ (.cons _ (.refl _)))) ?_
       refine d_one 9 (by kernel_rfl) rfl ?_
       refine bring1 ?_
       refine o_stw _ he rfl rfl rfl rfl rfl (by simp [RdS.one hwb]) ?_
       refine d_on (fun _ m => m.keeps (.cons _ (.cons _ (.refl _)))) ?_
       refine d_tv 10 rfl rfl (by kernel_rfl) rfl (.cons _ (.cons _ (.refl _))) rfl (v_assign rfl) ?_
       refine d_done (by kernel_rfl) ?_
       refine go 2 ?_
       refine fin3 rfl ⟨_, _, _, rfl, m1, .inr ⟨_, he, rfl, rfl⟩⟩ ⟨_, _, _, rfl, m0, .inr ⟨_, he, rfl, rfl⟩⟩ rfl ?_
       exact q_i ⟨wa, wb, by simp only [h38, bS], hwa, hwb⟩
      ·refine d_t 5 rfl rfl (by kernel_rfl) rfl (fun _ m => m.keeps (.cons _ (.cons _ (.refl _)))) (y_no rfl rfl h38) ?_
       refine d_t 6 rfl rfl (by kernel_rfl) rfl (fun _ m => m.keeps (.cons _ (.cons _ (.refl _)))) (y_no rfl rfl h38) ?_
       refine d_tv 7 rfl rfl (by kernel_rfl) rfl (.cons _ (.cons _ (.refl _))) rfl (v_and_f h38 rfl) ?_
       refine d_one 8 (by kernel_rfl) rfl ?_
       refine o_stw _ he rfl rfl rfl rfl rfl (by simp [RdS.one hwa]) ?_
       refine d_on (fun _ m => m.keeps (.cons _ (.cons _ (.refl _)))) ?_
       refine d_one 9 (by kernel_rfl) rfl ?_
       refine bring1 ?_
       refine o_stw _ he rfl rfl rfl rfl rfl (by simp [RdS.one hwb]) ?_
       refine d_on (fun _ m => m.keeps (.cons _ (.cons _ (.refl _)))) ?_
       refine d_tv 10 rfl rfl (by kernel_rfl) rfl (.cons _ (.cons _ (.refl _))) rfl (v_assign rfl) ?_
       refine d_done (by kernel_rfl) ?_
       refine go 2 ?_
       refine fin3 rfl ⟨_, _, _, rfl, m1, .inr ⟨_, he, rfl, rfl⟩⟩ ⟨_, _, _, rfl, m0, .inr ⟨_, he, rfl, rfl⟩⟩ rfl ?_
       exact q_i ⟨wa, wb, by simp only [h38, bS], hwa, hwb⟩
     ·refine o_alloc he rfl (fun g12 => ?_)
      refine d_on (fun _ m => m.keeps (.cons _ (.cons _ (.cons _ (.refl _))))) ?_
      refine d_one 7 (by kernel_rfl) rfl ?_
      refine bring1 ?_
      refine sx_pubrow (l := (l ++ [e])) rfl (by simp) ((f26.append (.one rfl))) (fun Ip jp Rp => ?_)
      try have hvc := hvc.le jp
      try have hf := hf.le jp
      try have hv := hv.le jp
      try have hwa := hwa.le jp
      try have hA := hA.le jp
      refine o_call (lifeRun _ vc c hvc hsc f sf hf _ (l ++ [e]) Rp (by simp; omega) (fun x hx => by rcases List.mem_append.1 hx with h | h; exact hse x h; rw [List.mem_singleton.1 h]; exact hee) 40000) rfl rfl (fun v30 I30 j30 q30 => ?_)
      try have hvc := hvc.le j30
      try have hf := hf.le j30
      try have hv := hv.le j30
      try have hwa := hwa.le j30
      try have hA := hA.le j30
      obtain ⟨wb, rfl, hwb⟩ := q30
      refine d_on (fun _ m => m.keepsI (.cons _ (.cons _ (.refl _))) ((jp).trans j30) hE2 hf2) ?_
      refine d_t 8 rfl rfl (by kernel_rfl) rfl (fun _ m => m.keepsI (.cons _ (.cons _ (.refl _))) ((jp).trans j30) hE2 hf2) (y_v rfl (v_move rfl)) ?_
      refine d_t 9 rfl rfl (by kernel_rfl) rfl (fun _ m => m.keepsI (.cons _ (.cons _ (.refl _))) ((jp).trans j30) hE2 hf2) (y_v rfl (v_extract rfl rfl)) ?_
      refine d_t 10 rfl rfl (by kernel_rfl) rfl (fun _ m => m.keepsI (.cons _ (.cons _ (.refl _))) ((jp).trans j30) hE2 hf2) (y_v rfl (v_extract rfl rfl)) ?_
      refine d_t 11 rfl rfl (by kernel_rfl) rfl (fun _ m => m.keepsI (.cons _ (.cons _ (.refl _))) ((jp).trans j30) hE2 hf2) (y_v rfl (v_extract rfl rfl)) ?_
      refine d_one 13 (by kernel_rfl) rfl ?_
      refine o_stw _ he rfl rfl rfl rfl rfl (by simp [RdS.one hwb]) ?_
      refine d_on (fun _ m => m.keepsI (.cons _ (.cons _ (.refl _))) ((jp).trans j30) hE2 hf2) ?_
      refine d_t 14 rfl rfl (by kernel_rfl) rfl (fun _ m => m.keepsI (.cons _ (.cons _ (.refl _))) ((jp).trans j30) hE2 hf2) (y_v rfl (v_assign rfl)) ?_
      refine d_t 15 rfl rfl (by kernel_rfl) rfl (fun _ m => m.keepsI (.cons _ (.cons _ (.refl _))) ((jp).trans j30) hE2 hf2) (y_v rfl (v_assign rfl)) ?_
      refine d_done (by kernel_rfl) ?_
      refine go 2 ?_
      refine bring3 ?_
      refine bring4 ?_
      refine d_start2 T.mixed ?_
      refine d_tv 0 rfl rfl (by kernel_rfl) rfl (.cons _ (.cons _ (.refl _))) rfl (v_ldw m2 he rfl rfl) ?_
      refine d_tv 1 rfl rfl (by kernel_rfl) rfl (.cons _ (.cons _ (.refl _))) rfl (v_ldw m0 he rfl rfl) ?_
      refine d_tv 2 rfl rfl (by kernel_rfl) rfl (.cons _ (.cons _ (.refl _))) rfl (v_move rfl) ?_
      refine d_tv 3 rfl rfl (by kernel_rfl) rfl (.cons _ (.cons _ (.refl _))) rfl (v_eql rfl rfl) ?_
      refine d_tv 4 rfl rfl (by kernel_rfl) rfl (.cons _ (.cons _ (.refl _))) rfl (v_move rfl) ?_
      refine sxb 38 rfl (fun h38 p38 => ?_) (fun h38 p38 => ?_)
      ·refine d_t 5 rfl rfl (by kernel_rfl) rfl (fun _ m => m.keeps (.cons _ (.cons _ (.refl _)))) (y_yes rfl rfl h38 (v_move rfl)) ?_
       refine d_t 6 rfl rfl (by kernel_rfl) rfl (fun _ m => m.keeps (.cons _ (.cons _ (.refl _)))) (y_yes rfl rfl h38 (v_eql rfl rfl)) ?_
       refine d_tv 7 rfl rfl (by kernel_rfl) rfl (.cons _ (.cons _ (.refl _))) rfl (v_and_t h38 rfl rfl) ?_
       refine d_one 8 (by kernel_rfl) rfl ?_
       refine o_stw _ he rfl rfl rfl rfl rfl (by simp [RdS.one hwa]) ?_
       refine d_on (fun _ m => m.keeps (.cons _ (.cons _ (.refl _)))) ?_
       refine d_one 9 (by kernel_rfl) rfl ?_
       refine bring1 ?_
       refine o_stw _ he rfl rfl rfl rfl rfl (by simp [RdS.one hwb]) ?_
       refine d_on (fun _ m => m.keeps (.cons _ (.cons _ (.refl _)))) ?_
       refine d_tv 10 rfl rfl (by kernel_rfl) rfl (.cons _ (.cons _ (.refl _))) rfl (v_assign rfl) ?_
       refine d_done (by kernel_rfl) ?_
       refine go 2 ?_
       refine fin3 rfl ⟨_, _, _, rfl, m1, .inr ⟨_, he, rfl, rfl⟩⟩ ⟨_, _, _, rfl, m0, .inr ⟨_, he, rfl, rfl⟩⟩ rfl ?_
       exact q_i ⟨wa, wb, by simp only [h38, bS], hwa, hwb⟩
      ·refine d_t 5 rfl rfl (by kernel_rfl) rfl (fun _ m => m.keeps (.cons _ (.cons _ (.refl _)))) (y_no rfl rfl h38) ?_
       refine d_t 6 rfl rfl (by kernel_rfl) rfl (fun _ m => m.keeps (.cons _ (.cons _ (.refl _)))) (y_no rfl rfl h38) ?_
       refine d_tv 7 rfl rfl (by kernel_rfl) rfl (.cons _ (.cons _ (.refl _))) rfl (v_and_f h38 rfl) ?_
       refine d_one 8 (by kernel_rfl) rfl ?_
       refine o_stw _ he rfl rfl rfl rfl rfl (by simp [RdS.one hwa]) ?_
       refine d_on (fun _ m => m.keeps (.cons _ (.cons _ (.refl _)))) ?_
       refine d_one 9 (by kernel_rfl) rfl ?_
       refine bring1 ?_
       refine o_stw _ he rfl rfl rfl rfl rfl (by simp [RdS.one hwb]) ?_
       refine d_on (fun _ m => m.keeps (.cons _ (.cons _ (.refl _)))) ?_
       refine d_tv 10 rfl rfl (by kernel_rfl) rfl (.cons _ (.cons _ (.refl _))) rfl (v_assign rfl) ?_
       refine d_done (by kernel_rfl) ?_
       refine go 2 ?_
       refine fin3 rfl ⟨_, _, _, rfl, m1, .inr ⟨_, he, rfl, rfl⟩⟩ ⟨_, _, _, rfl, m0, .inr ⟨_, he, rfl, rfl⟩⟩ rfl ?_
       exact q_i ⟨wa, wb, by simp only [h38, bS], hwa, hwb⟩
    ·refine o_alloc he rfl (fun g12 => ?_)
     refine d_on (fun _ m => m.keeps (.cons _ (.cons _ (.cons _ (.refl _))))) ?_
     refine d_one 6 (by kernel_rfl) rfl ?_
     refine bring2 ?_
     refine bring2 ?_
     refine o_appendO he he rfl rfl rfl rfl rfl (by omega) (by omega) rfl (fun v29 => ?_)
     refine d_on (fun _ m => m.keeps (.cons _ (.cons _ (.cons _ (.refl _))))) ?_
     refine d_one 7 (by kernel_rfl) rfl ?_
     refine sx_pubrow (l := (l ++ [e])) rfl (by simp) ((f26.append (.one rfl))) (fun Ip jp Rp => ?_)
     try have hvc := hvc.le jp
     try have hf := hf.le jp
     try have hv := hv.le jp
     try have hwa := hwa.le jp
     try have hA := hA.le jp
     refine o_call (lifeRun _ vc c hvc hsc f sf hf _ (l ++ [e]) Rp (by simp; omega) (fun x hx => by rcases List.mem_append.1 hx with h | h; exact hse x h; rw [List.mem_singleton.1 h]; exact hee) 40000) rfl rfl (fun v30 I30 j30 q30 => ?_)
     try have hvc := hvc.le j30
     try have hf := hf.le j30
     try have hv := hv.le j30
     try have hwa := hwa.le j30
     try have hA := hA.le j30
     obtain ⟨wb, rfl, hwb⟩ := q30
     refine d_on (fun _ m => m.keepsI (.cons _ (.cons _ (.refl _))) ((jp).trans j30) hE2 hf2) ?_
     refine d_t 8 rfl rfl (by kernel_rfl) rfl (fun _ m => m.keepsI (.cons _ (.cons _ (.refl _))) ((jp).trans j30) hE2 hf2) (y_v rfl (v_move rfl)) ?_
     refine d_t 9 rfl rfl (by kernel_rfl) rfl (fun _ m => m.keepsI (.cons _ (.cons _ (.refl _))) ((jp).trans j30) hE2 hf2) (y_v rfl (v_extract rfl rfl)) ?_
     refine d_t 10 rfl rfl (by kernel_rfl) rfl (fun _ m => m.keepsI (.cons _ (.cons _ (.refl _))) ((jp).trans j30) hE2 hf2) (y_v rfl (v_extract rfl rfl)) ?_
     refine d_t 11 rfl rfl (by kernel_rfl) rfl (fun _ m => m.keepsI (.cons _ (.cons _ (.refl _))) ((jp).trans j30) hE2 hf2) (y_v rfl (v_extract rfl rfl)) ?_
     refine d_one 13 (by kernel_rfl) rfl ?_
     refine bring1 ?_
     refine o_stw _ he rfl rfl rfl rfl rfl (by simp [RdS.one hwb]) ?_
     refine d_on (fun _ m => m.keepsI (.cons _ (.cons _ (.refl _))) ((jp).trans j30) hE2 hf2) ?_
     refine d_t 14 rfl rfl (by kernel_rfl) rfl (fun _ m => m.keepsI (.cons _ (.cons _ (.refl _))) ((jp).trans j30) hE2 hf2) (y_v rfl (v_assign rfl)) ?_
     refine d_t 15 rfl rfl (by kernel_rfl) rfl (fun _ m => m.keepsI (.cons _ (.cons _ (.refl _))) ((jp).trans j30) hE2 hf2) (y_v rfl (v_assign rfl)) ?_
     refine d_done (by kernel_rfl) ?_
     refine go 2 ?_
     refine bring3 ?_
     refine bring4 ?_
     refine d_start2 T.mixed ?_
     refine d_tv 0 rfl rfl (by kernel_rfl) rfl (.cons _ (.cons _ (.refl _))) rfl (v_ldw m2 he rfl rfl) ?_
     refine d_tv 1 rfl rfl (by kernel_rfl) rfl (.cons _ (.cons _ (.refl _))) rfl (v_ldw m0 he rfl rfl) ?_
     refine d_tv 2 rfl rfl (by kernel_rfl) rfl (.cons _ (.cons _ (.refl _))) rfl (v_move rfl) ?_
     refine d_tv 3 rfl rfl (by kernel_rfl) rfl (.cons _ (.cons _ (.refl _))) rfl (v_eql rfl rfl) ?_
     refine d_tv 4 rfl rfl (by kernel_rfl) rfl (.cons _ (.cons _ (.refl _))) rfl (v_move rfl) ?_
     refine sxb 38 rfl (fun h38 p38 => ?_) (fun h38 p38 => ?_)
     ·refine d_t 5 rfl rfl (by kernel_rfl) rfl (fun _ m => m.keeps (.cons _ (.cons _ (.refl _)))) (y_yes rfl rfl h38 (v_move rfl)) ?_
      refine d_t 6 rfl rfl (by kernel_rfl) rfl (fun _ m => m.keeps (.cons _ (.cons _ (.refl _)))) (y_yes rfl rfl h38 (v_eql rfl rfl)) ?_
      refine d_tv 7 rfl rfl (by kernel_rfl) rfl (.cons _ (.cons _ (.refl _))) rfl (v_and_t h38 rfl rfl) ?_
      refine d_one 8 (by kernel_rfl) rfl ?_
      refine o_stw _ he rfl rfl rfl rfl rfl (by simp [RdS.one hwa]) ?_
      refine d_on (fun _ m => m.keeps (.cons _ (.cons _ (.refl _)))) ?_
      refine d_one 9 (by kernel_rfl) rfl ?_
      refine bring1 ?_
      refine o_stw _ he rfl rfl rfl rfl rfl (by simp [RdS.one hwb]) ?_
      refine d_on (fun _ m => m.keeps (.cons _ (.cons _ (.refl _)))) ?_
      refine d_tv 10 rfl rfl (by kernel_rfl) rfl (.cons _ (.cons _ (.refl _))) rfl (v_assign rfl) ?_
      refine d_done (by kernel_rfl) ?_
      refine go 2 ?_
      refine fin3 rfl ⟨_, _, _, rfl, m1, .inr ⟨_, he, rfl, rfl⟩⟩ ⟨_, _, _, rfl, m0, .inr ⟨_, he, rfl, rfl⟩⟩ rfl ?_
      exact q_i ⟨wa, wb, by simp only [h38, bS], hwa, hwb⟩
     ·refine d_t 5 rfl rfl (by kernel_rfl) rfl (fun _ m => m.keeps (.cons _ (.cons _ (.refl _)))) (y_no rfl rfl h38) ?_
      refine d_t 6 rfl rfl (by kernel_rfl) rfl (fun _ m => m.keeps (.cons _ (.cons _ (.refl _)))) (y_no rfl rfl h38) ?_
      refine d_tv 7 rfl rfl (by kernel_rfl) rfl (.cons _ (.cons _ (.refl _))) rfl (v_and_f h38 rfl) ?_
      refine d_one 8 (by kernel_rfl) rfl ?_
      refine o_stw _ he rfl rfl rfl rfl rfl (by simp [RdS.one hwa]) ?_
      refine d_on (fun _ m => m.keeps (.cons _ (.cons _ (.refl _)))) ?_
      refine d_one 9 (by kernel_rfl) rfl ?_
      refine bring1 ?_
      refine o_stw _ he rfl rfl rfl rfl rfl (by simp [RdS.one hwb]) ?_
      refine d_on (fun _ m => m.keeps (.cons _ (.cons _ (.refl _)))) ?_
      refine d_tv 10 rfl rfl (by kernel_rfl) rfl (.cons _ (.cons _ (.refl _))) rfl (v_assign rfl) ?_
      refine d_done (by kernel_rfl) ?_
      refine go 2 ?_
      refine fin3 rfl ⟨_, _, _, rfl, m1, .inr ⟨_, he, rfl, rfl⟩⟩ ⟨_, _, _, rfl, m0, .inr ⟨_, he, rfl, rfl⟩⟩ rfl ?_
      exact q_i ⟨wa, wb, by simp only [h38, bS], hwa, hwb⟩
   ·refine o_alloc he rfl (fun g12 => ?_)
    refine d_on (fun _ m => m.keeps (.cons _ (.cons _ (.cons _ (.refl _))))) ?_
    refine d_one 3 (by kernel_rfl) rfl ?_
    refine bring2 ?_
    refine o_appendR (hv) rfl he he rfl rfl rfl rfl (by omega) (by omega) rfl (fun v26 x26 f26 => ?_)
    refine d_on (fun _ m => m.keeps (.cons _ (.cons _ (.cons _ (.refl _))))) ?_
    refine d_one 6 (by kernel_rfl) rfl ?_
    refine bring2 ?_
    refine bring1 ?_
    refine o_appendO he he rfl rfl rfl rfl rfl (by omega) (by omega) rfl (fun v29 => ?_)
    refine d_on (fun _ m => m.keeps (.cons _ (.cons _ (.cons _ (.refl _))))) ?_
    refine d_one 7 (by kernel_rfl) rfl ?_
    refine sx_pubrow (l := (l ++ [e])) rfl (by simp) ((f26.append (.one rfl))) (fun Ip jp Rp => ?_)
    try have hvc := hvc.le jp
    try have hf := hf.le jp
    try have hv := hv.le jp
    try have hwa := hwa.le jp
    try have hA := hA.le jp
    refine o_call (lifeRun _ vc c hvc hsc f sf hf _ (l ++ [e]) Rp (by simp; omega) (fun x hx => by rcases List.mem_append.1 hx with h | h; exact hse x h; rw [List.mem_singleton.1 h]; exact hee) 40000) rfl rfl (fun v30 I30 j30 q30 => ?_)
    try have hvc := hvc.le j30
    try have hf := hf.le j30
    try have hv := hv.le j30
    try have hwa := hwa.le j30
    try have hA := hA.le j30
    obtain ⟨wb, rfl, hwb⟩ := q30
    refine d_on (fun _ m => m.keepsI (.cons _ (.cons _ (.refl _))) ((jp).trans j30) hE2 hf2) ?_
    refine d_t 8 rfl rfl (by kernel_rfl) rfl (fun _ m => m.keepsI (.cons _ (.cons _ (.refl _))) ((jp).trans j30) hE2 hf2) (y_v rfl (v_move rfl)) ?_
    refine d_t 9 rfl rfl (by kernel_rfl) rfl (fun _ m => m.keepsI (.cons _ (.cons _ (.refl _))) ((jp).trans j30) hE2 hf2) (y_v rfl (v_extract rfl rfl)) ?_
    refine d_t 10 rfl rfl (by kernel_rfl) rfl (fun _ m => m.keepsI (.cons _ (.cons _ (.refl _))) ((jp).trans j30) hE2 hf2) (y_v rfl (v_extract rfl rfl)) ?_
    refine d_t 11 rfl rfl (by kernel_rfl) rfl (fun _ m => m.keepsI (.cons _ (.cons _ (.refl _))) ((jp).trans j30) hE2 hf2) (y_v rfl (v_extract rfl rfl)) ?_
    refine d_one 13 (by kernel_rfl) rfl ?_
    refine bring1 ?_
    refine o_stw _ he rfl rfl rfl rfl rfl (by simp [RdS.one hwb]) ?_
    refine d_on (fun _ m => m.keepsI (.cons _ (.cons _ (.refl _))) ((jp).trans j30) hE2 hf2) ?_
    refine d_t 14 rfl rfl (by kernel_rfl) rfl (fun _ m => m.keepsI (.cons _ (.cons _ (.refl _))) ((jp).trans j30) hE2 hf2) (y_v rfl (v_assign rfl)) ?_
    refine d_t 15 rfl rfl (by kernel_rfl) rfl (fun _ m => m.keepsI (.cons _ (.cons _ (.refl _))) ((jp).trans j30) hE2 hf2) (y_v rfl (v_assign rfl)) ?_
    refine d_done (by kernel_rfl) ?_
    refine go 2 ?_
    refine bring3 ?_
    refine bring4 ?_
    refine d_start2 T.mixed ?_
    refine d_tv 0 rfl rfl (by kernel_rfl) rfl (.cons _ (.cons _ (.refl _))) rfl (v_ldw m2 he rfl rfl) ?_
    refine d_tv 1 rfl rfl (by kernel_rfl) rfl (.cons _ (.cons _ (.refl _))) rfl (v_ldw m0 he rfl rfl) ?_
    refine d_tv 2 rfl rfl (by kernel_rfl) rfl (.cons _ (.cons _ (.refl _))) rfl (v_move rfl) ?_
    refine d_tv 3 rfl rfl (by kernel_rfl) rfl (.cons _ (.cons _ (.refl _))) rfl (v_eql rfl rfl) ?_
    refine d_tv 4 rfl rfl (by kernel_rfl) rfl (.cons _ (.cons _ (.refl _))) rfl (v_move rfl) ?_
    refine sxb 38 rfl (fun h38 p38 => ?_) (fun h38 p38 => ?_)
    ·refine d_t 5 rfl rfl (by kernel_rfl) rfl (fun _ m => m.keeps (.cons _ (.cons _ (.refl _)))) (y_yes rfl rfl h38 (v_move rfl)) ?_
     refine d_t 6 rfl rfl (by kernel_rfl) rfl (fun _ m => m.keeps (.cons _ (.cons _ (.refl _)))) (y_yes rfl rfl h38 (v_eql rfl rfl)) ?_
     refine d_tv 7 rfl rfl (by kernel_rfl) rfl (.cons _ (.cons _ (.refl _))) rfl (v_and_t h38 rfl rfl) ?_
     refine d_one 8 (by kernel_rfl) rfl ?_
     refine o_stw _ he rfl rfl rfl rfl rfl (by simp [RdS.one hwa]) ?_
     refine d_on (fun _ m => m.keeps (.cons _ (.cons _ (.refl _)))) ?_
     refine d_one 9 (by kernel_rfl) rfl ?_
     refine bring1 ?_
     refine o_stw _ he rfl rfl rfl rfl rfl (by simp [RdS.one hwb]) ?_
     refine d_on (fun _ m => m.keeps (.cons _ (.cons _ (.refl _)))) ?_
     refine d_tv 10 rfl rfl (by kernel_rfl) rfl (.cons _ (.cons _ (.refl _))) rfl (v_assign rfl) ?_
     refine d_done (by kernel_rfl) ?_
     refine go 2 ?_
     refine fin3 rfl ⟨_, _, _, rfl, m1, .inr ⟨_, he, rfl, rfl⟩⟩ ⟨_, _, _, rfl, m0, .inr ⟨_, he, rfl, rfl⟩⟩ rfl ?_
     exact q_i ⟨wa, wb, by simp only [h38, bS], hwa, hwb⟩
    ·refine d_t 5 rfl rfl (by kernel_rfl) rfl (fun _ m => m.keeps (.cons _ (.cons _ (.refl _)))) (y_no rfl rfl h38) ?_
     refine d_t 6 rfl rfl (by kernel_rfl) rfl (fun _ m => m.keeps (.cons _ (.cons _ (.refl _)))) (y_no rfl rfl h38) ?_
     refine d_tv 7 rfl rfl (by kernel_rfl) rfl (.cons _ (.cons _ (.refl _))) rfl (v_and_f h38 rfl) ?_
     refine d_one 8 (by kernel_rfl) rfl ?_
     refine o_stw _ he rfl rfl rfl rfl rfl (by simp [RdS.one hwa]) ?_
     refine d_on (fun _ m => m.keeps (.cons _ (.cons _ (.refl _)))) ?_
     refine d_one 9 (by kernel_rfl) rfl ?_
     refine bring1 ?_
     refine o_stw _ he rfl rfl rfl rfl rfl (by simp [RdS.one hwb]) ?_
     refine d_on (fun _ m => m.keeps (.cons _ (.cons _ (.refl _)))) ?_
     refine d_tv 10 rfl rfl (by kernel_rfl) rfl (.cons _ (.cons _ (.refl _))) rfl (v_assign rfl) ?_
     refine d_done (by kernel_rfl) ?_
     refine go 2 ?_
     refine fin3 rfl ⟨_, _, _, rfl, m1, .inr ⟨_, he, rfl, rfl⟩⟩ ⟨_, _, _, rfl, m0, .inr ⟨_, he, rfl, rfl⟩⟩ rfl ?_
     exact q_i ⟨wa, wb, by simp only [h38, bS], hwa, hwb⟩
  ·refine o_alloc he rfl (fun g12 => ?_)
   refine d_on (fun _ m => m.keeps (.cons _ (.cons _ (.refl _)))) ?_
   refine d_two 3 5 (by kernel_rfl) rfl rfl ?_ ?_
   ·refine bring1 ?_
    refine o_appendR (hv) rfl he he rfl rfl rfl rfl (by omega) (by omega) rfl (fun v26 x26 f26 => ?_)
    refine d_on (fun _ m => m.keeps (.cons _ (.cons _ (.refl _)))) ?_
    refine d_one 5 (by kernel_rfl) rfl ?_
    refine o_buildSlice he he rfl rfl rfl rfl rfl rfl rfl (fun v28 => ?_)
    refine d_on (fun _ m => m.keeps (.cons _ (.cons _ (.cons _ (.refl _))))) ?_
    refine d_one 6 (by kernel_rfl) rfl ?_
    refine bring1 ?_
    refine o_appendO he he rfl rfl rfl rfl rfl (by omega) (by omega) rfl (fun v29 => ?_)
    refine d_on (fun _ m => m.keeps (.cons _ (.cons _ (.cons _ (.refl _))))) ?_
    refine d_one 7 (by kernel_rfl) rfl ?_
    refine sx_pubrow (l := (l ++ [e])) rfl (by simp) ((f26.append (.one rfl))) (fun Ip jp Rp => ?_)
    try have hvc := hvc.le jp
    try have hf := hf.le jp
    try have hv := hv.le jp
    try have hwa := hwa.le jp
    try have hA := hA.le jp
    refine o_call (lifeRun _ vc c hvc hsc f sf hf _ (l ++ [e]) Rp (by simp; omega) (fun x hx => by rcases List.mem_append.1 hx with h | h; exact hse x h; rw [List.mem_singleton.1 h]; exact hee) 40000) rfl rfl (fun v30 I30 j30 q30 => ?_)
    try have hvc := hvc.le j30
    try have hf := hf.le j30
    try have hv := hv.le j30
    try have hwa := hwa.le j30
    try have hA := hA.le j30
    obtain ⟨wb, rfl, hwb⟩ := q30
    refine d_on (fun _ m => m.keepsI (.cons _ (.cons _ (.refl _))) ((jp).trans j30) hE2 hf2) ?_
    refine d_t 8 rfl rfl (by kernel_rfl) rfl (fun _ m => m.keepsI (.cons _ (.cons _ (.refl _))) ((jp).trans j30) hE2 hf2) (y_v rfl (v_move rfl)) ?_
    refine d_t 9 rfl rfl (by kernel_rfl) rfl (fun _ m => m.keepsI (.cons _ (.cons _ (.refl _))) ((jp).trans j30) hE2 hf2) (y_v rfl (v_extract rfl rfl)) ?_
    refine d_t 10 rfl rfl (by kernel_rfl) rfl (fun _ m => m.keepsI (.cons _ (.cons _ (.refl _))) ((jp).trans j30) hE2 hf2) (y_v rfl (v_extract rfl rfl)) ?_
    refine d_t 11 rfl rfl (by kernel_rfl) rfl (fun _ m => m.keepsI (.cons _ (.cons _ (.refl _))) ((jp).trans j30) hE2 hf2) (y_v rfl (v_extract rfl rfl)) ?_
    refine d_one 13 (by kernel_rfl) rfl ?_
    refine bring1 ?_
    refine o_stw _ he rfl rfl rfl rfl rfl (by simp [RdS.one hwb]) ?_
    refine d_on (fun _ m => m.keepsI (.cons _ (.cons _ (.refl _))) ((jp).trans j30) hE2 hf2) ?_
    refine d_t 14 rfl rfl (by kernel_rfl) rfl (fun _ m => m.keepsI (.cons _ (.cons _ (.refl _))) ((jp).trans j30) hE2 hf2) (y_v rfl (v_assign rfl)) ?_
    refine d_t 15 rfl rfl (by kernel_rfl) rfl (fun _ m => m.keepsI (.cons _ (.cons _ (.refl _))) ((jp).trans j30) hE2 hf2) (y_v rfl (v_assign rfl)) ?_
    refine d_done (by kernel_rfl) ?_
    refine go 2 ?_
    refine bring3 ?_
    refine bring4 ?_
    refine d_start2 T.mixed ?_
    refine d_tv 0 rfl rfl (by kernel_rfl) rfl (.cons _ (.cons _ (.refl _))) rfl (v_ldw m2 he rfl rfl) ?_
    refine d_tv 1 rfl rfl (by kernel_rfl) rfl (.cons _ (.cons _ (.refl _))) rfl (v_ldw m0 he rfl rfl) ?_
    refine d_tv 2 rfl rfl (by kernel_rfl) rfl (.cons _ (.cons _ (.refl _))) rfl (v_move rfl) ?_
    refine d_tv 3 rfl rfl (by kernel_rfl) rfl (.cons _ (.cons _ (.refl _))) rfl (v_eql rfl rfl) ?_
    refine d_tv 4 rfl rfl (by kernel_rfl) rfl (.cons _ (.cons _ (.refl _))) rfl (v_move rfl) ?_
    refine sxb 38 rfl (fun h38 p38 => ?_) (fun h38 p38 => ?_)
    ·refine d_t 5 rfl rfl (by kernel_rfl) rfl (fun _ m => m.keeps (.cons _ (.cons _ (.refl _)))) (y_yes rfl rfl h38 (v_move rfl)) ?_
     refine d_t 6 rfl rfl (by kernel_rfl) rfl (fun _ m => m.keeps (.cons _ (.cons _ (.refl _)))) (y_yes rfl rfl h38 (v_eql rfl rfl)) ?_
     refine d_tv 7 rfl rfl (by kernel_rfl) rfl (.cons _ (.cons _ (.refl _))) rfl (v_and_t h38 rfl rfl) ?_
     refine d_one 8 (by kernel_rfl) rfl ?_
     refine o_stw _ he rfl rfl rfl rfl rfl (by simp [RdS.one hwa]) ?_
     refine d_on (fun _ m => m.keeps (.cons _ (.cons _ (.refl _)))) ?_
     refine d_one 9 (by kernel_rfl) rfl ?_
     refine bring1 ?_
     refine o_stw _ he rfl rfl rfl rfl rfl (by simp [RdS.one hwb]) ?_
     refine d_on (fun _ m => m.keeps (.cons _ (.cons _ (.refl _)))) ?_
     refine d_tv 10 rfl rfl (by kernel_rfl) rfl (.cons _ (.cons _ (.refl _))) rfl (v_assign rfl) ?_
     refine d_done (by kernel_rfl) ?_
     refine go 2 ?_
     refine fin3 rfl ⟨_, _, _, rfl, m1, .inr ⟨_, he, rfl, rfl⟩⟩ ⟨_, _, _, rfl, m0, .inr ⟨_, he, rfl, rfl⟩⟩ rfl ?_
     exact q_i ⟨wa, wb, by simp only [h38, bS], hwa, hwb⟩
    ·refine d_t 5 rfl rfl (by kernel_rfl) rfl (fun _ m => m.keeps (.cons _ (.cons _ (.refl _)))) (y_no rfl rfl h38) ?_
     refine d_t 6 rfl rfl (by kernel_rfl) rfl (fun _ m => m.keeps (.cons _ (.cons _ (.refl _)))) (y_no rfl rfl h38) ?_
     refine d_tv 7 rfl rfl (by kernel_rfl) rfl (.cons _ (.cons _ (.refl _))) rfl (v_and_f h38 rfl) ?_
     refine d_one 8 (by kernel_rfl) rfl ?_
     refine o_stw _ he rfl rfl rfl rfl rfl (by simp [RdS.one hwa]) ?_
     refine d_on (fun _ m => m.keeps (.cons _ (.cons _ (.refl _)))) ?_
     refine d_one 9 (by kernel_rfl) rfl ?_
     refine bring1 ?_
     refine o_stw _ he rfl rfl rfl rfl rfl (by simp [RdS.one hwb]) ?_
     refine d_on (fun _ m => m.keeps (.cons _ (.cons _ (.refl _)))) ?_
     refine d_tv 10 rfl rfl (by kernel_rfl) rfl (.cons _ (.cons _ (.refl _))) rfl (v_assign rfl) ?_
     refine d_done (by kernel_rfl) ?_
     refine go 2 ?_
     refine fin3 rfl ⟨_, _, _, rfl, m1, .inr ⟨_, he, rfl, rfl⟩⟩ ⟨_, _, _, rfl, m0, .inr ⟨_, he, rfl, rfl⟩⟩ rfl ?_
     exact q_i ⟨wa, wb, by simp only [h38, bS], hwa, hwb⟩
   ·refine o_buildSlice he he rfl rfl rfl rfl rfl rfl rfl (fun v28 => ?_)
    refine d_on (fun _ m => m.keeps (.cons _ (.cons _ (.cons _ (.refl _))))) ?_
    refine d_one 3 (by kernel_rfl) rfl ?_
    refine bring2 ?_
    refine o_appendR (hv) rfl he he rfl rfl rfl rfl (by omega) (by omega) rfl (fun v26 x26 f26 => ?_)
    refine d_on (fun _ m => m.keeps (.cons _ (.cons _ (.cons _ (.refl _))))) ?_
    refine d_one 6 (by kernel_rfl) rfl ?_
    refine bring1 ?_
    refine bring1 ?_
    refine o_appendO he he rfl rfl rfl rfl rfl (by omega) (by omega) rfl (fun v29 => ?_)
    refine d_on (fun _ m => m.keeps (.cons _ (.cons _ (.cons _ (.refl _))))) ?_
    refine d_one 7 (by kernel_rfl) rfl ?_
    refine sx_pubrow (l := (l ++ [e])) rfl (by simp) ((f26.append (.one rfl))) (fun Ip jp Rp => ?_)
    try have hvc := hvc.le jp
    try have hf := hf.le jp
    try have hv := hv.le jp
    try have hwa := hwa.le jp
    try have hA := hA.le jp
    refine o_call (lifeRun _ vc c hvc hsc f sf hf _ (l ++ [e]) Rp (by simp; omega) (fun x hx => by rcases List.mem_append.1 hx with h | h; exact hse x h; rw [List.mem_singleton.1 h]; exact hee) 40000) rfl rfl (fun v30 I30 j30 q30 => ?_)
    try have hvc := hvc.le j30
    try have hf := hf.le j30
    try have hv := hv.le j30
    try have hwa := hwa.le j30
    try have hA := hA.le j30
    obtain ⟨wb, rfl, hwb⟩ := q30
    refine d_on (fun _ m => m.keepsI (.cons _ (.cons _ (.refl _))) ((jp).trans j30) hE2 hf2) ?_
    refine d_t 8 rfl rfl (by kernel_rfl) rfl (fun _ m => m.keepsI (.cons _ (.cons _ (.refl _))) ((jp).trans j30) hE2 hf2) (y_v rfl (v_move rfl)) ?_
    refine d_t 9 rfl rfl (by kernel_rfl) rfl (fun _ m => m.keepsI (.cons _ (.cons _ (.refl _))) ((jp).trans j30) hE2 hf2) (y_v rfl (v_extract rfl rfl)) ?_
    refine d_t 10 rfl rfl (by kernel_rfl) rfl (fun _ m => m.keepsI (.cons _ (.cons _ (.refl _))) ((jp).trans j30) hE2 hf2) (y_v rfl (v_extract rfl rfl)) ?_
    refine d_t 11 rfl rfl (by kernel_rfl) rfl (fun _ m => m.keepsI (.cons _ (.cons _ (.refl _))) ((jp).trans j30) hE2 hf2) (y_v rfl (v_extract rfl rfl)) ?_
    refine d_one 13 (by kernel_rfl) rfl ?_
    refine bring1 ?_
    refine o_stw _ he rfl rfl rfl rfl rfl (by simp [RdS.one hwb]) ?_
    refine d_on (fun _ m => m.keepsI (.cons _ (.cons _ (.refl _))) ((jp).trans j30) hE2 hf2) ?_
    refine d_t 14 rfl rfl (by kernel_rfl) rfl (fun _ m => m.keepsI (.cons _ (.cons _ (.refl _))) ((jp).trans j30) hE2 hf2) (y_v rfl (v_assign rfl)) ?_
    refine d_t 15 rfl rfl (by kernel_rfl) rfl (fun _ m => m.keepsI (.cons _ (.cons _ (.refl _))) ((jp).trans j30) hE2 hf2) (y_v rfl (v_assign rfl)) ?_
    refine d_done (by kernel_rfl) ?_
    refine go 2 ?_
    refine bring3 ?_
    refine bring4 ?_
    refine d_start2 T.mixed ?_
    refine d_tv 0 rfl rfl (by kernel_rfl) rfl (.cons _ (.cons _ (.refl _))) rfl (v_ldw m2 he rfl rfl) ?_
    refine d_tv 1 rfl rfl (by kernel_rfl) rfl (.cons _ (.cons _ (.refl _))) rfl (v_ldw m0 he rfl rfl) ?_
    refine d_tv 2 rfl rfl (by kernel_rfl) rfl (.cons _ (.cons _ (.refl _))) rfl (v_move rfl) ?_
    refine d_tv 3 rfl rfl (by kernel_rfl) rfl (.cons _ (.cons _ (.refl _))) rfl (v_eql rfl rfl) ?_
    refine d_tv 4 rfl rfl (by kernel_rfl) rfl (.cons _ (.cons _ (.refl _))) rfl (v_move rfl) ?_
    refine sxb 38 rfl (fun h38 p38 => ?_) (fun h38 p38 => ?_)
    ·refine d_t 5 rfl rfl (by kernel_rfl) rfl (fun _ m => m.keeps (.cons _ (.cons _ (.refl _)))) (y_yes rfl rfl h38 (v_move rfl)) ?_
     refine d_t 6 rfl rfl (by kernel_rfl) rfl (fun _ m => m.keeps (.cons _ (.cons _ (.refl _)))) (y_yes rfl rfl h38 (v_eql rfl rfl)) ?_
     refine d_tv 7 rfl rfl (by kernel_rfl) rfl (.cons _ (.cons _ (.refl _))) rfl (v_and_t h38 rfl rfl) ?_
     refine d_one 8 (by kernel_rfl) rfl ?_
     refine o_stw _ he rfl rfl rfl rfl rfl (by simp [RdS.one hwa]) ?_
     refine d_on (fun _ m => m.keeps (.cons _ (.cons _ (.refl _)))) ?_
     refine d_one 9 (by kernel_rfl) rfl ?_
     refine bring1 ?_
     refine o_stw _ he rfl rfl rfl rfl rfl (by simp [RdS.one hwb]) ?_
     refine d_on (fun _ m => m.keeps (.cons _ (.cons _ (.refl _)))) ?_
     refine d_tv 10 rfl rfl (by kernel_rfl) rfl (.cons _ (.cons _ (.refl _))) rfl (v_assign rfl) ?_
     refine d_done (by kernel_rfl) ?_
     refine go 2 ?_
     refine fin3 rfl ⟨_, _, _, rfl, m1, .inr ⟨_, he, rfl, rfl⟩⟩ ⟨_, _, _, rfl, m0, .inr ⟨_, he, rfl, rfl⟩⟩ rfl ?_
     exact q_i ⟨wa, wb, by simp only [h38, bS], hwa, hwb⟩
    ·refine d_t 5 rfl rfl (by kernel_rfl) rfl (fun _ m => m.keeps (.cons _ (.cons _ (.refl _)))) (y_no rfl rfl h38) ?_
     refine d_t 6 rfl rfl (by kernel_rfl) rfl (fun _ m => m.keeps (.cons _ (.cons _ (.refl _)))) (y_no rfl rfl h38) ?_
     refine d_tv 7 rfl rfl (by kernel_rfl) rfl (.cons _ (.cons _ (.refl _))) rfl (v_and_f h38 rfl) ?_
     refine d_one 8 (by kernel_rfl) rfl ?_
     refine o_stw _ he rfl rfl rfl rfl rfl (by simp [RdS.one hwa]) ?_
     refine d_on (fun _ m => m.keeps (.cons _ (.cons _ (.refl _)))) ?_
     refine d_one 9 (by kernel_rfl) rfl ?_
     refine bring1 ?_
     refine o_stw _ he rfl rfl rfl rfl rfl (by simp [RdS.one hwb]) ?_
     refine d_on (fun _ m => m.keeps (.cons _ (.cons _ (.refl _)))) ?_
     refine d_tv 10 rfl rfl (by kernel_rfl) rfl (.cons _ (.cons _ (.refl _))) rfl (v_assign rfl) ?_
     refine d_done (by kernel_rfl) ?_
     refine go 2 ?_
     refine fin3 rfl ⟨_, _, _, rfl, m1, .inr ⟨_, he, rfl, rfl⟩⟩ ⟨_, _, _, rfl, m0, .inr ⟨_, he, rfl, rfl⟩⟩ rfl ?_
     exact q_i ⟨wa, wb, by simp only [h38, bS], hwa, hwb⟩
 ·refine o_buildSlice he he rfl rfl rfl rfl rfl rfl rfl (fun v28 => ?_)
  refine d_on (fun _ m => m.keeps (.cons _ (.refl _))) ?_
  refine d_two 1 12 (by kernel_rfl) rfl rfl ?_ ?_
  ·refine o_buildSlice he he rfl rfl rfl rfl rfl rfl rfl (fun v24 => ?_)
   refine d_on (fun _ m => m.keeps (.cons _ (.cons _ (.refl _)))) ?_
   refine d_two 3 12 (by kernel_rfl) rfl rfl ?_ ?_
   ·refine o_appendR (hv) rfl he he rfl rfl rfl rfl (by omega) (by omega) rfl (fun v26 x26 f26 => ?_)
    refine d_on (fun _ m => m.keeps (.cons _ (.cons _ (.refl _)))) ?_
    refine d_two 6 12 (by kernel_rfl) rfl rfl ?_ ?_
    ·refine bring1 ?_
     refine bring1 ?_
     refine o_appendO he he rfl rfl rfl rfl rfl (by omega) (by omega) rfl (fun v29 => ?_)
     refine d_on (fun _ m => m.keeps (.cons _ (.cons _ (.refl _)))) ?_
     refine d_two 7 12 (by kernel_rfl) rfl rfl ?_ ?_
     ·refine sx_pubrow (l := (l ++ [e])) rfl (by simp) ((f26.append (.one rfl))) (fun Ip jp Rp => ?_)
      try have hvc := hvc.le jp
      try have hf := hf.le jp
      try have hv := hv.le jp
      try have hwa := hwa.le jp
      try have hA := hA.le jp
      refine o_call (lifeRun _ vc c hvc hsc f sf hf _ (l ++ [e]) Rp (by simp; omega) (fun x hx => by rcases List.mem_append.1 hx with h | h; exact hse x h; rw [List.mem_singleton.1 h]; exact hee) 40000) rfl rfl (fun v30 I30 j30 q30 => ?_)
      try have hvc := hvc.le j30
      try have hf := hf.le j30
      try have hv := hv.le j30
      try have hwa := hwa.le j30
      try have hA := hA.le j30
      obtain ⟨wb, rfl, hwb⟩ := q30
      refine d_on (fun _ m => m.keepsI (.cons _ (.refl _)) ((jp).trans j30) hE2 hf2) ?_
      refine d_t 8 rfl rfl (by kernel_rfl) rfl (fun _ m => m.keepsI (.cons _ (.refl _)) ((jp).trans j30) hE2 hf2) (y_v rfl (v_move rfl)) ?_
      refine d_t 9 rfl rfl (by kernel_rfl) rfl (fun _ m => m.keepsI (.cons _ (.refl _)) ((jp).trans j30) hE2 hf2) (y_v rfl (v_extract rfl rfl)) ?_
      refine d_t 10 rfl rfl (by kernel_rfl) rfl (fun _ m => m.keepsI (.cons _ (.refl _)) ((jp).trans j30) hE2 hf2) (y_v rfl (v_extract rfl rfl)) ?_
      refine d_t 11 rfl rfl (by kernel_rfl) rfl (fun _ m => m.keepsI (.cons _ (.refl _)) ((jp).trans j30) hE2 hf2) (y_v rfl (v_extract rfl rfl)) ?_
      refine d_one 12 (by kernel_rfl) rfl ?_
      refine o_alloc he rfl (fun g12 => ?_)
      refine d_on (fun _ m => m.keepsI (.cons _ (.cons _ (.refl _))) ((jp).trans j30) hE2 hf2) ?_
      refine d_one 13 (by kernel_rfl) rfl ?_
      refine o_stw _ he rfl rfl rfl rfl rfl (by simp [RdS.one hwb]) ?_
      refine d_on (fun _ m => m.keepsI (.cons _ (.cons _ (.refl _))) ((jp).trans j30) hE2 hf2) ?_
      refine d_t 14 rfl rfl (by kernel_rfl) rfl (fun _ m => m.keepsI (.cons _ (.cons _ (.refl _))) ((jp).trans j30) hE2 hf2) (y_v rfl (v_assign rfl)) ?_
      refine d_t 15 rfl rfl (by kernel_rfl) rfl (fun _ m => m.keepsI (.cons _ (.cons _ (.refl _))) ((jp).trans j30) hE2 hf2) (y_v rfl (v_assign rfl)) ?_
      refine d_done (by kernel_rfl) ?_
      refine go 2 ?_
      refine bring3 ?_
      refine bring4 ?_
      refine d_start2 T.mixed ?_
      refine d_tv 0 rfl rfl (by kernel_rfl) rfl (.cons _ (.cons _ (.refl _))) rfl (v_ldw m2 he rfl rfl) ?_
      refine d_tv 1 rfl rfl (by kernel_rfl) rfl (.cons _ (.cons _ (.refl _))) rfl (v_ldw m0 he rfl rfl) ?_
      refine d_tv 2 rfl rfl (by kernel_rfl) rfl (.cons _ (.cons _ (.refl _))) rfl (v_move rfl) ?_
      refine d_tv 3 rfl rfl (by kernel_rfl) rfl (.cons _ (.cons _ (.refl _))) rfl (v_eql rfl rfl) ?_
      refine d_tv 4 rfl rfl (by kernel_rfl) rfl (.cons _ (.cons _ (.refl _))) rfl (v_move rfl) ?_
      refine sxb 38 rfl (fun h38 p38 => ?_) (fun h38 p38 => ?_)
      ·refine d_t 5 rfl rfl (by kernel_rfl) rfl (fun _ m => m.keeps (.cons _ (.cons _ (.refl _)))) (y_yes rfl rfl h38 (v_move rfl)) ?_
       refine d_t 6 rfl rfl (by kernel_rfl) rfl (fun _ m => m.keeps (.cons _ (.cons _ (.refl _)))) (y_yes rfl rfl h38 (v_eql rfl rfl)) ?_
       refine d_tv 7 rfl rfl (by kernel_rfl) rfl (.cons _ (.cons _ (.refl _))) rfl (v_and_t h38 rfl rfl) ?_
       refine d_one 8 (by kernel_rfl) rfl ?_
       refine o_stw _ he rfl rfl rfl rfl rfl (by simp [RdS.one hwa]) ?_
       refine d_on (fun _ m => m.keeps (.cons _ (.cons _ (.refl _)))) ?_
       refine d_one 9 (by kernel_rfl) rfl ?_
       refine bring1 ?_
       refine o_stw _ he rfl rfl rfl rfl rfl (by simp [RdS.one hwb]) ?_
       refine d_on (fun _ m => m.keeps (.cons _ (.cons _ (.refl _)))) ?_
       refine d_tv 10 rfl rfl (by kernel_rfl) rfl (.cons _ (.cons _ (.refl _))) rfl (v_assign rfl) ?_
       refine d_done (by kernel_rfl) ?_
       refine go 2 ?_
       refine fin3 rfl ⟨_, _, _, rfl, m1, .inr ⟨_, he, rfl, rfl⟩⟩ ⟨_, _, _, rfl, m0, .inr ⟨_, he, rfl, rfl⟩⟩ rfl ?_
       exact q_i ⟨wa, wb, by simp only [h38, bS], hwa, hwb⟩
      ·refine d_t 5 rfl rfl (by kernel_rfl) rfl (fun _ m => m.keeps (.cons _ (.cons _ (.refl _)))) (y_no rfl rfl h38) ?_
       refine d_t 6 rfl rfl (by kernel_rfl) rfl (fun _ m => m.keeps (.cons _ (.cons _ (.refl _)))) (y_no rfl rfl h38) ?_
       refine d_tv 7 rfl rfl (by kernel_rfl) rfl (.cons _ (.cons _ (.refl _))) rfl (v_and_f h38 rfl) ?_
       refine d_one 8 (by kernel_rfl) rfl ?_
       refine o_stw _ he rfl rfl rfl rfl rfl (by simp [RdS.one hwa]) ?_
       refine d_on (fun _ m => m.keeps (.cons _ (.cons _ (.refl _)))) ?_
       refine d_one 9 (by kernel_rfl) rfl ?_
       refine bring1 ?_
       refine o_stw _ he rfl rfl rfl rfl rfl (by simp [RdS.one hwb]) ?_
       refine d_on (fun _ m => m.keeps (.cons _ (.cons _ (.refl _)))) ?_
       refine d_tv 10 rfl rfl (by kernel_rfl) rfl (.cons _ (.cons _ (.refl _))) rfl (v_assign rfl) ?_
       refine d_done (by kernel_rfl) ?_
       refine go 2 ?_
       refine fin3 rfl ⟨_, _, _, rfl, m1, .inr ⟨_, he, rfl, rfl⟩⟩ ⟨_, _, _, rfl, m0, .inr ⟨_, he, rfl, rfl⟩⟩ rfl ?_
       exact q_i ⟨wa, wb, by simp only [h38, bS], hwa, hwb⟩
     ·refine o_alloc he rfl (fun g12 => ?_)
      refine d_on (fun _ m => m.keeps (.cons _ (.cons _ (.cons _ (.refl _))))) ?_
      refine d_one 7 (by kernel_rfl) rfl ?_
      refine bring1 ?_
      refine sx_pubrow (l := (l ++ [e])) rfl (by simp) ((f26.append (.one rfl))) (fun Ip jp Rp => ?_)
      try have hvc := hvc.le jp
      try have hf := hf.le jp
      try have hv := hv.le jp
      try have hwa := hwa.le jp
      try have hA := hA.le jp
      refine o_call (lifeRun _ vc c hvc hsc f sf hf _ (l ++ [e]) Rp (by simp; omega) (fun x hx => by rcases List.mem_append.1 hx with h | h; exact hse x h; rw [List.mem_singleton.1 h]; exact hee) 40000) rfl rfl (fun v30 I30 j30 q30 => ?_)
      try have hvc := hvc.le j30
      try have hf := hf.le j30
      try have hv := hv.le j30
      try have hwa := hwa.le j30
      try have hA := hA.le j30
      obtain ⟨wb, rfl, hwb⟩ := q30
      refine d_on (fun _ m => m.keepsI (.cons _ (.cons _ (.refl _))) ((jp).trans j30) hE2 hf2) ?_
      refine d_t 8 rfl rfl (by kernel_rfl) rfl (fun _ m => m.keepsI (.cons _ (.cons _ (.refl _))) ((jp).trans j30) hE2 hf2) (y_v rfl (v_move rfl)) ?_
      refine d_t 9 rfl rfl (by kernel_rfl) rfl (fun _ m => m.keepsI (.cons _ (.cons _ (.refl _))) ((jp).trans j30) hE2 hf2) (y_v rfl (v_extract rfl rfl)) ?_
      refine d_t 10 rfl rfl (by kernel_rfl) rfl (fun _ m => m.keepsI (.cons _ (.cons _ (.refl _))) ((jp).trans j30) hE2 hf2) (y_v rfl (v_extract rfl rfl)) ?_
      refine d_t 11 rfl rfl (by kernel_rfl) rfl (fun _ m => m.keepsI (.cons _ (.cons _ (.refl _))) ((jp).trans j30) hE2 hf2) (y_v rfl (v_extract rfl rfl)) ?_
      refine d_one 13 (by kernel_rfl) rfl ?_
      refine o_stw _ he rfl rfl rfl rfl rfl (by simp [RdS.one hwb]) ?_
      refine d_on (fun _ m => m.keepsI (.cons _ (.cons _ (.refl _))) ((jp).trans j30) hE2 hf2) ?_
      refine d_t 14 rfl rfl (by kernel_rfl) rfl (fun _ m => m.keepsI (.cons _ (.cons _ (.refl _))) ((jp).trans j30) hE2 hf2) (y_v rfl (v_assign rfl)) ?_
      refine d_t 15 rfl rfl (by kernel_rfl) rfl (fun _ m => m.keepsI (.cons _ (.cons _ (.refl _))) ((jp).trans j30) hE2 hf2) (y_v rfl (v_assign rfl)) ?_
      refine d_done (by kernel_rfl) ?_
      refine go 2 ?_
      refine bring3 ?_
      refine bring4 ?_
      refine d_start2 T.mixed ?_
      refine d_tv 0 rfl rfl (by kernel_rfl) rfl (.cons _ (.cons _ (.refl _))) rfl (v_ldw m2 he rfl rfl) ?_
      refine d_tv 1 rfl rfl (by kernel_rfl) rfl (.cons _ (.cons _ (.refl _))) rfl (v_ldw m0 he rfl rfl) ?_
      refine d_tv 2 rfl rfl (by kernel_rfl) rfl (.cons _ (.cons _ (.refl _))) rfl (v_move rfl) ?_
      refine d_tv 3 rfl rfl (by kernel_rfl) rfl (.cons _ (.cons _ (.refl _))) rfl (v_eql rfl rfl) ?_
      refine d_tv 4 rfl rfl (by kernel_rfl) rfl (.cons _ (.cons _ (.refl _))) rfl (v_move rfl) ?_
      refine sxb 38 rfl (fun h38 p38 => ?_) (fun h38 p38 => ?_)
      ·refine d_t 5 rfl rfl (by kernel_rfl) rfl (fun _ m => m.keeps (.cons _ (.cons _ (.refl _)))) (y_yes rfl rfl h38 (v_move rfl)) ?_
       refine d_t 6 rfl rfl (by kernel_rfl) rfl (fun _ m => m.keeps (.cons _ (.cons _ (.refl _)))) (y_yes rfl rfl h38 (v_eql rfl rfl)) ?_
       refine d_tv 7 rfl rfl (by kernel_rfl) rfl (.cons _ (.cons _ (.refl _))) rfl (v_and_t h38 rfl rfl) ?_
       refine d_one 8 (by kernel_rfl) rfl ?_
       refine o_stw _ he rfl rfl rfl rfl rfl (by simp [RdS.one hwa]) ?_
       refine d_on (fun _ m => m.keeps (.cons _ (.cons _ (.refl _)))) ?_
       refine d_one 9 (by kernel_rfl) rfl ?_
       refine bring1 ?_
       refine o_stw _ he rfl rfl rfl rfl rfl (by simp [RdS.one hwb]) ?_
       refine d_on (fun _ m => m.keeps (.cons _ (.cons _ (.refl _)))) ?_
       refine d_tv 10 rfl rfl (by kernel_rfl) rfl (.cons _ (.cons _ (.refl _))) rfl (v_assign rfl) ?_
       refine d_done (by kernel_rfl) ?_
       refine go 2 ?_
       refine fin3 rfl ⟨_, _, _, rfl, m1, .inr ⟨_, he, rfl, rfl⟩⟩ ⟨_, _, _, rfl, m0, .inr ⟨_, he, rfl, rfl⟩⟩ rfl ?_
       exact q_i ⟨wa, wb, by simp only [h38, bS], hwa, hwb⟩
      ·refine d_t 5 rfl rfl (by kernel_rfl) rfl (fun _ m => m.keeps (.cons _ (.cons _ (.refl _)))) (y_no rfl rfl h38) ?_
       refine d_t 6 rfl rfl (by kernel_rfl) rfl (fun _ m => m.keeps (.cons _ (.cons _ (.refl _)))) (y_no rfl rfl h38) ?_
       refine d_tv 7 rfl rfl (by kernel_rfl) rfl (.cons _ (.cons _ (.refl _))) rfl (v_and_f h38 rfl) ?_
       refine d_one 8 (by kernel_rfl) rfl ?_
       refine o_stw _ he rfl rfl rfl rfl rfl (by simp [RdS.one hwa]) ?_
       refine d_on (fun _ m => m.keeps (.cons _ (.cons _ (.refl _)))) ?_
       refine d_one 9 (by kernel_rfl) rfl ?_
       refine bring1 ?_
       refine o_stw _ he rfl rfl rfl rfl rfl (by simp [RdS.one hwb]) ?_
       refine d_on (fun _ m => m.keeps (.cons _ (.cons _ (.refl _)))) ?_
       refine d_tv 10 rfl rfl (by kernel_rfl) rfl (.cons _ (.cons _ (.refl _))) rfl (v_assign rfl) ?_
       refine d_done (by kernel_rfl) ?_
       refine go 2 ?_
       refine fin3 rfl ⟨_, _, _, rfl, m1, .inr ⟨_, he, rfl, rfl⟩⟩ ⟨_, _, _, rfl, m0, .inr ⟨_, he, rfl, rfl⟩⟩ rfl ?_
       exact q_i ⟨wa, wb, by simp only [h38, bS], hwa, hwb⟩
    ·refine o_alloc he rfl (fun g12 => ?_)
     refine d_on (fun _ m => m.keeps (.cons _ (.cons _ (.cons _ (.refl _))))) ?_
     refine d_one 6 (by kernel_rfl) rfl ?_
     refine bring2 ?_
     refine bring2 ?_
     refine o_appendO he he rfl rfl rfl rfl rfl (by omega) (by omega) rfl (fun v29 => ?_)
     refine d_on (fun _ m => m.keeps (.cons _ (.cons _ (.cons _ (.refl _))))) ?_
     refine d_one 7 (by kernel_rfl) rfl ?_
     refine sx_pubrow (l := (l ++ [e])) rfl (by simp) ((f26.append (.one rfl))) (fun Ip jp Rp => ?_)
     try have hvc := hvc.le jp
     try have hf := hf.le jp
     try have hv := hv.le jp
     try have hwa := hwa.le jp
     try have hA := hA.le jp
     refine o_call (lifeRun _ vc c hvc hsc f sf hf _ (l ++ [e]) Rp (by simp; omega) (fun x hx => by rcases List.mem_append.1 hx with h | h; exact hse x h; rw [List.mem_singleton.1 h]; exact hee) 40000) rfl rfl (fun v30 I30 j30 q30 => ?_)
     try have hvc := hvc.le j30
     try have hf := hf.le j30
     try have hv := hv.le j30
     try have hwa := hwa.le j30
     try have hA := hA.le j30
     obtain ⟨wb, rfl, hwb⟩ := q30
     refine d_on (fun _ m => m.keepsI (.cons _ (.cons _ (.refl _))) ((jp).trans j30) hE2 hf2) ?_
     refine d_t 8 rfl rfl (by kernel_rfl) rfl (fun _ m => m.keepsI (.cons _ (.cons _ (.refl _))) ((jp).trans j30) hE2 hf2) (y_v rfl (v_move rfl)) ?_
     refine d_t 9 rfl rfl (by kernel_rfl) rfl (fun _ m => m.keepsI (.cons _ (.cons _ (.refl _))) ((jp).trans j30) hE2 hf2) (y_v rfl (v_extract rfl rfl)) ?_
     refine d_t 10 rfl rfl (by kernel_rfl) rfl (fun _ m => m.keepsI (.cons _ (.cons _ (.refl _))) ((jp).trans j30) hE2 hf2) (y_v rfl (v_extract rfl rfl)) ?_
     refine d_t 11 rfl rfl (by kernel_rfl) rfl (fun _ m => m.keepsI (.cons _ (.cons _ (.refl _))) ((jp).trans j30) hE2 hf2) (y_v rfl (v_extract rfl rfl)) ?_
     refine d_one 13 (by kernel_rfl) rfl ?_
     refine bring1 ?_
     refine o_stw _ he rfl rfl rfl rfl rfl (by simp [RdS.one hwb]) ?_
     refine d_on (fun _ m => m.keepsI (.cons _ (.cons _ (.refl _))) ((jp).trans j30) hE2 hf2) ?_
     refine d_t 14 rfl rfl (by kernel_rfl) rfl (fun _ m => m.keepsI (.cons _ (.cons _ (.refl _))) ((jp).trans j30) hE2 hf2) (y_v rfl (v_assign rfl)) ?_
     refine d_t 15 rfl rfl (by kernel_rfl) rfl (fun _ m => m.keepsI (.cons _ (.cons _ (.refl _))) ((jp).trans j30) hE2 hf2) (y_v rfl (v_assign rfl)) ?_
     refine d_done (by kernel_rfl) ?_
     refine go 2 ?_
     refine bring3 ?_
     refine bring4 ?_
     refine d_start2 T.mixed ?_
     refine d_tv 0 rfl rfl (by kernel_rfl) rfl (.cons _ (.cons _ (.refl _))) rfl (v_ldw m2 he rfl rfl) ?_
     refine d_tv 1 rfl rfl (by kernel_rfl) rfl (.cons _ (.cons _ (.refl _))) rfl (v_ldw m0 he rfl rfl) ?_
     refine d_tv 2 rfl rfl (by kernel_rfl) rfl (.cons _ (.cons _ (.refl _))) rfl (v_move rfl) ?_
     refine d_tv 3 rfl rfl (by kernel_rfl) rfl (.cons _ (.cons _ (.refl _))) rfl (v_eql rfl rfl) ?_
     refine d_tv 4 rfl rfl (by kernel_rfl) rfl (.cons _ (.cons _ (.refl _))) rfl (v_move rfl) ?_
     refine sxb 38 rfl (fun h38 p38 => ?_) (fun h38 p38 => ?_)
     ·refine d_t 5 rfl rfl (by kernel_rfl) rfl (fun _ m => m.keeps (.cons _ (.cons _ (.refl _)))) (y_yes rfl rfl h38 (v_move rfl)) ?_
      refine d_t 6 rfl rfl (by kernel_rfl) rfl (fun _ m => m.keeps (.cons _ (.cons _ (.refl _)))) (y_yes rfl rfl h38 (v_eql rfl rfl)) ?_
      refine d_tv 7 rfl rfl (by kernel_rfl) rfl (.cons _ (.cons _ (.refl _))) rfl (v_and_t h38 rfl rfl) ?_
      refine d_one 8 (by kernel_rfl) rfl ?_
      refine o_stw _ he rfl rfl rfl rfl rfl (by simp [RdS.one hwa]) ?_
      refine d_on (fun _ m => m.keeps (.cons _ (.cons _ (.refl _)))) ?_
      refine d_one 9 (by kernel_rfl) rfl ?_
      refine bring1 ?_
      refine o_stw _ he rfl rfl rfl rfl rfl (by simp [RdS.one hwb]) ?_
      refine d_on (fun _ m => m.keeps (.cons _ (.cons _ (.refl _)))) ?_
      refine d_tv 10 rfl rfl (by kernel_rfl) rfl (.cons _ (.cons _ (.refl _))) rfl (v_assign rfl) ?_
      refine d_done (by kernel_rfl) ?_
      refine go 2 ?_
      refine fin3 rfl ⟨_, _, _, rfl, m1, .inr ⟨_, he, rfl, rfl⟩⟩ ⟨_, _, _, rfl, m0, .inr ⟨_, he, rfl, rfl⟩⟩ rfl ?_
      exact q_i ⟨wa, wb, by simp only [h38, bS], hwa, hwb⟩
     ·refine d_t 5 rfl rfl (by kernel_rfl) rfl (fun _ m => m.keeps (.cons _ (.cons _ (.refl _)))) (y_no rfl rfl h38) ?_
      refine d_t 6 rfl rfl (by kernel_rfl) rfl (fun _ m => m.keeps (.cons _ (.cons _ (.refl _)))) (y_no rfl rfl h38) ?_
      refine d_tv 7 rfl rfl (by kernel_rfl) rfl (.cons _ (.cons _ (.refl _))) rfl (v_and_f h38 rfl) ?_
      refine d_one 8 (by kernel_rfl) rfl ?_
      refine o_stw _ he rfl rfl rfl rfl rfl (by simp [RdS.one hwa]) ?_
      refine d_on (fun _ m => m.keeps (.cons _ (.cons _ (.refl _)))) ?_
      refine d_one 9 (by kernel_rfl) rfl ?_
      refine bring1 ?_
      refine o_stw _ he rfl rfl rfl rfl rfl (by simp [RdS.one hwb]) ?_
      refine d_on (fun _ m => m.keeps (.cons _ (.cons _ (.refl _)))) ?_
      refine d_tv 10 rfl rfl (by kernel_rfl) rfl (.cons _ (.cons _ (.refl _))) rfl (v_assign rfl) ?_
      refine d_done (by kernel_rfl) ?_
      refine go 2 ?_
      refine fin3 rfl ⟨_, _, _, rfl, m1, .inr ⟨_, he, rfl, rfl⟩⟩ ⟨_, _, _, rfl, m0, .inr ⟨_, he, rfl, rfl⟩⟩ rfl ?_
      exact q_i ⟨wa, wb, by simp only [h38, bS], hwa, hwb⟩
   ·refine o_alloc he rfl (fun g12 => ?_)
    refine d_on (fun _ m => m.keeps (.cons _ (.cons _ (.cons _ (.refl _))))) ?_
    refine d_one 3 (by kernel_rfl) rfl ?_
    refine bring1 ?_
    refine o_appendR (hv) rfl he he rfl rfl rfl rfl (by omega) (by omega) rfl (fun v26 x26 f26 => ?_)
    refine d_on (fun _ m => m.keeps (.cons _ (.cons _ (.cons _ (.refl _))))) ?_
    refine d_one 6 (by kernel_rfl) rfl ?_
    refine bring2 ?_
    refine bring1 ?_
    refine o_appendO he he rfl rfl rfl rfl rfl (by omega) (by omega) rfl (fun v29 => ?_)
    refine d_on (fun _ m => m.keeps (.cons _ (.cons _ (.cons _ (.refl _))))) ?_
    refine d_one 7 (by kernel_rfl) rfl ?_
    refine sx_pubrow (l := (l ++ [e])) rfl (by simp) ((f26.append (.one rfl))) (fun Ip jp Rp => ?_)
    try have hvc := hvc.le jp
    try have hf := hf.le jp
    try have hv := hv.le jp
    try have hwa := hwa.le jp
    try have hA := hA.le jp
    refine o_call (lifeRun _ vc c hvc hsc f sf hf _ (l ++ [e]) Rp (by simp; omega) (fun x hx => by rcases List.mem_append.1 hx with h | h; exact hse x h; rw [List.mem_singleton.1 h]; exact hee) 40000) rfl rfl (fun v30 I30 j30 q30 => ?_)
    try have hvc := hvc.le j30
    try have hf := hf.le j30
    try have hv := hv.le j30
    try have hwa := hwa.le j30
    try have hA := hA.le j30
    obtain ⟨wb, rfl, hwb⟩ := q30
    refine d_on (fun _ m => m.keepsI (.cons _ (.cons _ (.refl _))) ((jp).trans j30) hE2 hf2) ?_
    refine d_t 8 rfl rfl (by kernel_rfl) rfl (fun _ m => m.keepsI (.cons _ (.cons _ (.refl _))) ((jp).trans j30) hE2 hf2) (y_v rfl (v_move rfl)) ?_
    refine d_t 9 rfl rfl (by kernel_rfl) rfl (fun _ m => m.keepsI (.cons _ (.cons _ (.refl _))) ((jp).trans j30) hE2 hf2) (y_v rfl (v_extract rfl rfl)) ?_
    refine d_t 10 rfl rfl (by kernel_rfl) rfl (fun _ m => m.keepsI (.cons _ (.cons _ (.refl _))) ((jp).trans j30) hE2 hf2) (y_v rfl (v_extract rfl rfl)) ?_
    refine d_t 11 rfl rfl (by kernel_rfl) rfl (fun _ m => m.keepsI (.cons _ (.cons _ (.refl _))) ((jp).trans j30) hE2 hf2) (y_v rfl (v_extract rfl rfl)) ?_
    refine d_one 13 (by kernel_rfl) rfl ?_
    refine bring1 ?_
    refine o_stw _ he rfl rfl rfl rfl rfl (by simp [RdS.one hwb]) ?_
    refine d_on (fun _ m => m.keepsI (.cons _ (.cons _ (.refl _))) ((jp).trans j30) hE2 hf2) ?_
    refine d_t 14 rfl rfl (by kernel_rfl) rfl (fun _ m => m.keepsI (.cons _ (.cons _ (.refl _))) ((jp).trans j30) hE2 hf2) (y_v rfl (v_assign rfl)) ?_
    refine d_t 15 rfl rfl (by kernel_rfl) rfl (fun _ m => m.keepsI (.cons _ (.cons _ (.refl _))) ((jp).trans j30) hE2 hf2) (y_v rfl (v_assign rfl)) ?_
    refine d_done (by kernel_rfl) ?_
    refine go 2 ?_
    refine bring3 ?_
    refine bring4 ?_
    refine d_start2 T.mixed ?_
    refine d_tv 0 rfl rfl (by kernel_rfl) rfl (.cons _ (.cons _ (.refl _))) rfl (v_ldw m2 he rfl rfl) ?_
    refine d_tv 1 rfl rfl (by kernel_rfl) rfl (.cons _ (.cons _ (.refl _))) rfl (v_ldw m0 he rfl rfl) ?_
    refine d_tv 2 rfl rfl (by kernel_rfl) rfl (.cons _ (.cons _ (.refl _))) rfl (v_move rfl) ?_
    refine d_tv 3 rfl rfl (by kernel_rfl) rfl (.cons _ (.cons _ (.refl _))) rfl (v_eql rfl rfl) ?_
    refine d_tv 4 rfl rfl (by kernel_rfl) rfl (.cons _ (.cons _ (.refl _))) rfl (v_move rfl) ?_
    refine sxb 38 rfl (fun h38 p38 => ?_) (fun h38 p38 => ?_)
    ·refine d_t 5 rfl rfl (by kernel_rfl) rfl (fun _ m => m.keeps (.cons _ (.cons _ (.refl _)))) (y_yes rfl rfl h38 (v_move rfl)) ?_
     refine d_t 6 rfl rfl (by kernel_rfl) rfl (fun _ m => m.keeps (.cons _ (.cons _ (.refl _)))) (y_yes rfl rfl h38 (v_eql rfl rfl)) ?_
     refine d_tv 7 rfl rfl (by kernel_rfl) rfl (.cons _ (.cons _ (.refl _))) rfl (v_and_t h38 rfl rfl) ?_
     refine d_one 8 (by kernel_rfl) rfl ?_
     refine o_stw _ he rfl rfl rfl rfl rfl (by simp [RdS.one hwa]) ?_
     refine d_on (fun _ m => m.keeps (.cons _ (.cons _ (.refl _)))) ?_
     refine d_one 9 (by kernel_rfl) rfl ?_
     refine bring1 ?_
     refine o_stw _ he rfl rfl rfl rfl rfl (by simp [RdS.one hwb]) ?_
     refine d_on (fun _ m => m.keeps (.cons _ (.cons _ (.refl _)))) ?_
     refine d_tv 10 rfl rfl (by kernel_rfl) rfl (.cons _ (.cons _ (.refl _))) rfl (v_assign rfl) ?_
     refine d_done (by kernel_rfl) ?_
     refine go 2 ?_
     refine fin3 rfl ⟨_, _, _, rfl, m1, .inr ⟨_, he, rfl, rfl⟩⟩ ⟨_, _, _, rfl, m0, .inr ⟨_, he, rfl, rfl⟩⟩ rfl ?_
     exact q_i ⟨wa, wb, by simp only [h38, bS], hwa, hwb⟩
    ·refine d_t 5 rfl rfl (by kernel_rfl) rfl (fun _ m => m.keeps (.cons _ (.cons _ (.refl _)))) (y_no rfl rfl h38) ?_
     refine d_t 6 rfl rfl (by kernel_rfl) rfl (fun _ m => m.keeps (.cons _ (.cons _ (.refl _)))) (y_no rfl rfl h38) ?_
     refine d_tv 7 rfl rfl (by kernel_rfl) rfl (.cons _ (.cons _ (.refl _))) rfl (v_and_f h38 rfl) ?_
     refine d_one 8 (by kernel_rfl) rfl ?_
     refine o_stw _ he rfl rfl rfl rfl rfl (by simp [RdS.one hwa]) ?_
     refine d_on (fun _ m => m.keeps (.cons _ (.cons _ (.refl _)))) ?_
     refine d_one 9 (by kernel_rfl) rfl ?_
     refine bring1 ?_
     refine o_stw _ he rfl rfl rfl rfl rfl (by simp [RdS.one hwb]) ?_
     refine d_on (fun _ m => m.keeps (.cons _ (.cons _ (.refl _)))) ?_
     refine d_tv 10 rfl rfl (by kernel_rfl) rfl (.cons _ (.cons _ (.refl _))) rfl (v_assign rfl) ?_
     refine d_done (by kernel_rfl) ?_
     refine go 2 ?_
     refine fin3 rfl ⟨_, _, _, rfl, m1, .inr ⟨_, he, rfl, rfl⟩⟩ ⟨_, _, _, rfl, m0, .inr ⟨_, he, rfl, rfl⟩⟩ rfl ?_
     exact q_i ⟨wa, wb, by simp only [h38, bS], hwa, hwb⟩
  ·refine o_alloc he rfl (fun g12 => ?_)
   refine d_on (fun _ m => m.keeps (.cons _ (.cons _ (.refl _)))) ?_
   refine d_one 1 (by kernel_rfl) rfl ?_
   refine o_buildSlice he he rfl rfl rfl rfl rfl rfl rfl (fun v24 => ?_)
   refine d_on (fun _ m => m.keeps (.cons _ (.cons _ (.cons _ (.refl _))))) ?_
   refine d_one 3 (by kernel_rfl) rfl ?_
   refine o_appendR (hv) rfl he he rfl rfl rfl rfl (by omega) (by omega) rfl (fun v26 x26 f26 => ?_)
   refine d_on (fun _ m => m.keeps (.cons _ (.cons _ (.cons _ (.refl _))))) ?_
   refine d_one 6 (by kernel_rfl) rfl ?_
   refine bring2 ?_
   refine bring1 ?_
   refine o_appendO he he rfl rfl rfl rfl rfl (by omega) (by omega) rfl (fun v29 => ?_)
   refine d_on (fun _ m => m.keeps (.cons _ (.cons _ (.cons _ (.refl _))))) ?_
   refine d_one 7 (by kernel_rfl) rfl ?_
   refine sx_pubrow (l := (l ++ [e])) rfl (by simp) ((f26.append (.one rfl))) (fun Ip jp Rp => ?_)
   try have hvc := hvc.le jp
   try have hf := hf.le jp
   try have hv := hv.le jp
   try have hwa := hwa.le jp
   try have hA := hA.le jp
   refine o_call (lifeRun _ vc c hvc hsc f sf hf _ (l ++ [e]) Rp (by simp; omega) (fun x hx => by rcases List.mem_append.1 hx with h | h; exact hse x h; rw [List.mem_singleton.1 h]; exact hee) 40000) rfl rfl (fun v30 I30 j30 q30 => ?_)
   try have hvc := hvc.le j30
   try have hf := hf.le j30
   try have hv := hv.le j30
   try have hwa := hwa.le j30
   try have hA := hA.le j30
   obtain ⟨wb, rfl, hwb⟩ := q30
   refine d_on (fun _ m => m.keepsI (.cons _ (.cons _ (.refl _))) ((jp).trans j30) hE2 hf2) ?_
   refine d_t 8 rfl rfl (by kernel_rfl) rfl (fun _ m => m.keepsI (.cons _ (.cons _ (.refl _))) ((jp).trans j30) hE2 hf2) (y_v rfl (v_move rfl)) ?_
   refine d_t 9 rfl rfl (by kernel_rfl) rfl (fun _ m => m.keepsI (.cons _ (.cons _ (.refl _))) ((jp).trans j30) hE2 hf2) (y_v rfl (v_extract rfl rfl)) ?_
   refine d_t 10 rfl rfl (by kernel_rfl) rfl (fun _ m => m.keepsI (.cons _ (.cons _ (.refl _))) ((jp).trans j30) hE2 hf2) (y_v rfl (v_extract rfl rfl)) ?_
   refine d_t 11 rfl rfl (by kernel_rfl) rfl (fun _ m => m.keepsI (.cons _ (.cons _ (.refl _))) ((jp).trans j30) hE2 hf2) (y_v rfl (v_extract rfl rfl)) ?_
   refine d_one 13 (by kernel_rfl) rfl ?_
   refine bring1 ?_
   refine o_stw _ he rfl rfl rfl rfl rfl (by simp [RdS.one hwb]) ?_
   refine d_on (fun _ m => m.keepsI (.cons _ (.cons _ (.refl _))) ((jp).trans j30) hE2 hf2) ?_
   refine d_t 14 rfl rfl (by kernel_rfl) rfl (fun _ m => m.keepsI (.cons _ (.cons _ (.refl _))) ((jp).trans j30) hE2 hf2) (y_v rfl (v_assign rfl)) ?_
   refine d_t 15 rfl rfl (by kernel_rfl) rfl (fun _ m => m.keepsI (.cons _ (.cons _ (.refl _))) ((jp).trans j30) hE2 hf2) (y_v rfl (v_assign rfl)) ?_
   refine d_done (by kernel_rfl) ?_
   refine go 2 ?_
   refine bring3 ?_
   refine bring4 ?_
   refine d_start2 T.mixed ?_
   refine d_tv 0 rfl rfl (by kernel_rfl) rfl (.cons _ (.cons _ (.refl _))) rfl (v_ldw m2 he rfl rfl) ?_
   refine d_tv 1 rfl rfl (by kernel_rfl) rfl (.cons _ (.cons _ (.refl _))) rfl (v_ldw m0 he rfl rfl) ?_
   refine d_tv 2 rfl rfl (by kernel_rfl) rfl (.cons _ (.cons _ (.refl _))) rfl (v_move rfl) ?_
   refine d_tv 3 rfl rfl (by kernel_rfl) rfl (.cons _ (.cons _ (.refl _))) rfl (v_eql rfl rfl) ?_
   refine d_tv 4 rfl rfl (by kernel_rfl) rfl (.cons _ (.cons _ (.refl _))) rfl (v_move rfl) ?_
   refine sxb 38 rfl (fun h38 p38 => ?_) (fun h38 p38 => ?_)
   ·refine d_t 5 rfl rfl (by kernel_rfl) rfl (fun _ m => m.keeps (.cons _ (.cons _ (.refl _)))) (y_yes rfl rfl h38 (v_move rfl)) ?_
    refine d_t 6 rfl rfl (by kernel_rfl) rfl (fun _ m => m.keeps (.cons _ (.cons _ (.refl _)))) (y_yes rfl rfl h38 (v_eql rfl rfl)) ?_
    refine d_tv 7 rfl rfl (by kernel_rfl) rfl (.cons _ (.cons _ (.refl _))) rfl (v_and_t h38 rfl rfl) ?_
    refine d_one 8 (by kernel_rfl) rfl ?_
    refine o_stw _ he rfl rfl rfl rfl rfl (by simp [RdS.one hwa]) ?_
    refine d_on (fun _ m => m.keeps (.cons _ (.cons _ (.refl _)))) ?_
    refine d_one 9 (by kernel_rfl) rfl ?_
    refine bring1 ?_
    refine o_stw _ he rfl rfl rfl rfl rfl (by simp [RdS.one hwb]) ?_
    refine d_on (fun _ m => m.keeps (.cons _ (.cons _ (.refl _)))) ?_
    refine d_tv 10 rfl rfl (by kernel_rfl) rfl (.cons _ (.cons _ (.refl _))) rfl (v_assign rfl) ?_
    refine d_done (by kernel_rfl) ?_
    refine go 2 ?_
    refine fin3 rfl ⟨_, _, _, rfl, m1, .inr ⟨_, he, rfl, rfl⟩⟩ ⟨_, _, _, rfl, m0, .inr ⟨_, he, rfl, rfl⟩⟩ rfl ?_
    exact q_i ⟨wa, wb, by simp only [h38, bS], hwa, hwb⟩
   ·refine d_t 5 rfl rfl (by kernel_rfl) rfl (fun _ m => m.keeps (.cons _ (.cons _ (.refl _)))) (y_no rfl rfl h38) ?_
    refine d_t 6 rfl rfl (by kernel_rfl) rfl (fun _ m => m.keeps (.cons _ (.cons _ (.refl _)))) (y_no rfl rfl h38) ?_
    refine d_tv 7 rfl rfl (by kernel_rfl) rfl (.cons _ (.cons _ (.refl _))) rfl (v_and_f h38 rfl) ?_
    refine d_one 8 (by kernel_rfl) rfl ?_
    refine o_stw _ he rfl rfl rfl rfl rfl (by simp [RdS.one hwa]) ?_
    refine d_on (fun _ m => m.keeps (.cons _ (.cons _ (.refl _)))) ?_
    refine d_one 9 (by kernel_rfl) rfl ?_
    refine bring1 ?_
    refine o_stw _ he rfl rfl rfl rfl rfl (by simp [RdS.one hwb]) ?_
    refine d_on (fun _ m => m.keeps (.cons _ (.cons _ (.refl _)))) ?_
    refine d_tv 10 rfl rfl (by kernel_rfl) rfl (.cons _ (.cons _ (.refl _))) rfl (v_assign rfl) ?_
    refine d_done (by kernel_rfl) ?_
    refine go 2 ?_
    refine fin3 rfl ⟨_, _, _, rfl, m1, .inr ⟨_, he, rfl, rfl⟩⟩ ⟨_, _, _, rfl, m0, .inr ⟨_, he, rfl, rfl⟩⟩ rfl ?_
    exact q_i ⟨wa, wb, by simp only [h38, bS], hwa, hwb⟩
 ·refine o_alloc he rfl (fun g12 => ?_)
  refine d_on (fun _ m => m.keeps (.cons _ (.refl _))) ?_
  refine d_two 1 5 (by kernel_rfl) rfl rfl ?_ ?_
  ·refine o_buildSlice he he rfl rfl rfl rfl rfl rfl rfl (fun v24 => ?_)
   refine d_on (fun _ m => m.keeps (.cons _ (.cons _ (.refl _)))) ?_
   refine d_two 3 5 (by kernel_rfl) rfl rfl ?_ ?_
   ·refine o_appendR (hv) rfl he he rfl rfl rfl rfl (by omega) (by omega) rfl (fun v26 x26 f26 => ?_)
    refine d_on (fun _ m => m.keeps (.cons _ (.cons _ (.refl _)))) ?_
    refine d_one 5 (by kernel_rfl) rfl ?_
    refine o_buildSlice he he rfl rfl rfl rfl rfl rfl rfl (fun v28 => ?_)
    refine d_on (fun _ m => m.keeps (.cons _ (.cons _ (.cons _ (.refl _))))) ?_
    refine d_one 6 (by kernel_rfl) rfl ?_
    refine bring1 ?_
    refine o_appendO he he rfl rfl rfl rfl rfl (by omega) (by omega) rfl (fun v29 => ?_)
    refine d_on (fun _ m => m.keeps (.cons _ (.cons _ (.cons _ (.refl _))))) ?_
    refine d_one 7 (by kernel_rfl) rfl ?_
    refine sx_pubrow (l := (l ++ [e])) rfl (by simp) ((f26.append (.one rfl))) (fun Ip jp Rp => ?_)
    try have hvc := hvc.le jp
    try have hf := hf.le jp
    try have hv := hv.le jp
    try have hwa := hwa.le jp
    try have hA := hA.le jp
    refine o_call (lifeRun _ vc c hvc hsc f sf hf _ (l ++ [e]) Rp (by simp; omega) (fun x hx => by rcases List.mem_append.1 hx with h | h; exact hse x h; rw [List.mem_singleton.1 h]; exact hee) 40000) rfl rfl (fun v30 I30 j30 q30 => ?_)
    try have hvc := hvc.le j30
    try have hf := hf.le j30
    try have hv := hv.le j30
    try have hwa := hwa.le j30
    try have hA := hA.le j30
    obtain ⟨wb, rfl, hwb⟩ := q30
    refine d_on (fun _ m => m.keepsI (.cons _ (.cons _ (.refl _))) ((jp).trans j30) hE2 hf2) ?_
    refine d_t 8 rfl rfl (by kernel_rfl) rfl (fun _ m => m.keepsI (.cons _ (.cons _ (.refl _))) ((jp).trans j30) hE2 hf2) (y_v rfl (v_move rfl)) ?_
    refine d_t 9 rfl rfl (by kernel_rfl) rfl (fun _ m => m.keepsI (.cons _ (.cons _ (.refl _))) ((jp).trans j30) hE2 hf2) (y_v rfl (v_extract rfl rfl)) ?_
    refine d_t 10 rfl rfl (by kernel_rfl) rfl (fun _ m => m.keepsI (.cons _ (.cons _ (.refl _))) ((jp).trans j30) hE2 hf2) (y_v rfl (v_extract rfl rfl)) ?_
    refine d_t 11 rfl rfl (by kernel_rfl) rfl (fun _ m => m.keepsI (.cons _ (.cons _ (.refl _))) ((jp).trans j30) hE2 hf2) (y_v rfl (v_extract rfl rfl)) ?_
    refine d_one 13 (by kernel_rfl) rfl ?_
    refine bring1 ?_
    refine o_stw _ he rfl rfl rfl rfl rfl (by simp [RdS.one hwb]) ?_
    refine d_on (fun _ m => m.keepsI (.cons _ (.cons _ (.refl _))) ((jp).trans j30) hE2 hf2) ?_
    refine d_t 14 rfl rfl (by kernel_rfl) rfl (fun _ m => m.keepsI (.cons _ (.cons _ (.refl _))) ((jp).trans j30) hE2 hf2) (y_v rfl (v_assign rfl)) ?_
    refine d_t 15 rfl rfl (by kernel_rfl) rfl (fun _ m => m.keepsI (.cons _ (.cons _ (.refl _))) ((jp).trans j30) hE2 hf2) (y_v rfl (v_assign rfl)) ?_
    refine d_done (by kernel_rfl) ?_
    refine go 2 ?_
    refine bring3 ?_
    refine bring4 ?_
    refine d_start2 T.mixed ?_
    refine d_tv 0 rfl rfl (by kernel_rfl) rfl (.cons _ (.cons _ (.refl _))) rfl (v_ldw m2 he rfl rfl) ?_
    refine d_tv 1 rfl rfl (by kernel_rfl) rfl (.cons _ (.cons _ (.refl _))) rfl (v_ldw m0 he rfl rfl) ?_
    refine d_tv 2 rfl rfl (by kernel_rfl) rfl (.cons _ (.cons _ (.refl _))) rfl (v_move rfl) ?_
    refine d_tv 3 rfl rfl (by kernel_rfl) rfl (.cons _ (.cons _ (.refl _))) rfl (v_eql rfl rfl) ?_
    refine d_tv 4 rfl rfl (by kernel_rfl) rfl (.cons _ (.cons _ (.refl _))) rfl (v_move rfl) ?_
    refine sxb 38 rfl (fun h38 p38 => ?_) (fun h38 p38 => ?_)
    ·refine d_t 5 rfl rfl (by kernel_rfl) rfl (fun _ m => m.keeps (.cons _ (.cons _ (.refl _)))) (y_yes rfl rfl h38 (v_move rfl)) ?_
     refine d_t 6 rfl rfl (by kernel_rfl) rfl (fun _ m => m.keeps (.cons _ (.cons _ (.refl _)))) (y_yes rfl rfl h38 (v_eql rfl rfl)) ?_
     refine d_tv 7 rfl rfl (by kernel_rfl) rfl (.cons _ (.cons _ (.refl _))) rfl (v_and_t h38 rfl rfl) ?_
     refine d_one 8 (by kernel_rfl) rfl ?_
     refine o_stw _ he rfl rfl rfl rfl rfl (by simp [RdS.one hwa]) ?_
     refine d_on (fun _ m => m.keeps (.cons _ (.cons _ (.refl _)))) ?_
     refine d_one 9 (by kernel_rfl) rfl ?_
     refine bring1 ?_
     refine o_stw _ he rfl rfl rfl rfl rfl (by simp [RdS.one hwb]) ?_
     refine d_on (fun _ m => m.keeps (.cons _ (.cons _ (.refl _)))) ?_
     refine d_tv 10 rfl rfl (by kernel_rfl) rfl (.cons _ (.cons _ (.refl _))) rfl (v_assign rfl) ?_
     refine d_done (by kernel_rfl) ?_
     refine go 2 ?_
     refine fin3 rfl ⟨_, _, _, rfl, m1, .inr ⟨_, he, rfl, rfl⟩⟩ ⟨_, _, _, rfl, m0, .inr ⟨_, he, rfl, rfl⟩⟩ rfl ?_
     exact q_i ⟨wa, wb, by simp only [h38, bS], hwa, hwb⟩
    ·refine d_t 5 rfl rfl (by kernel_rfl) rfl (fun _ m => m.keeps (.cons _ (.cons _ (.refl _)))) (y_no rfl rfl h38) ?_
     refine d_t 6 rfl rfl (by kernel_rfl) rfl (fun _ m => m.keeps (.cons _ (.cons _ (.refl _)))) (y_no rfl rfl h38) ?_
     refine d_tv 7 rfl rfl (by kernel_rfl) rfl (.cons _ (.cons _ (.refl _))) rfl (v_and_f h38 rfl) ?_
     refine d_one 8 (by kernel_rfl) rfl ?_
     refine o_stw _ he rfl rfl rfl rfl rfl (by simp [RdS.one hwa]) ?_
     refine d_on (fun _ m => m.keeps (.cons _ (.cons _ (.refl _)))) ?_
     refine d_one 9 (by kernel_rfl) rfl ?_
     refine bring1 ?_
     refine o_stw _ he rfl rfl rfl rfl rfl (by simp [RdS.one hwb]) ?_
     refine d_on (fun _ m => m.keeps (.cons _ (.cons _ (.refl _)))) ?_
     refine d_tv 10 rfl rfl (by kernel_rfl) rfl (.cons _ (.cons _ (.refl _))) rfl (v_assign rfl) ?_
     refine d_done (by kernel_rfl) ?_
     refine go 2 ?_
     refine fin3 rfl ⟨_, _, _, rfl, m1, .inr ⟨_, he, rfl, rfl⟩⟩ ⟨_, _, _, rfl, m0, .inr ⟨_, he, rfl, rfl⟩⟩ rfl ?_
     exact q_i ⟨wa, wb, by simp only [h38, bS], hwa, hwb⟩
   ·refine o_buildSlice he he rfl rfl rfl rfl rfl rfl rfl (fun v28 => ?_)
    refine d_on (fun _ m => m.keeps (.cons _ (.cons _ (.cons _ (.refl _))))) ?_
    refine d_one 3 (by kernel_rfl) rfl ?_
    refine bring1 ?_
    refine o_appendR (hv) rfl he he rfl rfl rfl rfl (by omega) (by omega) rfl (fun v26 x26 f26 => ?_)
    refine d_on (fun _ m => m.keeps (.cons _ (.cons _ (.cons _ (.refl _))))) ?_
    refine d_one 6 (by kernel_rfl) rfl ?_
    refine bring1 ?_
    refine bring1 ?_
    refine o_appendO he he rfl rfl rfl rfl rfl (by omega) (by omega) rfl (fun v29 => ?_)
    refine d_on (fun _ m => m.keeps (.cons _ (.cons _ (.cons _ (.refl _))))) ?_
    refine d_one 7 (by kernel_rfl) rfl ?_
    refine sx_pubrow (l := (l ++ [e])) rfl (by simp) ((f26.append (.one rfl))) (fun Ip jp Rp => ?_)
    try have hvc := hvc.le jp
    try have hf := hf.le jp
    try have hv := hv.le jp
    try have hwa := hwa.le jp
    try have hA := hA.le jp
    refine o_call (lifeRun _ vc c hvc hsc f sf hf _ (l ++ [e]) Rp (by simp; omega) (fun x hx => by rcases List.mem_append.1 hx with h | h; exact hse x h; rw [List.mem_singleton.1 h]; exact hee) 40000) rfl rfl (fun v30 I30 j30 q30 => ?_)
    try have hvc := hvc.le j30
    try have hf := hf.le j30
    try have hv := hv.le j30
    try have hwa := hwa.le j30
    try have hA := hA.le j30
    obtain ⟨wb, rfl, hwb⟩ := q30
    refine d_on (fun _ m => m.keepsI (.cons _ (.cons _ (.refl _))) ((jp).trans j30) hE2 hf2) ?_
    refine d_t 8 rfl rfl (by kernel_rfl) rfl (fun _ m => m.keepsI (.cons _ (.cons _ (.refl _))) ((jp).trans j30) hE2 hf2) (y_v rfl (v_move rfl)) ?_
    refine d_t 9 rfl rfl (by kernel_rfl) rfl (fun _ m => m.keepsI (.cons _ (.cons _ (.refl _))) ((jp).trans j30) hE2 hf2) (y_v rfl (v_extract rfl rfl)) ?_
    refine d_t 10 rfl rfl (by kernel_rfl) rfl (fun _ m => m.keepsI (.cons _ (.cons _ (.refl _))) ((jp).trans j30) hE2 hf2) (y_v rfl (v_extract rfl rfl)) ?_
    refine d_t 11 rfl rfl (by kernel_rfl) rfl (fun _ m => m.keepsI (.cons _ (.cons _ (.refl _))) ((jp).trans j30) hE2 hf2) (y_v rfl (v_extract rfl rfl)) ?_
    refine d_one 13 (by kernel_rfl) rfl ?_
    refine bring1 ?_
    refine o_stw _ he rfl rfl rfl rfl rfl (by simp [RdS.one hwb]) ?_
    refine d_on (fun _ m => m.keepsI (.cons _ (.cons _ (.refl _))) ((jp).trans j30) hE2 hf2) ?_
    refine d_t 14 rfl rfl (by kernel_rfl) rfl (fun _ m => m.keepsI (.cons _ (.cons _ (.refl _))) ((jp).trans j30) hE2 hf2) (y_v rfl (v_assign rfl)) ?_
    refine d_t 15 rfl rfl (by kernel_rfl) rfl (fun _ m => m.keepsI (.cons _ (.cons _ (.refl _))) ((jp).trans j30) hE2 hf2) (y_v rfl (v_assign rfl)) ?_
    refine d_done (by kernel_rfl) ?_
    refine go 2 ?_
    refine bring3 ?_
    refine bring4 ?_
    refine d_start2 T.mixed ?_
    refine d_tv 0 rfl rfl (by kernel_rfl) rfl (.cons _ (.cons _ (.refl _))) rfl (v_ldw m2 he rfl rfl) ?_
    refine d_tv 1 rfl rfl (by kernel_rfl) rfl (.cons _ (.cons _ (.refl _))) rfl (v_ldw m0 he rfl rfl) ?_
    refine d_tv 2 rfl rfl (by kernel_rfl) rfl (.cons _ (.cons _ (.refl _))) rfl (v_move rfl) ?_
    refine d_tv 3 rfl rfl (by kernel_rfl) rfl (.cons _ (.cons _ (.refl _))) rfl (v_eql rfl rfl) ?_
    refine d_tv 4 rfl rfl (by kernel_rfl) rfl (.cons _ (.cons _ (.refl _))) rfl (v_move rfl) ?_
    refine sxb 38 rfl (fun h38 p38 => ?_) (fun h38 p38 => ?_)
    ·refine d_t 5 rfl rfl (by kernel_rfl) rfl (fun _ m => m.keeps (.cons _ (.cons _ (.refl _)))) (y_yes rfl rfl h38 (v_move rfl)) ?_
     refine d_t 6 rfl rfl (by kernel_rfl) rfl (fun _ m => m.keeps (.cons _ (.cons _ (.refl _)))) (y_yes rfl rfl h38 (v_eql rfl rfl)) ?_
     refine d_tv 7 rfl rfl (by kernel_rfl) rfl (.cons _ (.cons _ (.refl _))) rfl (v_and_t h38 rfl rfl) ?_
     refine d_one 8 (by kernel_rfl) rfl ?_
     refine o_stw _ he rfl rfl rfl rfl rfl (by simp [RdS.one hwa]) ?_
     refine d_on (fun _ m => m.keeps (.cons _ (.cons _ (.refl _)))) ?_
     refine d_one 9 (by kernel_rfl) rfl ?_
     refine bring1 ?_
     refine o_stw _ he rfl rfl rfl rfl rfl (by simp [RdS.one hwb]) ?_
     refine d_on (fun _ m => m.keeps (.cons _ (.cons _ (.refl _)))) ?_
     refine d_tv 10 rfl rfl (by kernel_rfl) rfl (.cons _ (.cons _ (.refl _))) rfl (v_assign rfl) ?_
     refine d_done (by kernel_rfl) ?_
     refine go 2 ?_
     refine fin3 rfl ⟨_, _, _, rfl, m1, .inr ⟨_, he, rfl, rfl⟩⟩ ⟨_, _, _, rfl, m0, .inr ⟨_, he, rfl, rfl⟩⟩ rfl ?_
     exact q_i ⟨wa, wb, by simp only [h38, bS], hwa, hwb⟩
    ·refine d_t 5 rfl rfl (by kernel_rfl) rfl (fun _ m => m.keeps (.cons _ (.cons _ (.refl _)))) (y_no rfl rfl h38) ?_
     refine d_t 6 rfl rfl (by kernel_rfl) rfl (fun _ m => m.keeps (.cons _ (.cons _ (.refl _)))) (y_no rfl rfl h38) ?_
     refine d_tv 7 rfl rfl (by kernel_rfl) rfl (.cons _ (.cons _ (.refl _))) rfl (v_and_f h38 rfl) ?_
     refine d_one 8 (by kernel_rfl) rfl ?_
     refine o_stw _ he rfl rfl rfl rfl rfl (by simp [RdS.one hwa]) ?_
     refine d_on (fun _ m => m.keeps (.cons _ (.cons _ (.refl _)))) ?_
     refine d_one 9 (by kernel_rfl) rfl ?_
     refine bring1 ?_
     refine o_stw _ he rfl rfl rfl rfl rfl (by simp [RdS.one hwb]) ?_
     refine d_on (fun _ m => m.keeps (.cons _ (.cons _ (.refl _)))) ?_
     refine d_tv 10 rfl rfl (by kernel_rfl) rfl (.cons _ (.cons _ (.refl _))) rfl (v_assign rfl) ?_
     refine d_done (by kernel_rfl) ?_
     refine go 2 ?_
     refine fin3 rfl ⟨_, _, _, rfl, m1, .inr ⟨_, he, rfl, rfl⟩⟩ ⟨_, _, _, rfl, m0, .inr ⟨_, he, rfl, rfl⟩⟩ rfl ?_
     exact q_i ⟨wa, wb, by simp only [h38, bS], hwa, hwb⟩
  ·refine o_buildSlice he he rfl rfl rfl rfl rfl rfl rfl (fun v28 => ?_)
   refine d_on (fun _ m => m.keeps (.cons _ (.cons _ (.refl _)))) ?_
   refine d_one 1 (by kernel_rfl) rfl ?_
   refine o_buildSlice he he rfl rfl rfl rfl rfl rfl rfl (fun v24 => ?_)
   refine d_on (fun _ m => m.keeps (.cons _ (.cons _ (.cons _ (.refl _))))) ?_
   refine d_one 3 (by kernel_rfl) rfl ?_
   refine o_appendR (hv) rfl he he rfl rfl rfl rfl (by omega) (by omega) rfl (fun v26 x26 f26 => ?_)
   refine d_on (fun _ m => m.keeps (.cons _ (.cons _ (.cons _ (.refl _))))) ?_
   refine d_one 6 (by kernel_rfl) rfl ?_
   refine bring1 ?_
   refine bring1 ?_
   refine o_appendO he he rfl rfl rfl rfl rfl (by omega) (by omega) rfl (fun v29 => ?_)
   refine d_on (fun _ m => m.keeps (.cons _ (.cons _ (.cons _ (.refl _))))) ?_
   refine d_one 7 (by kernel_rfl) rfl ?_
   refine sx_pubrow (l := (l ++ [e])) rfl (by simp) ((f26.append (.one rfl))) (fun Ip jp Rp => ?_)
   try have hvc := hvc.le jp
   try have hf := hf.le jp
   try have hv := hv.le jp
   try have hwa := hwa.le jp
   try have hA := hA.le jp
   refine o_call (lifeRun _ vc c hvc hsc f sf hf _ (l ++ [e]) Rp (by simp; omega) (fun x hx => by rcases List.mem_append.1 hx with h | h; exact hse x h; rw [List.mem_singleton.1 h]; exact hee) 40000) rfl rfl (fun v30 I30 j30 q30 => ?_)
   try have hvc := hvc.le j30
   try have hf := hf.le j30
   try have hv := hv.le j30
   try have hwa := hwa.le j30
   try have hA := hA.le j30
   obtain ⟨wb, rfl, hwb⟩ := q30
   refine d_on (fun _ m => m.keepsI (.cons _ (.cons _ (.refl _))) ((jp).trans j30) hE2 hf2) ?_
   refine d_t 8 rfl rfl (by kernel_rfl) rfl (fun _ m => m.keepsI (.cons _ (.cons _ (.refl _))) ((jp).trans j30) hE2 hf2) (y_v rfl (v_move rfl)) ?_
   refine d_t 9 rfl rfl (by kernel_rfl) rfl (fun _ m => m.keepsI (.cons _ (.cons _ (.refl _))) ((jp).trans j30) hE2 hf2) (y_v rfl (v_extract rfl rfl)) ?_
   refine d_t 10 rfl rfl (by kernel_rfl) rfl (fun _ m => m.keepsI (.cons _ (.cons _ (.refl _))) ((jp).trans j30) hE2 hf2) (y_v rfl (v_extract rfl rfl)) ?_
   refine d_t 11 rfl rfl (by kernel_rfl) rfl (fun _ m => m.keepsI (.cons _ (.cons _ (.refl _))) ((jp).trans j30) hE2 hf2) (y_v rfl (v_extract rfl rfl)) ?_
   refine d_one 13 (by kernel_rfl) rfl ?_
   refine bring1 ?_
   refine o_stw _ he rfl rfl rfl rfl rfl (by simp [RdS.one hwb]) ?_
   refine d_on (fun _ m => m.keepsI (.cons _ (.cons _ (.refl _))) ((jp).trans j30) hE2 hf2) ?_
   refine d_t 14 rfl rfl (by kernel_rfl) rfl (fun _ m => m.keepsI (.cons _ (.cons _ (.refl _))) ((jp).trans j30) hE2 hf2) (y_v rfl (v_assign rfl)) ?_
   refine d_t 15 rfl rfl (by kernel_rfl) rfl (fun _ m => m.keepsI (.cons _ (.cons _ (.refl _))) ((jp).trans j30) hE2 hf2) (y_v rfl (v_assign rfl)) ?_
   refine d_done (by kernel_rfl) ?_
   refine go 2 ?_
   refine bring3 ?_
   refine bring4 ?_
   refine d_start2 T.mixed ?_
   refine d_tv 0 rfl rfl (by kernel_rfl) rfl (.cons _ (.cons _ (.refl _))) rfl (v_ldw m2 he rfl rfl) ?_
   refine d_tv 1 rfl rfl (by kernel_rfl) rfl (.cons _ (.cons _ (.refl _))) rfl (v_ldw m0 he rfl rfl) ?_
   refine d_tv 2 rfl rfl (by kernel_rfl) rfl (.cons _ (.cons _ (.refl _))) rfl (v_move rfl) ?_
   refine d_tv 3 rfl rfl (by kernel_rfl) rfl (.cons _ (.cons _ (.refl _))) rfl (v_eql rfl rfl) ?_
   refine d_tv 4 rfl rfl (by kernel_rfl) rfl (.cons _ (.cons _ (.refl _))) rfl (v_move rfl) ?_
   refine sxb 38 rfl (fun h38 p38 => ?_) (fun h38 p38 => ?_)
   ·refine d_t 5 rfl rfl (by kernel_rfl) rfl (fun _ m => m.keeps (.cons _ (.cons _ (.refl _)))) (y_yes rfl rfl h38 (v_move rfl)) ?_
    refine d_t 6 rfl rfl (by kernel_rfl) rfl (fun _ m => m.keeps (.cons _ (.cons _ (.refl _)))) (y_yes rfl rfl h38 (v_eql rfl rfl)) ?_
    refine d_tv 7 rfl rfl (by kernel_rfl) rfl (.cons _ (.cons _ (.refl _))) rfl (v_and_t h38 rfl rfl) ?_
    refine d_one 8 (by kernel_rfl) rfl ?_
    refine o_stw _ he rfl rfl rfl rfl rfl (by simp [RdS.one hwa]) ?_
    refine d_on (fun _ m => m.keeps (.cons _ (.cons _ (.refl _)))) ?_
    refine d_one 9 (by kernel_rfl) rfl ?_
    refine bring1 ?_
    refine o_stw _ he rfl rfl rfl rfl rfl (by simp [RdS.one hwb]) ?_
    refine d_on (fun _ m => m.keeps (.cons _ (.cons _ (.refl _)))) ?_
    refine d_tv 10 rfl rfl (by kernel_rfl) rfl (.cons _ (.cons _ (.refl _))) rfl (v_assign rfl) ?_
    refine d_done (by kernel_rfl) ?_
    refine go 2 ?_
    refine fin3 rfl ⟨_, _, _, rfl, m1, .inr ⟨_, he, rfl, rfl⟩⟩ ⟨_, _, _, rfl, m0, .inr ⟨_, he, rfl, rfl⟩⟩ rfl ?_
    exact q_i ⟨wa, wb, by simp only [h38, bS], hwa, hwb⟩
   ·refine d_t 5 rfl rfl (by kernel_rfl) rfl (fun _ m => m.keeps (.cons _ (.cons _ (.refl _)))) (y_no rfl rfl h38) ?_
    refine d_t 6 rfl rfl (by kernel_rfl) rfl (fun _ m => m.keeps (.cons _ (.cons _ (.refl _)))) (y_no rfl rfl h38) ?_
    refine d_tv 7 rfl rfl (by kernel_rfl) rfl (.cons _ (.cons _ (.refl _))) rfl (v_and_f h38 rfl) ?_
    refine d_one 8 (by kernel_rfl) rfl ?_
    refine o_stw _ he rfl rfl rfl rfl rfl (by simp [RdS.one hwa]) ?_
    refine d_on (fun _ m => m.keeps (.cons _ (.cons _ (.refl _)))) ?_
    refine d_one 9 (by kernel_rfl) rfl ?_
    refine bring1 ?_
    refine o_stw _ he rfl rfl rfl rfl rfl (by simp [RdS.one hwb]) ?_
    refine d_on (fun _ m => m.keeps (.cons _ (.cons _ (.refl _)))) ?_
    refine d_tv 10 rfl rfl (by kernel_rfl) rfl (.cons _ (.cons _ (.refl _))) rfl (v_assign rfl) ?_
    refine d_done (by kernel_rfl) ?_
    refine go 2 ?_
    refine fin3 rfl ⟨_, _, _, rfl, m1, .inr ⟨_, he, rfl, rfl⟩⟩ ⟨_, _, _, rfl, m0, .inr ⟨_, he, rfl, rfl⟩⟩ rfl ?_
    exact q_i ⟨wa, wb, by simp only [h38, bS], hwa, hwb⟩

theorem law12inside (I : IMap) (v : Value) (l : List Part) (hv : RdS I v l) (hN : fitN l ≤ 12) (s n : ByteArray) :
    FnE Tryz.prog 13 #[.agg #[v], .string s, .string n] I (fun u => ∃ b, u = .bool b ∧ (b = true ↔ InsP l s n ∨ n = s)) := by
 refine enter Tryz.func13 Tryz.call13 rfl Tryz.ntmps13 rfl (fun w0 => ?_)
 refine go 3 ?_
 refine o_box _ rfl rfl rfl (fun g3 => ?_)
 refine go 8 ?_
 refine o_callX0 (flInside _ v l hv s hN) rfl rfl (fun v11 s11 q11 => ?_)
 obtain ⟨ns, rfl, hns, hnl⟩ := q11
 refine sx_pubrow (l := ns) rfl rfl ((str_flat _ ns).flat) (fun Ip jp Rp => ?_)
 have Rps := Rp
 obtain ⟨A11, c11, rfl, hA11, _, _⟩ := Rps
 refine go 10 ?_
 refine sx_drop ?_
 refine c_loop (α := Nat) 0 (fun i => Ip)
  (fun i => [(1, .string s), (2, .string n), (7, .slice A11 ns.length c11), (8, .int .i64 ((i : Nat) : Int))])
  (fun i => [])
  (fun i => i ≤ ns.length ∧ ¬ n ∈ ns.take i)
  (fun i => ns.length - i) ⟨Nat.zero_le _, by simp⟩ rfl sb rfl ?_
 intro i ⟨hi, hn⟩
 refine go 9 ?_
 refine cb rfl (fun h15 p15 => ?_) (fun h15 p15 => ?_)
 ·have hlt : i < ns.length := by omega
  refine go 8 ?_
  obtain ⟨b20, o20, w20, e20, c20, r20⟩ := RdA.at_ hA11 (i := i) (by omega)
  obtain rfl := r20
  refine o_v rfl (v_idx he rfl rfl e20 (i) (by omega) (by omega)) ?_
  refine o_v rfl (v_ldI he rfl (c20 0 _ rfl)) ?_
  refine go 4 ?_
  refine cb rfl (fun h23 p23 => ?_) (fun h23 p23 => ?_)
  ·refine go 11 ?_
   refine fin1 rfl rfl ?_
   exact q_e ⟨true, rfl, fun _ => .inl ((hns n).1 (p23 ▸ List.getElem_mem hlt)), fun _ => rfl⟩
  ·refine go 9 ?_
   exact q_next (i + 1) ⟨by omega, by rw [← take_succ_of hlt]; simp only [List.mem_append, List.mem_singleton, not_or]; exact ⟨hn, fun e => p23 e.symm⟩⟩ (by omega) rfl sb rfl
 ·refine go 14 ?_
  refine fin1 rfl rfl ?_
  have e : i = ns.length := (by omega)
  subst e
  rw [List.take_length] at hn
  exact q_e ⟨_, rfl, fun h => .inr (of_decide_eq_true h), fun h => decide_eq_true (h.resolve_left (fun h1 => hn ((hns n).2 h1)))⟩

end Go.Proofs.YthcefohbbfjjfaaGreat

/- How reports and bytes that come in are read. -/
set_option linter.all false
namespace Go.Sx
open Go
section
variable {P : Program} {t : TypeId}
theorem u16_nat {n : Int} (h : (Lit.int .u16 n).wf = true) : ∃ a : Nat, n = (a : Int) ∧ a < 65536 := by
  have h2 : 0 ≤ n ∧ n ≤ 65535 := by
    simp only [Lit.wf, Bool.and_eq_true, decide_eq_true_eq] at h
    simpa [IntKind.min, IntKind.max, IntKind.signed, IntKind.bits] using h
  exact ⟨n.toNat, by omega, by omega⟩
end
end Go.Sx

/- The laws of lives, in plain Lean: later lives, other lives, values. -/
set_option linter.all false
namespace Go.Sx
open Go
def leastL (a b : Life) : Bool := (leastI a.km b.km && leastI a.cycles b.cycles) && leastI a.damage b.damage
theorem leastI_refl (a : Ivl) : leastI a a = true := by simp [leastI]
theorem leastI_trans {a b c : Ivl} (h : leastI a b = true) (h' : leastI b c = true) : leastI a c = true := by
  simp only [leastI, Bool.and_eq_true, decide_eq_true_eq] at *; omega
theorem leastL_refl (a : Life) : leastL a a = true := by simp [leastL, leastI_refl]
theorem leastL_trans {a b c : Life} (h : leastL a b = true) (h' : leastL b c = true) : leastL a c = true := by
  simp only [leastL, Bool.and_eq_true] at *
  exact ⟨⟨leastI_trans h.1.1 h'.1.1, leastI_trans h.1.2 h'.1.2⟩, leastI_trans h.2 h'.2⟩
section
variable {c : List Kind} {f : Fm} {st : List Part} {l : List Evt} {p : Part} {e : Evt} {d : Ivl}
/-- what an event makes of a part -/
theorem apply_keeps (h : (applyF c st e).2 = 0) (hp : p ∈ st) : ∃ q ∈ (applyF c st e).1, q.name = p.name ∧ ((e.op = 5 ∧ e.part = p.name) ∨ q.life = p.life) := by
  have hi := (apply_inc h).1
  by_cases h4 : e.op = 4
  · rw [apply_run h h4]; exact ⟨p, hp, rfl, .inr rfl⟩
  have hself : findP st p.name = some p := find_inc (nm := Part.name) hi hp
  have key : ∀ r : Part, (r.name = p.name → (e.op = 5 ∧ e.part = p.name) ∨ r.life = p.life) → ∃ q ∈ (putR st r).1, q.name = p.name ∧ ((e.op = 5 ∧ e.part = p.name) ∨ q.life = p.life) := fun r hr => by
    by_cases hn : r.name = p.name
    · exact ⟨r, (put_mem hi).2 (.inl rfl), hn, hr hn⟩
    · exact ⟨p, (put_mem hi).2 (.inr ⟨hp, fun e => hn e.symm⟩), rfl, .inr rfl⟩
  unfold applyF at h ⊢
  split at h
  · cases h
  rename_i hv
  rw [if_neg hv]
  split at h
  · rename_i h1
    rw [if_pos h1]
    unfold applyMake at h ⊢
    split at h
    · cases h
    rename_i h2
    rw [if_neg h2]
    split at h
    · cases h
    rename_i h3
    rw [if_neg h3]
    split at h
    · cases h
    rename_i h5
    rw [if_neg h5]
    refine key (newP e) fun hn => ?_
    have hn : e.part = p.name := hn
    rw [hn, hself] at h2
    exact absurd rfl h2
  · rename_i h1
    rw [if_neg h1]
    unfold applyRest at h ⊢
    split at h
    · cases h
    rename_i h2
    rw [if_neg h2]
    have hsome : (findP st e.part).isSome = true := (both_some h2).1
    obtain ⟨p0, hp0⟩ := Option.isSome_iff_exists.1 hsome
    have hP : partP st e = p0 := by unfold partP; rw [hp0]; rfl
    have hn0 : p0.name = e.part := by simpa using List.find?_some hp0
    have key0 : ∀ r : Part, r.name = p0.name → (e.op = 5 ∨ r.life = p0.life) → ∃ q ∈ (putR st r).1, q.name = p.name ∧ ((e.op = 5 ∧ e.part = p.name) ∨ q.life = p.life) := fun r hr hl => key r fun hn => by
      have hpp : p0 = p := by
        have : findP st p.name = some p0 := by rw [← hn, hr, hn0]; exact hp0
        rw [hself] at this; exact (Option.some.inj this).symm
      rcases hl with hl | hl
      · exact .inl ⟨hl, by rw [← hn, hr, hn0]⟩
      · exact .inr (by rw [hl, hpp])
    rw [hP] at h ⊢
    split at h
    · cases h
    rename_i h3
    rw [if_neg h3]
    unfold applyOp at h ⊢
    split at h
    · rename_i h5
      rw [if_pos h5]
      unfold applyFit at h ⊢
      split at h
      · cases h
      rename_i h6
      rw [if_neg h6]
      split at h
      · cases h
      rename_i h7
      rw [if_neg h7]
      split at h
      · cases h
      rename_i h8
      rw [if_neg h8]
      exact key0 _ rfl (.inr rfl)
    rename_i h5
    rw [if_neg h5]
    split at h
    · rename_i h6
      rw [if_pos h6]
      unfold applyRemove at h ⊢
      split at h
      · cases h
      rename_i h7
      rw [if_neg h7]
      exact key0 _ rfl (.inr rfl)
    rename_i h6
    rw [if_neg h6, if_neg h4]
    split at h
    · rename_i h7
      rw [if_pos h7]
      exact key0 _ rfl (.inl h7)
    rename_i h7
    rw [if_neg h7]
    split at h
    · rename_i h8
      rw [if_pos h8]
      unfold applyNote at h ⊢
      split at h
      · cases h
      rename_i h9
      rw [if_neg h9]
      exact key0 _ rfl (.inr rfl)
    rename_i h8
    rw [if_neg h8]
    split at h
    · rename_i h9
      rw [if_pos h9]
      unfold applyScrap at h ⊢
      split at h
      · cases h
      rename_i h10
      rw [if_neg h10]
      exact key0 _ rfl (.inr rfl)
    · rename_i h9
      rw [if_neg h9]
      exact key0 _ rfl (.inr rfl)
theorem least_add {i u : Ivl} (hi : lifeOk i = true) (hu : ivOk u = true) (h0 : 0 ≤ u.low) : leastI i (addI i u) = true := by
  have h1 := lifeOk_iff.1 hi
  have h2 := addI_least (a := i) (ivOk_iff.2 (by omega)) hu h0
  simp [leastI, h2]
theorem step_least (hinv : LfInv st) (h : (applyF c st e).2 = 0) (hp : p ∈ st) : ∃ q ∈ (applyL f c st e).1, q.name = p.name ∧ ((e.op = 5 ∧ e.part = p.name) ∨ leastL p.life q.life = true) := by
  obtain ⟨q, hq, hn, hl⟩ := apply_keeps h hp
  unfold applyL
  split
  · rename_i hc
    have hu := run_use (apply_valid hc.1) hc.2
    have hqi := hinv.apply (c := c) e q hq
    have hl' : q.life = p.life := by
      rcases hl with hl | hl
      · omega
      · exact hl
    by_cases hx : q.name = e.part ∨ InsP (applyF c st e).1 e.part q.name
    · refine ⟨addLife (damF f e.use) e.use q, ?_, hn, .inr ?_⟩
      · unfold useL
        refine List.mem_map.2 ⟨q, hq, ?_⟩
        rw [if_pos hx]
      · rw [← hl']
        simp only [leastL, addLife, Bool.and_eq_true]
        exact ⟨⟨least_add hqi.1.1 hu.1.1 hu.1.2, least_add hqi.1.2 hu.2.1.1 hu.2.1.2⟩, least_add hqi.2 damF_ok.1 damF_ok.2⟩
    · refine ⟨q, ?_, hn, .inr (by rw [hl']; exact leastL_refl _)⟩
      unfold useL
      refine List.mem_map.2 ⟨q, hq, ?_⟩
      rw [if_neg hx]
  · exact ⟨q, hq, hn, hl.imp id fun h => by rw [h]; exact leastL_refl _⟩
theorem go_least : ∀ (l : List Evt) (st : List Part) (i : Int), LfInv st → (runLGo f c st i l).2.2 = 0 → ∀ p ∈ st, ∃ q ∈ (runLGo f c st i l).1, q.name = p.name ∧ ((∃ e ∈ l, e.op = 5 ∧ e.part = p.name) ∨ leastL p.life q.life = true)
  | [], st, i, _, _, p, hp => ⟨p, hp, rfl, .inr (leastL_refl _)⟩
  | e :: r, st, i, hinv, h, p, hp => by
    simp only [runLGo] at h ⊢
    split at h
    · rename_i h0
      rw [if_pos h0]
      rw [applyL_code] at h0
      obtain ⟨q, hq, hn, hl⟩ := step_least (f := f) hinv h0 hp
      obtain ⟨q2, hq2, hn2, hl2⟩ := go_least r _ _ hinv.step h q hq
      refine ⟨q2, hq2, hn2.trans hn, ?_⟩
      rcases hl with hl | hl
      · exact .inl ⟨e, List.mem_cons_self .., hl⟩
      · rcases hl2 with ⟨x, hx, hx1, hx2⟩ | hl2
        · exact .inl ⟨x, List.mem_cons_of_mem _ hx, hx1, hx2.trans hn⟩
        · exact .inr (leastL_trans hl hl2)
    · rename_i h0; exact absurd h h0
/-- names stay in order -/
theorem apply_inc' (hi : Inc Part.name st) : Inc Part.name (applyF c st e).1 := by
  have hf : ∀ n, Inc Part.name (failR n).1 := fun n => List.Pairwise.nil
  have hput : ∀ q : Part, Inc Part.name (putR st q).1 := fun q => put_inc q hi
  unfold applyF
  split
  · exact hf _
  split
  · unfold applyMake
    split
    · exact hf _
    split
    · exact hf _
    split
    · exact hf _
    · exact hput _
  · unfold applyRest
    split
    · exact hf _
    split
    · exact hf _
    · unfold applyOp applyFit applyRemove applyRun applyNote applyScrap
      repeat' split
      all_goals first
        | exact hf _
        | exact hput _
theorem use_inc (hi : Inc Part.name st) : Inc Part.name (useL st e d) := by
  unfold useL Inc
  rw [List.pairwise_map]
  refine List.Pairwise.imp (fun {a b} h => ?_) hi
  split <;> split <;> exact h
theorem step_inc (hi : Inc Part.name st) : Inc Part.name (applyL f c st e).1 := by
  unfold applyL
  split
  · exact use_inc (apply_inc' hi)
  · exact apply_inc' hi
theorem go_inc : ∀ (l : List Evt) (st : List Part) (i : Int), Inc Part.name st → Inc Part.name (runLGo f c st i l).1
  | [], st, i, h => h
  | e :: r, st, i, h => by
    simp only [runLGo]
    split
    · exact go_inc r _ _ (step_inc h)
    · exact List.Pairwise.nil
theorem runL_inc {day : Int} : Inc Part.name (runL f c l day).1 := by
  unfold runL
  split
  · exact List.Pairwise.nil
  · exact go_inc _ _ _ List.Pairwise.nil
/-- LifeLater -/
theorem life_later {a b : Int} (hab : a ≤ b) (h : (runL f c l b).2.2 = 0) : (runL f c l a).2.2 = 0 ∧ ∀ p ∈ (runL f c l a).1, ∃ q, findP (runL f c l b).1 p.name = some q ∧
    ((∃ e ∈ l, (e.op = 5 ∧ e.part = p.name) ∧ e.day > a ∧ e.day ≤ b) ∨ leastL p.life q.life = true) := by
  have hinc := runL_inc (f := f) (c := c) (l := l) (day := b)
  unfold runL at h ⊢
  split at h
  · cases h
  · rename_i hv
    rw [if_neg hv, if_neg hv]
    unfold runL at hinc
    rw [if_neg hv] at hinc
    have hs : sortF (l.filter fun e => !decide (e.day > b)) = sortF (l.filter fun e => !decide (e.day > a)) ++ sortF (laD (upD l b) a) := by
      have h1 := sort_day (upD l b) a
      rw [up_up l hab] at h1
      exact h1
    rw [hs] at h hinc ⊢
    by_cases h0 : (runLGo f c [] 0 (sortF (l.filter fun e => !decide (e.day > a)))).2.2 = 0
    · refine ⟨h0, fun p hp => ?_⟩
      rw [goL_app_ok _ _ _ _ h0] at h hinc ⊢
      obtain ⟨q, hq, hn, hl⟩ := go_least _ _ _ (runGo_inv _ _ _ LfInv.nil) h p hp
      refine ⟨q, ?_, hl.imp (fun ⟨e, he, h1⟩ => ?_) id⟩
      · rw [← hn]; exact find_inc (nm := Part.name) hinc hq
      · have h2 := sortF_mem.1 he
        unfold laD upD at h2
        obtain ⟨h3, h4⟩ := List.mem_filter.1 h2
        obtain ⟨h5, h6⟩ := List.mem_filter.1 h3
        refine ⟨e, h5, h1, by simpa using h4, by simpa using h6⟩
    · rw [goL_app_err _ _ _ _ h0] at h; exact absurd h h0
/-- LifeOthers: one more event that is no run -/
theorem life_others (h4 : e.op ≠ 4) (hd : e.day = 40000) (ha : (runL f c l 40000).2.2 = 0) (hb : (runL f c (l ++ [e]) 40000).2.2 = 0) :
    (runL f c l 40000).1.length ≤ (runL f c (l ++ [e]) 40000).1.length ∧ ∀ q ∈ (runL f c (l ++ [e]) 40000).1,
    q.life = if (findP (runL f c l 40000).1 q.name).isSome = false ∨ (e.op = 5 ∧ e.part = q.name) then zLife else ((findP (runL f c l 40000).1 q.name).getD zPart).life := by
  have hl : ∀ x ∈ l.filter (fun x => !decide (x.day > 40000)), x.day ≤ e.day := fun x hx => by
    have h := (List.mem_filter.1 hx).2
    have : ¬ x.day > 40000 := by simpa using h
    omega
  rw [runL_snoc (by omega) hl ha] at hb ⊢
  simp only [runLGo] at hb ⊢
  split at hb
  · rename_i h0
    rw [if_pos h0]
    rw [applyL_code] at h0
    have h1 := apply_life h0 h4
    have e1 : applyL f c (runL f c l 40000).1 e = applyF c (runL f c l 40000).1 e := by unfold applyL; rw [if_neg (fun hc => h4 hc.2)]
    rw [e1]
    exact h1
  · rename_i h0
    exact absurd hb h0
theorem useL_at {i : Nat} (hi : i < st.length) : ((useL st e d)[i]'(by rw [use_len]; exact hi)).props = st[i].props ∧ ((InsP st e.part st[i].name ∨ st[i].name = e.part) → (useL st e d)[i]'(by rw [use_len]; exact hi) = addLife d e.use st[i]) ∧
    (¬ (InsP st e.part st[i].name ∨ st[i].name = e.part) → (useL st e d)[i]'(by rw [use_len]; exact hi) = st[i]) := by
  simp only [useL, List.getElem_map]
  refine ⟨by split <;> rfl, fun h => ?_, fun h => ?_⟩
  · rw [if_pos h.symm]
  · rw [if_neg (fun hc => h hc.symm)]
end
theorem others_w {st : List Part} {n : ByteArray} {e : Evt} : (if (!(findP st n).isSome || (decide (e.op = 5) && decide (e.part = ((findP st n).getD zPart).name))) = true then zLife else ((findP st n).getD zPart).life) = if (findP st n).isSome = false ∨ (e.op = 5 ∧ e.part = n) then zLife else ((findP st n).getD zPart).life := by
  cases hf : findP st n with
  | none => simp
  | some p =>
    have hn : p.name = n := by simpa using List.find?_some hf
    simp [hn]
/-- an overhaul of a part between two days -/
def frP (s : ByteArray) (a b : Int) (e : Evt) : Bool := ((decide (e.op = 5) && decide (e.part = s)) && decide (e.day > a)) && decide (e.day ≤ b)
def frTo (l : List Evt) (s : ByteArray) (a b : Int) (k : Nat) : Bool := (l.take k).any (frP s a b)
theorem fr_step {l : List Evt} {s : ByteArray} {a b : Int} {k : Nat} (h : k < l.length) : frTo l s a b (k + 1) = (frTo l s a b k || frP s a b l[k]) := by
  unfold frTo; rw [← take_succ_of h, List.any_append]; simp
theorem fr_all {l : List Evt} {s : ByteArray} {a b : Int} (h : frTo l s a b l.length = false) : ¬ ∃ e ∈ l, (e.op = 5 ∧ e.part = s) ∧ e.day > a ∧ e.day ≤ b := by
  unfold frTo at h
  rw [List.take_length, List.any_eq_false] at h
  rintro ⟨e, hm, ⟨h1, h2⟩, h3, h4⟩
  exact h e hm (by simp [frP, h1, h2, h3, h4])
/-! values -/
section
variable {p : Part} {s : ByteArray} {d : Int}
theorem cur_mem {i : Nat} (h : i < curL.length) : isCur curL[i] = true := decide_eq_true (List.getElem_mem h)
theorem cur_lt3 {i : Nat} (h : i < 3) : curI p (curL[i]'(by simp [curL]; omega)) d = [p.life.km, p.life.cycles, p.life.damage][i] := by
  obtain ⟨⟨n1, n2, n3, n4⟩, ⟨n5, n6, n7⟩, ⟨n8, n9⟩, n10⟩ := cur_ne
  have h3 : i = 0 ∨ i = 1 ∨ i = 2 := by omega
  rcases h3 with rfl | rfl | rfl <;> simp [curL, curI, n1.symm, n2.symm, n5.symm]
theorem cur_ge3 {i : Nat} (h : i < 5) (h3 : ¬ i < 3) : ∃ F, [p.since, p.made][i - 3]'(by simp; omega) = F ∧ ∀ d, curI p (curL[i]'(by simp [curL]; omega)) d = sinceI d F := by
  obtain ⟨⟨n1, n2, n3, n4⟩, ⟨n5, n6, n7⟩, ⟨n8, n9⟩, n10⟩ := cur_ne
  have h4 : i = 3 ∨ i = 4 := by omega
  rcases h4 with rfl | rfl
  · exact ⟨_, rfl, fun d => by simp [curL, curI, n3.symm, n6.symm, n8.symm]⟩
  · exact ⟨_, rfl, fun d => by simp [curL, curI, n4.symm, n7.symm, n9.symm, n10.symm]⟩
theorem cur_days : isCur sDays = true ∧ curI p sDays d = sinceI d p.since ∧ isCur sAge = true ∧ curI p sAge d = sinceI d p.made := by
  obtain ⟨⟨n1, n2, n3, n4⟩, ⟨n5, n6, n7⟩, ⟨n8, n9⟩, n10⟩ := cur_ne
  refine ⟨by decide +kernel, ?_, by decide +kernel, ?_⟩
  · simp [curI, n3.symm, n6.symm, n8.symm]
  · simp [curI, n4.symm, n7.symm, n9.symm, n10.symm]
theorem since_low {F : Int} : (sinceI d F).high = (sinceI d F).low ∧ (sinceI d F).low = if F ≥ d then 0 else d - max F (d - (1000000000000 : Int)) := by
  unfold sinceI zIvl
  split <;> exact ⟨rfl, rfl⟩
theorem value_in (h : isCur s = true) (hd : 0 ≤ d ∧ d ≤ 40000) : valueF p s d = (curI p s d, 0) := value_yes h (by simp; omega)
theorem value_15 (hd : 0 ≤ d ∧ d ≤ 40000) : (decide ((valueF p s d).2 = 15) == !isCur s) = true := by
  cases h : isCur s with
  | false => rw [value_no h]; rfl
  | true => rw [value_in h hd]; rfl
end
theorem known_step {s : ByteArray} {i : Nat} (h : i < curL.length) : decide (s ∈ curL.take (i + 1)) = (decide (s ∈ curL.take i) || decide (s = curL[i])) := by
  rw [← take_succ_of h, Bool.eq_iff_iff]
  simp only [List.mem_append, List.mem_singleton, Bool.or_eq_true, decide_eq_true_eq]
theorem days_age {d s m : Int} (h : ¬ s < m) : (sinceI d s).low ≤ (sinceI d m).low := by
  rw [since_low.2, since_low.2]
  split <;> split <;> omega
end Go.Sx

