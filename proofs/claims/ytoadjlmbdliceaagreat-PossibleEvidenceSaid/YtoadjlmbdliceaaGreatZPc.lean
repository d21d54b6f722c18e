/- The library of a symbolic run and the walks: merged. -/
import Derived.Test.YtoadjlmbdliceaaGreatZPb
import Derived.Laws.Shifts
import Derived.Scope
/- Walks, printed by a program out of the code of the functions: each theorem is a contract of one function. -/
namespace Go.Proofs.YtoadjlmbdliceaaGreat
open Go Go.Sx
set_option linter.all false
set_option maxRecDepth 20000
set_option maxHeartbeats 4000000
instance T.pl_134 : Has (plK Tryz.prog 134) [(0, 1)] := ⟨by kernel_rfl⟩
instance T.pl_168 : Has (plK Tryz.prog 168) [(0, 2), (2, 2), (4, 2)] := ⟨by kernel_rfl⟩
instance T.pl_183 : Has (plK Tryz.prog 183) [(0, 1), (1, 1)] := ⟨by kernel_rfl⟩
instance T.ty_168 : Has (tyK Tryz.prog 168) (true, 6) := ⟨by kernel_rfl⟩
instance T.zero_134 : Has (zeroK Tryz.prog 134) [.slice none 0 0] := ⟨by kernel_rfl⟩
instance T.zero_168 : Has (zeroK Tryz.prog 168) [.int .i64 0, .int .i64 0, .int .i64 0, .int .i64 0, .int .i64 0, .int .i64 0] := ⟨by kernel_rfl⟩
theorem apply1 (I : IMap) (v : Value) (l : List Part) (hv : RdS I v l) (hl : l.length ≤ 1000000) (x : Part) (B : Option Addr) (d : Nat) (hr : Enc.rd I (x.cells (.slice B x.props.length d)) x) (g4 : Nat) (c4 : ICells I g4 0 [v]) (hs : Srt Part.name l) :
    FnI Tryz.prog 130 #[.agg (x.cells (.slice B x.props.length d)).toArray, .pointer (some ⟨g4, 0, none⟩)] I (fun u J => ∃ w, u = .tuple #[.agg #[w], .int .i64 0] ∧ RdS J w (putL Part.name l x)) := by
 refine enter Tryz.func130 Tryz.call130 rfl Tryz.ntmps130 rfl (fun w0 => ?_)
 refine go 3 ?_
 refine o_box _ rfl rfl rfl (fun g2 => ?_)
 refine go 1 ?_
 refine o_alloc he rfl (fun g3 => ?_)
 refine go 6 ?_
 refine o_v rfl (v_ldI he rfl (c4 0 _ rfl)) ?_
 refine go 2 ?_
 refine o_call (put_Part _ v l hv hl x B d hr _ Part.name (fun J hJ y vs hr => apply11 J y vs hr) hs) rfl rfl (fun v8 I8 j8 q8 => ?_)
 obtain ⟨B8, d8, rfl, h8⟩ := q8
 refine go 1 ?_
 refine o_val rfl (v_build (pl := [(0, 1)]) he he rfl rfl) ?_
 refine go 1 ?_
 refine o_stw _ he rfl rfl rfl rfl rfl rfl ?_
 refine go 4 ?_
 refine fin2 rfl ⟨_, _, _, rfl, m0, .inr ⟨_, he, rfl, rfl⟩⟩ rfl ?_
 exact q_i ⟨_, rfl, B8, d8, rfl, h8⟩

theorem apply2 (I : IMap) (n : Int) :
    FnV Tryz.prog 133 #[.int .i64 n] I (.tuple #[.agg #[.slice none 0 0], .int .i64 n]) := by
 refine enter Tryz.func133 Tryz.call133 rfl Tryz.ntmps133 rfl (fun w0 => ?_)
 refine go 3 ?_
 refine o_alloc he rfl (fun g2 => ?_)
 refine go 6 ?_
 refine o_val rfl (v_build (pl := [(0, 1)]) he he rfl rfl) ?_
 refine go 2 ?_
 refine o_stw _ he rfl rfl rfl rfl rfl rfl ?_
 refine go 4 ?_
 refine fin2 rfl ⟨_, _, _, rfl, m0, .inr ⟨_, he, rfl, rfl⟩⟩ rfl ?_
 exact q_v rfl

theorem apply3 (I : IMap) (v : Value) (l : List Part) (hv : RdS I v l) (g4 : Nat) (c4 : ICells I g4 0 [v]) (f : FuncId) (cs : List Value) (p : Part → Bool) (hp : ∀ x ∈ l, ∀ vs, Enc.rd I vs x → FnV Tryz.prog f ([Value.agg vs.toArray] ++ cs).toArray I (.bool (p x))) :
    FnV Tryz.prog 136 #[.func (.func f) #[] cs.toArray, .pointer (some ⟨g4, 0, none⟩)] I (.bool (l.any p)) := by
 refine enter Tryz.func136 Tryz.call136 rfl Tryz.ntmps136 rfl (fun w0 => ?_)
 refine go 8 ?_
 refine o_v rfl (v_ldI he rfl (c4 0 _ rfl)) ?_
 refine go 2 ?_
 refine o_callV (containsFunc_Part _ v l hv f cs p hp) rfl rfl ?_
 refine go 4 ?_
 refine fin1 rfl rfl ?_
 exact q_v rfl

theorem apply4 (I : IMap) (x : Part) (vs : List Value) (h : Enc.rd I vs x) (g : Nat) (e : Evt) (cg : ICells I g 0 e.cells) :
    FnV Tryz.prog 139 #[.agg vs.toArray, .pointer (some ⟨g, 0, none⟩)] I (.bool (decide (x.into = e.into) && decide (x.slot = e.slot))) := by
 obtain ⟨ps, rfl, hps⟩ := h
 refine enter Tryz.func139 Tryz.call139 rfl Tryz.ntmps139 rfl (fun w0 => ?_)
 refine go 3 ?_
 refine o_box _ rfl rfl rfl (fun g2 => ?_)
 refine go 8 ?_
 refine o_v rfl (v_ldI he rfl (cg 4 _ rfl)) ?_
 refine go 2 ?_
 refine sxb 9 rfl (fun h9 p9 => ?_) (fun h9 p9 => ?_)
 ·refine go 3 ?_
  refine o_cons (o_yes rfl rfl h9 (o_val rfl (v_ldI he rfl (cg 5 _ rfl)) ?_))
  refine go 6 ?_
  refine fin1 rfl rfl ?_
  exact q_v (congrArg Value.bool (by simp only [h9, bS]))
 ·refine go 10 ?_
  refine fin1 rfl rfl ?_
  exact q_v (congrArg Value.bool (by simp only [h9, bS]))

theorem apply6 (I : IMap) (x : Part) (vs : List Value) (h : Enc.rd I vs x) (g : Nat) (q : Part) (s : Value) (cg : ICells I g 0 (q.cells s)) :
    FnV Tryz.prog 142 #[.agg vs.toArray, .pointer (some ⟨g, 0, none⟩)] I (.bool (decide (x.into = q.name))) := by
 obtain ⟨ps, rfl, hps⟩ := h
 refine enter Tryz.func142 Tryz.call142 rfl Tryz.ntmps142 rfl (fun w0 => ?_)
 refine go 3 ?_
 refine o_box _ rfl rfl rfl (fun g2 => ?_)
 refine go 8 ?_
 refine o_v rfl (v_ldI he rfl (cg 0 _ rfl)) ?_
 refine go 5 ?_
 refine fin1 rfl rfl ?_
 exact q_v rfl

theorem flApply (I : IMap) (vc : Value) (c : List Kind) (hvc : RdS I vc c) (hsc : SmC c) (v : Value) (l : List Part) (hv : RdS I v l) (hsf : SmF l) (e : Evt) (hse : SmE e) :
    FnI Tryz.prog 112 #[.agg #[vc], .agg #[v], .agg e.cells.toArray] I (fun u J => StIs J (applyF c l e) u) := by
 have hv0 := hv
 obtain ⟨A, c0, rfl, hA, hc, hm⟩ := hv
 refine enter Tryz.func112 Tryz.call112 rfl Tryz.ntmps112 rfl (fun w0 => ?_)
 refine go 3 ?_
 refine o_box _ rfl rfl rfl (fun g3 => ?_)
 refine go 1 ?_
 refine o_box _ rfl rfl rfl (fun g4 => ?_)
 refine go 1 ?_
 refine o_box _ rfl rfl rfl (fun g5 => ?_)
 refine go 1 ?_
 refine o_alloc he rfl (fun g6 => ?_)
 refine go 5 ?_
 refine c_cut (I' := I) (L' := [(3, .pointer (some ⟨g3, 0, none⟩)), (4, .pointer (some ⟨g4, 0, none⟩)), (5, .pointer (some ⟨g5, 0, none⟩)), (6, .pointer (some ⟨g6, 0, none⟩)), (28, .bool (!validS c l || !validE e))]) (H' := [.blk g6 134 [.slice none 0 0], .blk g5 56 e.cells, .blk g4 134 [.slice A l.length c0], .blk g3 24 [vc]]) ?_ ?_
 ·refine go 4 ?_
  refine o_callV (flValid _ vc c hvc hsc _ l hv0 hsf) rfl rfl ?_
  refine go 2 ?_
  refine sxb 24 rfl (fun h24 p24 => ?_) (fun h24 p24 => ?_)
  ·refine go 6 ?_
   exact q_cut ⟨rfl, rfl, rfl, rfl, (congrArg (fun b => some (Value.bool b)) (by simp only [h24, bS])), trivial⟩ rfl rfl
  ·refine go 2 ?_
   refine o_yes rfl rfl h24 (o_callV (evValid _ e hse) rfl rfl ?_)
   refine go 4 ?_
   exact q_cut ⟨rfl, rfl, rfl, rfl, (congrArg (fun b => some (Value.bool b)) (by simp only [h24, bS])), trivial⟩ rfl rfl
 ·refine cb rfl (fun h28 p28 => ?_) (fun h28 p28 => ?_)
  ·refine go 3 ?_
   refine o_val rfl (v_build (pl := [(0, 1)]) he he rfl rfl) ?_
   refine go 1 ?_
   refine o_stw _ he rfl rfl rfl rfl rfl rfl ?_
   refine go 5 ?_
   refine fin2 rfl ⟨_, _, _, rfl, m0, .inr ⟨_, he, rfl, rfl⟩⟩ rfl ?_
   exact q_i (StIs.fail (by simp only [applyF, h28, if_true]))
  ·have hV : validS c l = true ∧ validE e = true := by revert h28; simp
   obtain ⟨hsrt, hlen⟩ := validS_ord hV.1
   have hl6 : l.length ≤ 1000000 := by omega
   refine go 6 ?_
   refine o_callX0 (flOf _ _ l hv0) rfl rfl (fun v31 s31 q31 => ?_)
   obtain ⟨m31, kvs, rfl, rfl, hIx⟩ := q31
   refine go 1 ?_
   refine o_alloc he rfl (fun g8 => ?_)
   refine go 1 ?_
   refine o_stw _ he rfl rfl rfl rfl rfl rfl ?_
   refine go 4 ?_
   refine bring4 ?_
   refine sx_pub (fun Ig4 jg4 cg4 => ?_)
   have hvc := hvc.le jg4
   have hv0 := hv0.le jg4
   refine o_v rfl (v_makeFunc rfl rfl) ?_
   refine go 14 ?_
   refine bring1 ?_
   refine o_callK (flGet _ _ l hv0 m31 kvs hIx e.part) rfl rfl (fun v37 q37 => ?_)
   obtain ⟨vs11, rfl, s11, rfl, hs11⟩ := q37
   refine go 4 ?_
   refine o_alloc he rfl (fun g11 => ?_)
   refine go 1 ?_
   refine o_stw _ he rfl rfl rfl rfl rfl (Enc.one (α := Part) (I := Ig4) (x := partP l e) ⟨s11, rfl, hs11⟩) ?_
   refine go 11 ?_
   refine cb rfl (fun h42 p42 => ?_) (fun h42 p42 => ?_)
   ·refine go 6 ?_
    refine cb rfl (fun h43 p43 => ?_) (fun h43 p43 => ?_)
    ·refine go 4 ?_
     refine o_callV (apply2 _ 3) rfl rfl ?_
     refine go 3 ?_
     refine bring3 ?_
     refine o_stw _ he rfl rfl rfl rfl rfl rfl ?_
     refine go 6 ?_
     refine fin2 rfl ⟨_, _, _, rfl, m0, .inr ⟨_, he, rfl, rfl⟩⟩ rfl ?_
     exact q_i (StIs.fail (by simp only [applyF, h28, p42, applyMake, h43, Bool.true_eq_false, decide_true, decide_false, Int.reduceEq, reduceIte, if_true, if_false, Bool.false_eq_true, not_true, not_false_eq_true, bS]))
    ·refine go 9 ?_
     refine o_callE (catFind _ vc c hvc e.kind) rfl rfl (fun v52 q52 => ?_)
     obtain ⟨vs13, rfl, s13, rfl, hs13⟩ := q52
     refine go 4 ?_
     refine o_alloc he rfl (fun g13 => ?_)
     refine go 1 ?_
     refine o_stw _ he rfl rfl rfl rfl rfl (Enc.one (α := Kind) (I := Ig4) (x := (findK c e.kind).getD zKind) ⟨s13, rfl, hs13⟩) ?_
     refine go 9 ?_
     refine cb rfl (fun h56 p56 => ?_) (fun h56 p56 => ?_)
     ·refine go 4 ?_
      refine o_callV (apply2 _ 4) rfl rfl ?_
      refine go 3 ?_
      refine bring4 ?_
      refine o_stw _ he rfl rfl rfl rfl rfl rfl ?_
      refine go 6 ?_
      refine fin2 rfl ⟨_, _, _, rfl, m0, .inr ⟨_, he, rfl, rfl⟩⟩ rfl ?_
      exact q_i (StIs.fail (by simp only [applyF, h28, p42, applyMake, h43, p56, Bool.true_eq_false, decide_true, decide_false, Int.reduceEq, reduceIte, if_true, if_false, Bool.false_eq_true, not_true, not_false_eq_true, bS]))
     ·refine go 6 ?_
      refine o_v rfl (v_ldI he rfl (cg4 0 _ rfl)) ?_
      refine go 4 ?_
      refine cb rfl (fun h64 p64 => ?_) (fun h64 p64 => ?_)
      ·refine go 4 ?_
       refine o_callV (apply2 _ 7) rfl rfl ?_
       refine go 3 ?_
       refine bring4 ?_
       refine o_stw _ he rfl rfl rfl rfl rfl rfl ?_
       refine go 6 ?_
       refine fin2 rfl ⟨_, _, _, rfl, m0, .inr ⟨_, he, rfl, rfl⟩⟩ rfl ?_
       exact q_i (StIs.fail (by simp only [applyF, h28, p42, applyMake, h43, p56, p64, Bool.true_eq_false, Bool.true_eq_false, decide_true, decide_false, Int.reduceEq, reduceIte, if_true, if_false, Bool.false_eq_true, not_true, not_false_eq_true, bS]))
      ·refine go 14 ?_
       refine o_val rfl (v_build (pl := [(0, 1), (1, 1), (2, 1), (3, 1), (4, 1), (5, 1), (6, 1), (7, 1), (8, 6)]) he he rfl rfl) ?_
       refine go 1 ?_
       refine o_call (apply1 _ _ l hv0 hl6 (newP e) none 0 ⟨_, rfl, RdS.nil'⟩ g4 cg4 hsrt) rfl rfl (fun v79 I79 j79 q79 => ?_)
       obtain ⟨w79, rfl, ⟨B79, d79, rfl, hw79⟩⟩ := q79
       refine go 3 ?_
       refine bring4 ?_
       refine o_stw _ he rfl rfl rfl rfl rfl rfl ?_
       refine go 5 ?_
       refine fin2 rfl ⟨_, _, _, rfl, m0, .inr ⟨_, he, rfl, rfl⟩⟩ rfl ?_
       exact q_i (StIs.put (by simp only [applyF, h28, p42, applyMake, h43, p56, p64, Bool.true_eq_false, Bool.true_eq_false, decide_true, decide_false, Int.reduceEq, reduceIte, if_true, if_false, Bool.false_eq_true, not_true, not_false_eq_true, bS]) ⟨B79, d79, rfl, hw79⟩)
   ·refine go 7 ?_
    refine o_alloc he rfl (fun g15 => ?_)
    refine go 1 ?_
    refine o_stw _ he rfl rfl rfl rfl rfl (Enc.one (α := Part) (I := Ig4) (x := partP l e) ⟨s11, rfl, hs11⟩) ?_
    refine go 4 ?_
    refine c_cutx (α := Value) (Ix := (fun s15 => Ig4)) (Lx := (fun s15 => [(3, .pointer (some ⟨g3, 0, none⟩)), (4, .pointer (some ⟨g4, 0, none⟩)), (5, .pointer (some ⟨g5, 0, none⟩)), (6, .pointer (some ⟨g6, 0, none⟩)), (9, .func (.func 130) #[] #[.pointer (some ⟨g4, 0, none⟩)]), (10, .func (.func 133) #[] #[]), (11, .pointer (some ⟨g11, 0, none⟩)), (12, .bool (findP l e.part).isSome), (15, .pointer (some ⟨g15, 0, none⟩)), (16, .bool (otherO l e).isSome)])) (Hx := (fun s15 => [.blk g15 170 ((otherP l e).cells s15), .blk g11 170 ((partP l e).cells s11), .blk g6 134 [.slice none 0 0], .blk g5 56 e.cells, .blk g3 24 [vc]])) (p := (fun s15 => RdS Ig4 s15 (otherP l e).props)) ?_ ?_
    ·refine go 7 ?_
     refine cb rfl (fun h86 p86 => ?_) (fun h86 p86 => ?_)
     ·refine go 5 ?_
      refine bring2 ?_
      refine o_callK (flGet _ _ l hv0 m31 kvs hIx e.into) rfl rfl (fun v91 q91 => ?_)
      obtain ⟨vs15, rfl, s15, rfl, hs15⟩ := q91
      refine go 4 ?_
      refine bring1 ?_
      refine o_stw _ he rfl rfl rfl rfl rfl (Enc.one (α := Part) (I := Ig4) (x := (findP l e.into).getD zPart) ⟨s15, rfl, hs15⟩) ?_
      refine go 3 ?_
      refine bring1 ?_
      refine sx_drop ?_
      refine bring2 ?_
      refine sx_drop ?_
      exact q_cutx s15 (by simp only [otherP, otherO, p86, if_true]; exact hs15) ⟨rfl, rfl, rfl, rfl, rfl, rfl, rfl, rfl, rfl, (by simp only [otherO, p86, if_true, if_false]; rfl), trivial⟩ (by simp only [otherP, otherO, p86, if_true, if_false]; rfl) rfl
     ·refine go 2 ?_
      refine bring2 ?_
      refine sx_drop ?_
      refine bring2 ?_
      refine sx_drop ?_
      exact q_cutx s11 (by simp only [otherP, otherO, p86, if_false]; exact hs11) ⟨rfl, rfl, rfl, rfl, rfl, rfl, rfl, rfl, rfl, (by simp only [otherO, p86, if_true, if_false]; rfl), trivial⟩ (by simp only [otherP, otherO, p86, if_true, if_false]; rfl) rfl
    ·intro s15 hs15
     refine go 6 ?_
     refine sxb 96 rfl (fun h96 p96 => ?_) (fun h96 p96 => ?_)
     ·refine go 5 ?_
      refine c_true rfl ?_
      refine go 4 ?_
      refine o_callV (apply2 _ 2) rfl rfl ?_
      refine go 3 ?_
      refine bring2 ?_
      refine o_stw _ he rfl rfl rfl rfl rfl rfl ?_
      refine go 5 ?_
      refine fin2 rfl ⟨_, _, _, rfl, m0, .inr ⟨_, he, rfl, rfl⟩⟩ rfl ?_
      exact q_i (StIs.fail (by simp only [applyF, h28, p42, applyRest, h96, Bool.true_eq_false, decide_true, decide_false, Int.reduceEq, reduceIte, if_true, if_false, Bool.false_eq_true, not_true, not_false_eq_true, bS]))
     ·refine go 5 ?_
      refine cb rfl (fun h99 p99 => ?_) (fun h99 p99 => ?_)
      ·refine go 4 ?_
       refine o_callV (apply2 _ 2) rfl rfl ?_
       refine go 3 ?_
       refine bring2 ?_
       refine o_stw _ he rfl rfl rfl rfl rfl rfl ?_
       refine go 5 ?_
       refine fin2 rfl ⟨_, _, _, rfl, m0, .inr ⟨_, he, rfl, rfl⟩⟩ rfl ?_
       exact q_i (StIs.fail (by simp only [applyF, h28, p42, applyRest, h96, h99, Bool.true_eq_false, decide_true, decide_false, Int.reduceEq, reduceIte, if_true, if_false, Bool.false_eq_true, not_true, not_false_eq_true, bS]))
      ·have hmem : partP l e ∈ l := partP_mem (by simpa using h96)
       refine go 8 ?_
       refine sxb 106 rfl (fun h106 p106 => ?_) (fun h106 p106 => ?_)
       ·refine go 5 ?_
        refine c_true rfl ?_
        refine go 4 ?_
        refine o_callV (apply2 _ 5) rfl rfl ?_
        refine go 3 ?_
        refine bring2 ?_
        refine o_stw _ he rfl rfl rfl rfl rfl rfl ?_
        refine go 5 ?_
        refine fin2 rfl ⟨_, _, _, rfl, m0, .inr ⟨_, he, rfl, rfl⟩⟩ rfl ?_
        exact q_i (StIs.fail (by simp only [applyF, h28, p42, applyRest, h96, h99, h106, Bool.true_eq_false, decide_true, decide_false, Int.reduceEq, reduceIte, if_true, if_false, Bool.false_eq_true, not_true, not_false_eq_true, bS]))
       ·refine go 5 ?_
        refine cb rfl (fun h109 p109 => ?_) (fun h109 p109 => ?_)
        ·refine go 4 ?_
         refine o_callV (apply2 _ 5) rfl rfl ?_
         refine go 3 ?_
         refine bring2 ?_
         refine o_stw _ he rfl rfl rfl rfl rfl rfl ?_
         refine go 5 ?_
         refine fin2 rfl ⟨_, _, _, rfl, m0, .inr ⟨_, he, rfl, rfl⟩⟩ rfl ?_
         exact q_i (StIs.fail (by simp only [applyF, h28, p42, applyRest, h96, h99, h106, h109, Bool.true_eq_false, decide_true, decide_false, Int.reduceEq, reduceIte, if_true, if_false, Bool.false_eq_true, not_true, not_false_eq_true, bS]))
        ·refine go 4 ?_
         refine o_v rfl (v_makeFunc rfl rfl) ?_
         refine go 9 ?_
         refine o_callE (catFind _ vc c hvc (partP l e).kind) rfl rfl (fun v119 q119 => ?_)
         obtain ⟨vs18, rfl, s18, rfl, hs18⟩ := q119
         refine go 4 ?_
         refine o_alloc he rfl (fun g18 => ?_)
         refine go 1 ?_
         refine o_stw _ he rfl rfl rfl rfl rfl (Enc.one (α := Kind) (I := Ig4) (x := kindP c l e) ⟨s18, rfl, hs18⟩) ?_
         refine go 4 ?_
         refine c_cutx3 (Ix := (fun J p2 s2 => J)) (Lx := (fun J p2 s2 => [(6, .pointer (some ⟨g6, 0, none⟩)), (9, .func (.func 130) #[] #[.pointer (some ⟨g4, 0, none⟩)]), (11, .pointer (some ⟨g11, 0, none⟩))])) (Hx := (fun J p2 s2 => [.blk g11 170 (p2.cells s2), .blk g6 134 [.slice none 0 0]])) (p := (fun J p2 s2 => ILe Ig4 J ∧ RdS J s2 p2.props ∧ applyF c l e = putR l p2)) ?_ ?_
         ·refine go 13 ?_
          refine cb rfl (fun h124 p124 => ?_) (fun h124 p124 => ?_)
          ·refine go 7 ?_
           refine sxb 129 rfl (fun h129 p129 => ?_) (fun h129 p129 => ?_)
           ·refine go 13 ?_
            refine c_true rfl ?_
            refine go 4 ?_
            refine o_callV (apply2 _ 4) rfl rfl ?_
            refine go 3 ?_
            refine bring3 ?_
            refine o_stw _ he rfl rfl rfl rfl rfl rfl ?_
            refine go 8 ?_
            refine fin2 rfl ⟨_, _, _, rfl, m0, .inr ⟨_, he, rfl, rfl⟩⟩ rfl ?_
            exact q_i (StIs.fail (by simp only [applyF, h28, p42, applyRest, applyOp, applyFit, applyRemove, applyRun, applyNote, applyScrap, seatTaken, holdsAny, kindP, noted, p28, p42, p96, p99, p106, p109, p124, p129, h96, h99, h106, h109, h124, h129, Bool.true_eq_false, decide_true, decide_false, Int.reduceEq, reduceIte, if_true, if_false, Bool.false_eq_true, not_true, not_false_eq_true, bS]))
           ·refine go 8 ?_
            refine o_yes rfl rfl h129 (o_callV (catTakes _ vc c hvc (otherP l e).kind e.slot (partP l e).kind) rfl rfl ?_)
            refine go 5 ?_
            refine cb rfl (fun h126 p126 => ?_) (fun h126 p126 => ?_)
            ·refine go 4 ?_
             refine o_callV (apply2 _ 4) rfl rfl ?_
             refine go 3 ?_
             refine bring3 ?_
             refine o_stw _ he rfl rfl rfl rfl rfl rfl ?_
             refine go 8 ?_
             refine fin2 rfl ⟨_, _, _, rfl, m0, .inr ⟨_, he, rfl, rfl⟩⟩ rfl ?_
             exact q_i (StIs.fail (by simp only [applyF, h28, p42, applyRest, applyOp, applyFit, applyRemove, applyRun, applyNote, applyScrap, seatTaken, holdsAny, kindP, noted, p28, p42, p96, p99, p106, p109, p124, p129, p126, h96, h99, h106, h109, h124, h129, h126, Bool.true_eq_false, decide_true, decide_false, Int.reduceEq, reduceIte, if_true, if_false, Bool.false_eq_true, not_true, not_false_eq_true, bS]))
            ·refine go 8 ?_
             refine cb rfl (fun h144 p144 => ?_) (fun h144 p144 => ?_)
             ·refine go 4 ?_
              refine o_callV (apply2 _ 5) rfl rfl ?_
              refine go 3 ?_
              refine bring3 ?_
              refine o_stw _ he rfl rfl rfl rfl rfl rfl ?_
              refine go 8 ?_
              refine fin2 rfl ⟨_, _, _, rfl, m0, .inr ⟨_, he, rfl, rfl⟩⟩ rfl ?_
              exact q_i (StIs.fail (by simp only [applyF, h28, p42, applyRest, applyOp, applyFit, applyRemove, applyRun, applyNote, applyScrap, seatTaken, holdsAny, kindP, noted, p28, p42, p96, p99, p106, p109, p124, p129, p126, p144, h96, h99, h106, h109, h124, h129, h126, h144, Bool.true_eq_false, decide_true, decide_false, Int.reduceEq, reduceIte, if_true, if_false, Bool.false_eq_true, not_true, not_false_eq_true, bS]))
             ·refine go 3 ?_
              refine bring4 ?_
              refine sx_pub (fun Ig5 jg5 cg5 => ?_)
              have hvc := hvc.le jg5
              have hv0 := hv0.le jg5
              have cg4 := cg4.le jg5
              have hs11 := hs11.le jg5
              have hs18 := hs18.le jg5
              refine o_v rfl (v_makeFunc rfl rfl) ?_
              refine go 1 ?_
              refine o_callV (apply3 _ _ l hv0 g4 cg4 _ [.pointer (some ⟨g5, 0, none⟩)] (fun x => decide (x.into = e.into) && decide (x.slot = e.slot)) (fun x hx vs hr => apply4 _ x vs hr g5 e cg5)) rfl rfl ?_
              refine go 3 ?_
              refine cb rfl (fun h152 p152 => ?_) (fun h152 p152 => ?_)
              ·refine go 4 ?_
               refine o_callV (apply2 _ 6) rfl rfl ?_
               refine go 3 ?_
               refine bring3 ?_
               refine o_stw _ he rfl rfl rfl rfl rfl rfl ?_
               refine go 8 ?_
               refine fin2 rfl ⟨_, _, _, rfl, m0, .inr ⟨_, he, rfl, rfl⟩⟩ rfl ?_
               exact q_i (StIs.fail (by simp only [applyF, h28, p42, applyRest, applyOp, applyFit, applyRemove, applyRun, applyNote, applyScrap, seatTaken, holdsAny, kindP, noted, p28, p42, p96, p99, p106, p109, p124, p129, p126, p144, p152, h96, h99, h106, h109, h124, h129, h126, h144, h152, Bool.true_eq_false, decide_true, decide_false, Int.reduceEq, reduceIte, if_true, if_false, Bool.false_eq_true, not_true, not_false_eq_true, bS]))
              ·refine go 3 ?_
               refine bring2 ?_
               refine d_start1 T.mixed ?_
               refine d_tv 0 rfl rfl (by kernel_rfl) rfl (.cons _ (.refl _)) rfl (v_fieldAddr he rfl) ?_
               refine d_tv 1 rfl rfl (by kernel_rfl) rfl (.cons _ (.refl _)) rfl (v_ldI he rfl (cg5 4 _ rfl)) ?_
               refine d_tv 2 rfl rfl (by kernel_rfl) rfl (.cons _ (.refl _)) rfl (v_fieldAddr he rfl) ?_
               refine d_tv 3 rfl rfl (by kernel_rfl) rfl (.cons _ (.refl _)) rfl (v_ldI he rfl (cg5 5 _ rfl)) ?_
               refine d_tv 4 rfl rfl (by kernel_rfl) rfl (.cons _ (.refl _)) rfl (v_fieldAddr he rfl) ?_
               refine d_one 5 (by kernel_rfl) rfl ?_
               refine o_st1 he rfl rfl rfl rfl ?_
               refine d_on (fun _ m => m.keeps (.cons _ (.refl _))) ?_
               refine d_tv 6 rfl rfl (by kernel_rfl) rfl (.cons _ (.refl _)) rfl (v_fieldAddr he rfl) ?_
               refine d_one 7 (by kernel_rfl) rfl ?_
               refine o_st1 he rfl rfl rfl rfl ?_
               refine d_on (fun _ m => m.keeps (.cons _ (.refl _))) ?_
               refine d_done (by kernel_rfl) ?_
               refine go 2 ?_
               refine bring1 ?_
               refine sx_drop ?_
               refine bring1 ?_
               refine sx_drop ?_
               refine bring2 ?_
               refine sx_drop ?_
               exact q_cutx3 (_) ({ partP l e with into := e.into, slot := e.slot }) (_) ⟨jg5, hs11, by simp only [applyF, h28, p42, applyRest, h96, h99, h106, h109, applyOp, applyFit, applyRemove, applyRun, applyNote, applyScrap, seatTaken, holdsAny, kindP, noted, overhauled, p28, p42, p96, p99, p106, p109, p124, p129, p126, p144, p152, h96, h99, h106, h109, h124, h129, h126, h144, h152, Bool.true_eq_false, decide_true, decide_false, Int.reduceEq, reduceIte, if_true, if_false, Bool.false_eq_true, not_true, not_false_eq_true, bS]⟩ sb rfl rfl
          ·refine go 6 ?_
           refine cb rfl (fun h166 p166 => ?_) (fun h166 p166 => ?_)
           ·refine go 8 ?_
            refine cb rfl (fun h170 p170 => ?_) (fun h170 p170 => ?_)
            ·refine go 4 ?_
             refine o_callV (apply2 _ 5) rfl rfl ?_
             refine go 3 ?_
             refine bring3 ?_
             refine o_stw _ he rfl rfl rfl rfl rfl rfl ?_
             refine go 7 ?_
             refine fin2 rfl ⟨_, _, _, rfl, m0, .inr ⟨_, he, rfl, rfl⟩⟩ rfl ?_
             exact q_i (StIs.fail (by simp only [applyF, h28, p42, applyRest, applyOp, applyFit, applyRemove, applyRun, applyNote, applyScrap, seatTaken, holdsAny, kindP, noted, p28, p42, p96, p99, p106, p109, p124, p166, p170, h96, h99, h106, h109, h124, h166, h170, Bool.true_eq_false, decide_true, decide_false, Int.reduceEq, reduceIte, if_true, if_false, Bool.false_eq_true, not_true, not_false_eq_true, bS]))
            ·refine go 5 ?_
             refine bring2 ?_
             refine o_st1 he rfl rfl rfl rfl ?_
             refine go 2 ?_
             refine o_st1 he rfl rfl rfl rfl ?_
             refine go 3 ?_
             refine bring1 ?_
             refine sx_drop ?_
             refine bring1 ?_
             refine sx_drop ?_
             refine bring2 ?_
             refine sx_drop ?_
             refine bring2 ?_
             refine sx_drop ?_
             exact q_cutx3 (_) ({ partP l e with into := nil8, slot := nil8 }) (_) ⟨ILe.refl _, hs11, by simp only [applyF, h28, p42, applyRest, h96, h99, h106, h109, applyOp, applyFit, applyRemove, applyRun, applyNote, applyScrap, seatTaken, holdsAny, kindP, noted, overhauled, p28, p42, p96, p99, p106, p109, p124, p166, p170, h96, h99, h106, h109, h124, h166, h170, Bool.true_eq_false, decide_true, decide_false, Int.reduceEq, reduceIte, if_true, if_false, Bool.false_eq_true, not_true, not_false_eq_true, bS]⟩ sb rfl rfl
           ·refine go 6 ?_
            refine cb rfl (fun h177 p177 => ?_) (fun h177 p177 => ?_)
            ·refine go 7 ?_
             refine cb rfl (fun h181 p181 => ?_) (fun h181 p181 => ?_)
             ·refine go 4 ?_
              refine o_callV (apply2 _ 4) rfl rfl ?_
              refine go 3 ?_
              refine bring3 ?_
              refine o_stw _ he rfl rfl rfl rfl rfl rfl ?_
              refine go 6 ?_
              refine fin2 rfl ⟨_, _, _, rfl, m0, .inr ⟨_, he, rfl, rfl⟩⟩ rfl ?_
              exact q_i (StIs.fail (by simp only [applyF, h28, p42, applyRest, applyOp, applyFit, applyRemove, applyRun, applyNote, applyScrap, seatTaken, holdsAny, kindP, noted, p28, p42, p96, p99, p106, p109, p124, p166, p177, p181, h96, h99, h106, h109, h124, h166, h177, h181, Bool.true_eq_false, decide_true, decide_false, Int.reduceEq, reduceIte, if_true, if_false, Bool.false_eq_true, not_true, not_false_eq_true, bS]))
             ·refine go 3 ?_
              refine sx_drop ?_
              refine sx_drop ?_
              refine bring2 ?_
              refine sx_drop ?_
              refine bring2 ?_
              refine sx_drop ?_
              exact q_cutx3 (_) (partP l e) (_) ⟨ILe.refl _, hs11, by simp only [applyF, h28, p42, applyRest, h96, h99, h106, h109, applyOp, applyFit, applyRemove, applyRun, applyNote, applyScrap, seatTaken, holdsAny, kindP, noted, overhauled, p28, p42, p96, p99, p106, p109, p124, p166, p177, p181, h96, h99, h106, h109, h124, h166, h177, h181, Bool.true_eq_false, decide_true, decide_false, Int.reduceEq, reduceIte, if_true, if_false, Bool.false_eq_true, not_true, not_false_eq_true, bS]⟩ sb rfl rfl
            ·refine go 6 ?_
             refine cb rfl (fun h186 p186 => ?_) (fun h186 p186 => ?_)
             ·refine go 5 ?_
              refine o_v rfl (v_imax rfl rfl) ?_
              refine go 1 ?_
              refine o_val rfl (v_build (pl := [(0, 2), (2, 2), (4, 2)]) he he rfl rfl) ?_
              refine go 2 ?_
              refine bring2 ?_
              refine o_st1 he rfl rfl rfl rfl ?_
              refine go 2 ?_
              refine o_st _ _ he rfl rfl rfl rfl rfl rfl rfl ?_
              refine go 3 ?_
              refine bring1 ?_
              refine sx_drop ?_
              refine bring1 ?_
              refine sx_drop ?_
              refine bring2 ?_
              refine sx_drop ?_
              refine bring2 ?_
              refine sx_drop ?_
              exact q_cutx3 (_) (overhauled e (partP l e)) (_) ⟨ILe.refl _, hs11, by simp only [applyF, h28, p42, applyRest, h96, h99, h106, h109, applyOp, applyFit, applyRemove, applyRun, applyNote, applyScrap, seatTaken, holdsAny, kindP, noted, overhauled, p28, p42, p96, p99, p106, p109, p124, p166, p177, p186, h96, h99, h106, h109, h124, h166, h177, h186, Bool.true_eq_false, decide_true, decide_false, Int.reduceEq, reduceIte, if_true, if_false, Bool.false_eq_true, not_true, not_false_eq_true, bS]⟩ sb rfl rfl
             ·refine go 6 ?_
              refine cb rfl (fun h196 p196 => ?_) (fun h196 p196 => ?_)
              ·refine go 9 ?_
               refine o_val rfl (v_build (pl := [(0, 1), (1, 1)]) he he rfl rfl) ?_
               refine go 1 ?_
               refine o_call (put_Prp _ s11 (partP l e).props hs11 (by have := (validS_part hV.1 hmem).2; omega) ⟨e.key, e.value⟩ rfl _ Prp.key (fun J hJ y vs hr => apply5 J y vs hr) (validS_part hV.1 hmem).1) rfl rfl (fun v205 I205 j205 q205 => ?_)
               obtain ⟨B205, d205, rfl, h205⟩ := q205
               refine go 2 ?_
               refine bring2 ?_
               refine o_st1 he rfl rfl rfl rfl ?_
               refine go 10 ?_
               refine cb rfl (fun h210 p210 => ?_) (fun h210 p210 => ?_)
               ·refine go 4 ?_
                refine o_callV (apply2 _ 7) rfl rfl ?_
                refine go 3 ?_
                refine bring3 ?_
                refine o_stw _ he rfl rfl rfl rfl rfl rfl ?_
                refine go 6 ?_
                refine fin2 rfl ⟨_, _, _, rfl, m0, .inr ⟨_, he, rfl, rfl⟩⟩ rfl ?_
                exact q_i (StIs.fail (by simp only [applyF, h28, p42, applyRest, applyOp, applyFit, applyRemove, applyRun, applyNote, applyScrap, seatTaken, holdsAny, kindP, noted, p28, p42, p96, p99, p106, p109, p124, p166, p177, p186, p196, p210, h96, h99, h106, h109, h124, h166, h177, h186, h196, h210, Bool.true_eq_false, decide_true, decide_false, Int.reduceEq, reduceIte, if_true, if_false, Bool.false_eq_true, not_true, not_false_eq_true, bS]))
               ·refine go 3 ?_
                refine bring1 ?_
                refine sx_drop ?_
                refine bring1 ?_
                refine sx_drop ?_
                refine bring2 ?_
                refine sx_drop ?_
                refine bring2 ?_
                refine sx_drop ?_
                exact q_cutx3 (_) (noted e (partP l e)) (_) ⟨j205, ⟨B205, d205, rfl, h205⟩, by simp only [applyF, h28, p42, applyRest, h96, h99, h106, h109, applyOp, applyFit, applyRemove, applyRun, applyNote, applyScrap, seatTaken, holdsAny, kindP, noted, overhauled, p28, p42, p96, p99, p106, p109, p124, p166, p177, p186, p196, p210, h96, h99, h106, h109, h124, h166, h177, h186, h196, h210, Bool.true_eq_false, decide_true, decide_false, Int.reduceEq, reduceIte, if_true, if_false, Bool.false_eq_true, not_true, not_false_eq_true, bS]⟩ sb rfl rfl
              ·refine go 6 ?_
               refine cb rfl (fun h215 p215 => ?_) (fun h215 p215 => ?_)
               ·refine go 7 ?_
                refine sxb 220 rfl (fun h220 p220 => ?_) (fun h220 p220 => ?_)
                ·refine go 6 ?_
                 refine c_true rfl ?_
                 refine go 4 ?_
                 refine o_callV (apply2 _ 5) rfl rfl ?_
                 refine go 3 ?_
                 refine bring3 ?_
                 refine o_stw _ he rfl rfl rfl rfl rfl rfl ?_
                 refine go 7 ?_
                 refine fin2 rfl ⟨_, _, _, rfl, m0, .inr ⟨_, he, rfl, rfl⟩⟩ rfl ?_
                 exact q_i (StIs.fail (by simp only [applyF, h28, p42, applyRest, applyOp, applyFit, applyRemove, applyRun, applyNote, applyScrap, seatTaken, holdsAny, kindP, noted, p28, p42, p96, p99, p106, p109, p124, p166, p177, p186, p196, p215, p220, h96, h99, h106, h109, h124, h166, h177, h186, h196, h215, h220, Bool.true_eq_false, decide_true, decide_false, Int.reduceEq, reduceIte, if_true, if_false, Bool.false_eq_true, not_true, not_false_eq_true, bS]))
                ·refine go 1 ?_
                 refine o_cons (o_yes rfl rfl h220 (o_val rfl (v_makeFunc rfl rfl) ?_))
                 refine go 1 ?_
                 refine o_yes rfl rfl h220 (o_lendB m2 (fun I2 hI2 c2 => apply3 I2 _ l (hv0.le hI2) g4 (cg4.le hI2) _ [.pointer (some ⟨g11, 0, none⟩)] (fun x => decide (x.into = (partP l e).name)) (fun x hx vs hr => apply6 I2 x vs hr g11 _ _ c2)) rfl rfl ?_)
                 refine go 3 ?_
                 refine cb rfl (fun h224 p224 => ?_) (fun h224 p224 => ?_)
                 ·refine go 4 ?_
                  refine o_callV (apply2 _ 5) rfl rfl ?_
                  refine go 3 ?_
                  refine bring3 ?_
                  refine o_stw _ he rfl rfl rfl rfl rfl rfl ?_
                  refine go 7 ?_
                  refine fin2 rfl ⟨_, _, _, rfl, m0, .inr ⟨_, he, rfl, rfl⟩⟩ rfl ?_
                  exact q_i (StIs.fail (by simp only [applyF, h28, p42, applyRest, applyOp, applyFit, applyRemove, applyRun, applyNote, applyScrap, seatTaken, holdsAny, kindP, noted, p28, p42, p96, p99, p106, p109, p124, p166, p177, p186, p196, p215, p220, p224, h96, h99, h106, h109, h124, h166, h177, h186, h196, h215, h220, h224, Bool.true_eq_false, decide_true, decide_false, Int.reduceEq, reduceIte, if_true, if_false, Bool.false_eq_true, not_true, not_false_eq_true, bS]))
                 ·refine go 5 ?_
                  refine bring2 ?_
                  refine o_st1 he rfl rfl rfl rfl ?_
                  refine go 3 ?_
                  refine bring1 ?_
                  refine sx_drop ?_
                  refine bring1 ?_
                  refine sx_drop ?_
                  refine bring2 ?_
                  refine sx_drop ?_
                  refine bring2 ?_
                  refine sx_drop ?_
                  exact q_cutx3 (_) ({ partP l e with scrapped := true }) (_) ⟨ILe.refl _, hs11, by simp only [applyF, h28, p42, applyRest, h96, h99, h106, h109, applyOp, applyFit, applyRemove, applyRun, applyNote, applyScrap, seatTaken, holdsAny, kindP, noted, overhauled, p28, p42, p96, p99, p106, p109, p124, p166, p177, p186, p196, p215, p220, p224, h96, h99, h106, h109, h124, h166, h177, h186, h196, h215, h220, h224, Bool.true_eq_false, decide_true, decide_false, Int.reduceEq, reduceIte, if_true, if_false, Bool.false_eq_true, not_true, not_false_eq_true, bS]⟩ sb rfl rfl
               ·refine go 3 ?_
                refine sx_drop ?_
                refine sx_drop ?_
                refine bring2 ?_
                refine sx_drop ?_
                refine bring2 ?_
                refine sx_drop ?_
                exact q_cutx3 (_) (partP l e) (_) ⟨ILe.refl _, hs11, by simp only [applyF, h28, p42, applyRest, h96, h99, h106, h109, applyOp, applyFit, applyRemove, applyRun, applyNote, applyScrap, seatTaken, holdsAny, kindP, noted, overhauled, p28, p42, p96, p99, p106, p109, p124, p166, p177, p186, p196, p215, h96, h99, h106, h109, h124, h166, h177, h186, h196, h215, Bool.true_eq_false, decide_true, decide_false, Int.reduceEq, reduceIte, if_true, if_false, Bool.false_eq_true, not_true, not_false_eq_true, bS]⟩ sb rfl rfl
         ·rintro J p2 s2 ⟨hJ, ⟨B2, d2, rfl, hB2⟩, hA⟩
          refine go 5 ?_
          refine o_call (apply1 _ _ l (hv0.le hJ) hl6 p2 B2 d2 ⟨_, rfl, B2, d2, rfl, hB2⟩ g4 (cg4.le hJ) hsrt) rfl rfl (fun v232 I232 j232 q232 => ?_)
          obtain ⟨w232, rfl, ⟨B232, d232, rfl, hw232⟩⟩ := q232
          refine go 3 ?_
          refine bring1 ?_
          refine o_stw _ he rfl rfl rfl rfl rfl rfl ?_
          refine go 4 ?_
          refine fin2 rfl ⟨_, _, _, rfl, m0, .inr ⟨_, he, rfl, rfl⟩⟩ rfl ?_
          exact q_i (StIs.put hA ⟨B232, d232, rfl, hw232⟩)

end Go.Proofs.YtoadjlmbdliceaaGreat

/- Walks, printed by a program out of the code of the functions: each theorem is a contract of one function. -/
namespace Go.Proofs.YtoadjlmbdliceaaGreat
open Go Go.Sx
set_option linter.all false
set_option maxRecDepth 20000
set_option maxHeartbeats 4000000
theorem ref09Ivl (I : IMap) (x : Ivl) :
    FnV Tryz.prog 156 #[.agg x.cells.toArray] I (.bool (ivlR x)) := by
 refine enter Tryz.func156 Tryz.call156 rfl Tryz.ntmps156 rfl (fun w0 => ?_)
 refine go 3 ?_
 refine o_box _ rfl rfl rfl (fun g1 => ?_)
 refine go 9 ?_
 refine sxb 6 rfl (fun h6 p6 => ?_) (fun h6 p6 => ?_)
 ·refine go 7 ?_
  refine sxb 13 rfl (fun h13 p13 => ?_) (fun h13 p13 => ?_)
  ·refine go 8 ?_
   refine fin1 rfl rfl ?_
   exact q_v (congrArg Value.bool (by simp only [ivlR, h6, h13, bS]))
  ·refine go 8 ?_
   refine fin1 rfl rfl ?_
   exact q_v (congrArg Value.bool (by simp only [ivlR, h6, h13, bS]))
 ·refine go 15 ?_
  refine fin1 rfl rfl ?_
  exact q_v (congrArg Value.bool (by simp only [ivlR, h6, bS]))

theorem ref09Use (I : IMap) (x : Use) :
    FnV Tryz.prog 122 #[.agg x.cells.toArray] I (.bool (useR x)) := by
 refine enter Tryz.func122 Tryz.call122 rfl Tryz.ntmps122 rfl (fun w0 => ?_)
 refine go 3 ?_
 refine o_box _ rfl rfl rfl (fun g1 => ?_)
 refine go 6 ?_
 refine o_v rfl (v_ldp (x.km.cells) m0 he rfl rfl rfl) ?_
 refine go 1 ?_
 refine o_callV (ref09Ivl _ x.km) rfl rfl ?_
 refine go 1 ?_
 refine sxb 6 rfl (fun h6 p6 => ?_) (fun h6 p6 => ?_)
 ·refine go 1 ?_
  refine o_cons (o_yes rfl rfl h6 (o_val rfl (v_ldp (x.cycles.cells) m0 he rfl rfl rfl) ?_))
  refine go 1 ?_
  refine o_yes rfl rfl h6 (o_callV (ref09Ivl _ x.cycles) rfl rfl ?_)
  refine go 2 ?_
  refine sxb 11 rfl (fun h11 p11 => ?_) (fun h11 p11 => ?_)
  ·refine go 1 ?_
   refine o_cons (o_yes rfl rfl h11 (o_val rfl (v_ldp (x.load.cells) m0 he rfl rfl rfl) ?_))
   refine go 1 ?_
   refine o_yes rfl rfl h11 (o_callV (ref09Ivl _ x.load) rfl rfl ?_)
   refine go 5 ?_
   refine fin1 rfl rfl ?_
   exact q_v (congrArg Value.bool (by simp only [useR, h6, h11, bS]))
  ·refine go 8 ?_
   refine fin1 rfl rfl ?_
   exact q_v (congrArg Value.bool (by simp only [useR, h6, h11, bS]))
 ·refine go 13 ?_
  refine fin1 rfl rfl ?_
  exact q_v (congrArg Value.bool (by simp only [useR, h6, bS]))

theorem ref09Valid (I : IMap) (e : Evt) (hs : SmE e) :
    FnV Tryz.prog 105 #[.agg e.cells.toArray] I (.bool (validE e)) := by
 refine enter Tryz.func105 Tryz.call105 rfl Tryz.ntmps105 rfl (fun w0 => ?_)
 refine go 3 ?_
 refine o_box _ rfl rfl rfl (fun g1 => ?_)
 refine go 5 ?_
 refine c_cut (I' := I) (L' := [(1, .pointer (some ⟨g1, 0, none⟩)), (28, .bool (evBadR e))]) (H' := [.blk g1 56 e.cells]) ?_ ?_
 ·refine go 5 ?_
  refine sxb 8 rfl (fun h8 p8 => ?_) (fun h8 p8 => ?_)
  ·refine go 22 ?_
   exact q_cut ⟨rfl, (congrArg (fun b => some (Value.bool b)) (by simp only [evBadR, h8, bS])), trivial⟩ rfl rfl
  ·refine go 5 ?_
   refine sxb 13 rfl (fun h13 p13 => ?_) (fun h13 p13 => ?_)
   ·refine go 17 ?_
    exact q_cut ⟨rfl, (congrArg (fun b => some (Value.bool b)) (by simp only [evBadR, h8, h13, bS])), trivial⟩ rfl rfl
   ·refine go 5 ?_
    refine sxb 18 rfl (fun h18 p18 => ?_) (fun h18 p18 => ?_)
    ·refine go 12 ?_
     exact q_cut ⟨rfl, (congrArg (fun b => some (Value.bool b)) (by simp only [evBadR, h8, h13, h18, bS])), trivial⟩ rfl rfl
    ·refine go 5 ?_
     refine sxb 23 rfl (fun h23 p23 => ?_) (fun h23 p23 => ?_)
     ·refine go 7 ?_
      exact q_cut ⟨rfl, (congrArg (fun b => some (Value.bool b)) (by simp only [evBadR, h8, h13, h18, h23, bS])), trivial⟩ rfl rfl
     ·refine go 3 ?_
      refine o_yes rfl rfl h23 (o_callV (name05 _ _ hs.1) rfl rfl ?_)
      refine go 4 ?_
      exact q_cut ⟨rfl, (congrArg (fun b => some (Value.bool b)) (by simp only [evBadR, h8, h13, h18, h23, bS])), trivial⟩ rfl rfl
 ·refine cb rfl (fun h28 p28 => ?_) (fun h28 p28 => ?_)
  ·refine go 7 ?_
   refine fin1 rfl rfl ?_
   exact q_v (congrArg Value.bool (by rw [← validER_eq]; simp only [validER, h28]; rfl))
  ·refine go 11 ?_
   refine o_val rfl (v_build (pl := [(0, 1), (1, 1), (2, 1), (3, 1), (4, 1), (5, 1), (6, 1), (7, 1), (8, 6)]) he he rfl rfl) ?_
   refine go 1 ?_
   refine o_alloc he rfl (fun g3 => ?_)
   refine go 1 ?_
   refine o_stw _ he rfl rfl rfl rfl rfl rfl ?_
   refine go 8 ?_
   refine c_cut (I' := I) (L' := [(1, .pointer (some ⟨g1, 0, none⟩)), (3, .pointer (some ⟨g3, 0, none⟩)), (4, .bool (goodR e))]) (H' := [.blk g3 56 (keepR e).cells, .blk g1 56 e.cells]) ?_ ?_
   ·refine go 13 ?_
    refine cb rfl (fun h38 p38 => ?_) (fun h38 p38 => ?_)
    ·refine go 6 ?_
     refine o_st1 he rfl rfl rfl rfl ?_
     refine go 6 ?_
     refine o_callV (name05 _ _ hs.2.1) rfl rfl ?_
     refine go 4 ?_
     exact q_cut ⟨rfl, rfl, (congrArg (fun b => some (Value.bool b)) (by simp only [goodR, p28, p38, h28, h38, Int.reduceEq, reduceIte, if_true, if_false, decide_true, decide_false, bS])), trivial⟩ (by rw [keepR, if_pos p38]; rfl) rfl
    ·refine go 6 ?_
     refine cb rfl (fun h46 p46 => ?_) (fun h46 p46 => ?_)
     ·refine go 6 ?_
      refine o_st1 he rfl rfl rfl rfl ?_
      refine go 8 ?_
      refine o_st1 he rfl rfl rfl rfl ?_
      refine go 6 ?_
      refine o_callV (name05 _ _ hs.2.2.1) rfl rfl ?_
      refine go 1 ?_
      refine sxb 57 rfl (fun h57 p57 => ?_) (fun h57 p57 => ?_)
      ·refine go 3 ?_
       refine o_yes rfl rfl h57 (o_callV (name05 _ _ hs.2.2.2.1) rfl rfl ?_)
       refine go 2 ?_
       refine sxb 62 rfl (fun h62 p62 => ?_) (fun h62 p62 => ?_)
       ·refine go 10 ?_
        exact q_cut ⟨rfl, rfl, (congrArg (fun b => some (Value.bool b)) (by simp only [goodR, p28, p38, p46, p57, p62, h28, h38, h46, h57, h62, Int.reduceEq, reduceIte, if_true, if_false, decide_true, decide_false, bS])), trivial⟩ (by rw [keepR, if_neg p38, if_pos p46]; rfl) rfl
       ·refine go 10 ?_
        exact q_cut ⟨rfl, rfl, (congrArg (fun b => some (Value.bool b)) (by simp only [goodR, p28, p38, p46, p57, p62, h28, h38, h46, h57, h62, Int.reduceEq, reduceIte, if_true, if_false, decide_true, decide_false, bS])), trivial⟩ (by rw [keepR, if_neg p38, if_pos p46]; rfl) rfl
      ·refine go 15 ?_
       exact q_cut ⟨rfl, rfl, (congrArg (fun b => some (Value.bool b)) (by simp only [goodR, p28, p38, p46, p57, h28, h38, h46, h57, Int.reduceEq, reduceIte, if_true, if_false, decide_true, decide_false, bS])), trivial⟩ (by rw [keepR, if_neg p38, if_pos p46]; rfl) rfl
     ·refine go 6 ?_
      refine cb rfl (fun h69 p69 => ?_) (fun h69 p69 => ?_)
      ·refine go 3 ?_
       refine o_v rfl (v_ldp (e.use.cells) m1 he rfl rfl rfl) ?_
       refine go 2 ?_
       refine o_st _ _ he rfl rfl rfl rfl rfl rfl rfl ?_
       refine go 4 ?_
       refine o_v rfl (v_ldp (e.use.cells) m1 he rfl rfl rfl) ?_
       refine go 1 ?_
       refine o_callV (ref09Use _ e.use) rfl rfl ?_
       refine go 4 ?_
       exact q_cut ⟨rfl, rfl, (congrArg (fun b => some (Value.bool b)) (by simp only [goodR, p28, p38, p46, p69, h28, h38, h46, h69, Int.reduceEq, reduceIte, if_true, if_false, decide_true, decide_false, bS])), trivial⟩ (by rw [keepR, if_neg p38, if_neg p46, if_pos p69]; rfl) rfl
      ·refine go 6 ?_
       refine cb rfl (fun h77 p77 => ?_) (fun h77 p77 => ?_)
       ·refine go 6 ?_
        refine o_st1 he rfl rfl rfl rfl ?_
        refine go 8 ?_
        refine o_st1 he rfl rfl rfl rfl ?_
        refine go 6 ?_
        refine o_callV (name05 _ _ hs.2.2.2.2.1) rfl rfl ?_
        refine go 1 ?_
        refine sxb 88 rfl (fun h88 p88 => ?_) (fun h88 p88 => ?_)
        ·refine go 6 ?_
         refine sxb 94 rfl (fun h94 p94 => ?_) (fun h94 p94 => ?_)
         ·refine go 9 ?_
          exact q_cut ⟨rfl, rfl, (congrArg (fun b => some (Value.bool b)) (by simp only [goodR, p28, p38, p46, p69, p77, p88, p94, h28, h38, h46, h69, h77, h88, h94, Int.reduceEq, reduceIte, if_true, if_false, decide_true, decide_false, bS])), trivial⟩ (by rw [keepR, if_neg p38, if_neg p46, if_neg p69, if_pos p77]; rfl) rfl
         ·refine go 9 ?_
          exact q_cut ⟨rfl, rfl, (congrArg (fun b => some (Value.bool b)) (by simp only [goodR, p28, p38, p46, p69, p77, p88, p94, h28, h38, h46, h69, h77, h88, h94, Int.reduceEq, reduceIte, if_true, if_false, decide_true, decide_false, bS])), trivial⟩ (by rw [keepR, if_neg p38, if_neg p46, if_neg p69, if_pos p77]; rfl) rfl
        ·refine go 15 ?_
         exact q_cut ⟨rfl, rfl, (congrArg (fun b => some (Value.bool b)) (by simp only [goodR, p28, p38, p46, p69, p77, p88, h28, h38, h46, h69, h77, h88, Int.reduceEq, reduceIte, if_true, if_false, decide_true, decide_false, bS])), trivial⟩ (by rw [keepR, if_neg p38, if_neg p46, if_neg p69, if_pos p77]; rfl) rfl
       ·refine go 3 ?_
        exact q_cut ⟨rfl, rfl, (congrArg (fun b => some (Value.bool b)) (by simp only [goodR, p28, p38, p46, p69, p77, h28, h38, h46, h69, h77, Int.reduceEq, reduceIte, if_true, if_false, decide_true, decide_false, bS])), trivial⟩ (by rw [keepR, if_neg p38, if_neg p46, if_neg p69, if_neg p77]; rfl) rfl
   ·refine go 4 ?_
    refine sxb 101 rfl (fun h101 p101 => ?_) (fun h101 p101 => ?_)
    ·refine go 2 ?_
     refine o_cons (o_yes rfl rfl h101 (o_val rfl (v_steql T.eqg_56 (eqS_Evt (keepR e) e) rfl rfl) ?_))
     refine go 5 ?_
     refine fin1 rfl rfl ?_
     exact q_v (congrArg Value.bool (by rw [← validER_eq]; simp only [validER, h28, h101, bS]))
    ·refine go 8 ?_
     refine fin1 rfl rfl ?_
     exact q_v (congrArg Value.bool (by rw [← validER_eq]; simp only [validER, h28, h101, bS]))

end Go.Proofs.YtoadjlmbdliceaaGreat

/- Walks, printed by a program out of the code of the functions: each theorem is a contract of one function. -/
namespace Go.Proofs.YtoadjlmbdliceaaGreat
open Go Go.Sx
set_option linter.all false
set_option maxRecDepth 20000
set_option maxHeartbeats 4000000
instance T.by_56 : Has (bytesK Tryz.prog 56) ([.int .i64 0, .int .i64 0, .string ⟨#[]⟩, .string ⟨#[]⟩, .string ⟨#[]⟩, .string ⟨#[]⟩, .string ⟨#[]⟩, .string ⟨#[]⟩, .int .i64 0, .int .i64 0, .int .i64 0, .int .i64 0, .int .i64 0, .int .i64 0], 14, 160) := ⟨by kernel_rfl⟩
end Go.Proofs.YtoadjlmbdliceaaGreat

/- Histories: what the course of picked events does. -/
set_option linter.all false
namespace Go.Sx
open Go
section
variable {α β : Type} [Day α] [Day β]
theorem insD_map (f : α → β) (hf : ∀ x, Day.day (f x) = Day.day x) (e : α) : ∀ l : List α, (insD e l).map f = insD (f e) (l.map f)
  | [] => rfl
  | x :: r => by
    simp only [insD, List.map_cons, hf]
    split
    · rfl
    · rw [List.map_cons, insD_map f hf e r]
theorem sortF_map (f : α → β) (hf : ∀ x, Day.day (f x) = Day.day x) : ∀ l : List α, (sortF l).map f = sortF (l.map f)
  | [] => rfl
  | x :: r => by
    show (insD x (sortF r)).map f = insD (f x) (sortF (r.map f))
    rw [insD_map f hf, sortF_map f hf r]
theorem insD_first {e : α} {l : List α} (h : ∀ x ∈ l, Day.day e ≤ Day.day x) : insD e l = e :: l := by
  cases l with
  | nil => rfl
  | cons x r => simp only [insD]; rw [if_pos (h x (by simp))]
theorem insD_filt (p : α → Bool) (e : α) : ∀ {l : List α}, Srtd l → (insD e l).filter p = if p e = true then insD e (l.filter p) else l.filter p
  | [], _ => by by_cases h : p e = true <;> simp [insD, h]
  | x :: r, hs => by
    have hs' := List.pairwise_cons.1 hs
    simp only [insD]
    by_cases hd : Day.day e ≤ Day.day x
    · rw [if_pos hd, List.filter_cons]
      by_cases h : p e = true
      · rw [if_pos h, if_pos h, insD_first]
        intro y hy
        rcases List.mem_cons.1 (List.mem_filter.1 hy).1 with rfl | hy
        · exact hd
        · exact Int.le_trans hd (hs'.1 y hy)
      · rw [if_neg h, if_neg h]
    · rw [if_neg hd, List.filter_cons, insD_filt p e hs'.2, List.filter_cons]
      by_cases h : p e = true
      · rw [if_pos h, if_pos h]
        by_cases hx : p x = true
        · rw [if_pos hx, if_pos hx]; simp only [insD]; rw [if_neg hd]
        · rw [if_neg hx, if_neg hx]
      · rw [if_neg h, if_neg h]
theorem sortF_filt (p : α → Bool) : ∀ l : List α, (sortF l).filter p = sortF (l.filter p)
  | [] => rfl
  | x :: r => by
    show (insD x (sortF r)).filter p = _
    rw [insD_filt p x (sortF_srt r), sortF_filt p r, List.filter_cons]
    split <;> rfl
end
/-- the state that events lead to, if they are possible -/
def runsTo (c : List Kind) : List Part → List Evt → Option (List Part)
  | st, [] => some st
  | st, e :: r => if (applyF c st e).2 = 0 then runsTo c (applyF c st e).1 r else none
theorem follow_ok (c : List Kind) : ∀ (l : List Pkd) (st : List Part), decide ((followGo c st l).2 = 0) = (runsTo c st (l.map Pkd.e)).isSome
  | [], _ => rfl
  | p :: r, st => by
    simp only [List.map_cons, runsTo, followGo]
    split
    · exact follow_ok c r _
    · rename_i h; simp [h]
theorem follow_app (c : List Kind) : ∀ (a b : List Pkd) (st : List Part), followGo c st (a ++ b) = match runsTo c st (a.map Pkd.e) with | some s => followGo c s b | none => followGo c st a
  | [], _, _ => rfl
  | p :: r, b, st => by
    simp only [List.cons_append, List.map_cons, runsTo, followGo]
    split
    · rw [follow_app c r b]
    · rfl
end Go.Sx

/- Sorting what is picked; a callee that changes one thing and leaves memory behind. -/
set_option linter.all false
namespace Go.Sx
open Go
/-- what lies behind the elements in a block -/
structure Rst (k : Nat) where
  l : List (List Value)
  uk : Uk k l
theorem evCh_ukP (l : List Pkd) : Uk 15 (evCh l) := evCh_uk l
theorem evCh_flatP {I : IMap} (l : List Pkd) : FlatC I (evCh l) l := by
  induction l with
  | nil => exact .nil
  | cons e l ih => exact .cons rfl ih
theorem evCh_restP {l : List Pkd} {rest : List (List Value)} {i : Nat} (h : i < l.length) : (evCh l ++ rest)[i]? = some (Day.ch l[i]) := by
  rw [List.getElem?_append_left (by rw [evCh_len]; exact h)]; exact evCh_at h
section
variable {α : Type} [Day α]
theorem evCh_setR (l : List α) (rest : List (List Value)) (i : Nat) (h : i < l.length) (e : α) : (evCh l ++ rest).set i (Day.ch e) = evCh (l.set i e) ++ rest := by
  rw [List.set_append_left _ _ (by rw [evCh_len]; exact h), evCh_set]
theorem evCh_swpR {l : List α} {rest : List (List Value)} {i j : Nat} (hi : i < l.length) (hj : j < l.length) : ((evCh l ++ rest).set i (Day.ch l[j])).set j (Day.ch l[i]) = evCh (swp l i j) ++ rest := by
  rw [evCh_setR _ _ _ hi, evCh_setR _ _ _ (by rw [List.length_set]; exact hj), swp_eq hi hj]
theorem evCh_swpR' {l : List α} {rest : List (List Value)} {i j : Nat} (hi : i < l.length) (hj : j < l.length) (hij : i ≠ j) : ((evCh l ++ rest).set j (Day.ch l[i])).set i (Day.ch l[j]) = evCh (swp l i j) ++ rest := by
  rw [evCh_setR _ _ _ hj, evCh_setR _ _ _ (by rw [List.length_set]; exact hi), swp_eq hi hj, List.set_comm _ _ hij.symm]
end
theorem evCh_ofP {I : IMap} {xss : List (List Value)} {l : List Pkd} (h : FlatC I xss l) : xss = evCh l := by
  induction h with
  | nil => rfl
  | cons h1 _ ih => rw [ih]; simp only [evCh, List.map_cons]; rw [show _ = _ from h1]; rfl
theorem subI_neg {a b : Int} : a - b < 0 ↔ a < b := by omega
theorem day_ltP {l : List Pkd} {i j : Nat} {hi : i < l.length} {hj : j < l.length} (h : Day.day l[i] - Day.day l[j] < 0) : dayAt l i < dayAt l j := by
  rw [subI_neg] at h; rw [dayAt_eq hi, dayAt_eq hj]; exact h
theorem day_geP {l : List Pkd} {i j : Nat} {hi : i < l.length} {hj : j < l.length} (h : ¬ Day.day l[i] - Day.day l[j] < 0) : dayAt l j ≤ dayAt l i := by
  rw [subI_neg] at h; rw [dayAt_eq hi, dayAt_eq hj]; omega
section
variable {P : Program} {ρ : Option Nat} {n : Sz} {E : Ent} {I I' : IMap} {L : LL} {H : List Res} {Q : Exit → Act → World → Prop} {ops : Array Oper} {K : Act → World → Prop} {w0 : World}
variable {d ty : Nat} {pos : String} {af : Array Edge} {fo : Operand} {as_ : List Operand} {ats : Array TypeId} {f : FuncId} {args : List Value} {r r' : Res} {X : List Nat}
/-- a contract: one thing of the caller's own is changed, and there is new memory -/
def FnG (P : Program) (f : FuncId) (args : Array Value) (I : IMap) (r : Res) (p : Value → IMap → Res → Prop) : Prop := FnH P f args I [r] fun u I' H' => ∃ r', H' = [r'] ∧ p u I' r'
theorem o_callG {p : Value → IMap → Res → Prop} (hc : FnG P f args.toArray I r p) (h : callArgs L fo as_ = some (f, args)) (hd : Nat.blt d n.sz = true) (k : ∀ v I' r', ILe I I' → p v I' r' → SX n E I' ((d, v) :: L) (r' :: H) K) :
    SX n E I L (r :: H) (one P ops Q ⟨some d, .call { callee := .value fo, args := as_.toArray, argTypes := ats }, ty, pos, af, none⟩ K) :=
  o_callH (Hc := [r]) (H0 := H) hc h hd fun u I' H' hI hp => by obtain ⟨r', rfl, h1⟩ := hp; exact k u I' r' hI h1
theorem q_g {v : Value} {p : Value → IMap → Res → Prop} (h : p v I r) : SX n E I L [r] fun _ w => Post E (fun u' I' H' => ∃ r', H' = [r'] ∧ p u' I' r') (.returned v) w := q_post (fun _ m => m) ⟨r, rfl, h⟩
theorem FnX.of_V {args : Array Value} {v : Value} {t k : Nat} (h : FnV P f args I v) : FnX P f args I [] (fun u r => u = v ∧ r = .row (.slice none 0 0) t k 0 []) :=
  ⟨fun w m => (h.go w m).mono fun _ _ ⟨u, I', H', he, hm, hq⟩ => by
    obtain ⟨rfl, rfl, rfl⟩ := hq
    exact ⟨_, _, _, he, hm.nilrow t k, rfl, _, rfl, rfl, rfl⟩⟩
theorem FnX.back {args : Array Value} {g e k m cap : Nat} {xss yss rest : List (List Value)} {p : Value → Res → Prop} (hU : Uk k yss) (hR : Uk k rest) (hm : yss.length = m) (hc : m + rest.length = cap) (hl : cap ≤ maxLen)
    (h : FnX P f args I [.blk g e (xss ++ rest).flatten] (fun u r => p u (.row (.slice (some ⟨g, 0, none⟩) m cap) e k m yss.flatten) ∧ r = .blk g e (yss ++ rest).flatten)) : FnX P f args I [.blk g e (xss ++ rest).flatten] p :=
  ⟨fun w m' => (h.go w m').mono fun _ w' ⟨u, I', H', he, hm', hq⟩ => by
    obtain ⟨rfl, r', rfl, hp, rfl⟩ := hq
    refine ⟨_, _, _, he, ?_, rfl, _, rfl, hp⟩
    have hb : w'.heap[g]? = some (.cells (yss ++ rest).flatten.toArray e (0, 0)) := hm'.blk
    exact hm'.step rfl rfl rfl (Nat.le_refl _) (fun _ _ _ => rfl) (IsRow.shut hb hU hR hm hc hl) (fun g' hg' => .inl hg')⟩
theorem FnX.of_rowV {args : Value → List Value} {p : Value → Res → Prop} {v : Value} {e k m : Nat} {xss : List (List Value)} (hU : Uk k xss) (hm : xss.length = m)
    (h0 : m = 0 → v = .slice none 0 0 → FnX P f (args (.slice none 0 0)).toArray I [] p)
    (h1 : ∀ g cap rest, v = .slice (some ⟨g, 0, none⟩) m cap → Uk k rest → m + rest.length = cap → cap ≤ maxLen → FnX P f (args (.slice (some ⟨g, 0, none⟩) m cap)).toArray I [.blk g e (xss ++ rest).flatten] p) : FnX P f (args v).toArray I [.row v e k m xss.flatten] p := by
  refine ⟨fun w mm => ?_⟩
  have hr : IsRow (look' w) v e k m xss.flatten := mm.holds (.row v e k m xss.flatten) (List.mem_cons_self ..)
  rcases hr.open_ hU hm with ⟨h2, h3⟩ | ⟨g, cap, rest, h2, h3, h4, h5, h6⟩
  · subst h3
    exact (h0 h2 rfl).go w mm.drop
  · subst h2
    exact (h1 g cap rest rfl h3 h4 h5).go w (mm.step rfl rfl rfl (Nat.le_refl _) (fun _ _ _ => rfl) h6 (fun g' hg' => .inl hg'))
end
/-! picking -/
theorem pick_len (day : Int) (l : List Rep) (ch : List Int) (i : Nat) : (pickF day l ch i).length ≤ i := by
  unfold pickF
  exact Nat.le_trans (List.length_filterMap_le _ _) (by simp)
section
variable {day : Int} {l : List Rep} {ch : List Int} {i : Nat} {out : List Pkd}
theorem pk_no (h1 : i < l.length) (h2 : i < ch.length) (hw : pickF day l ch i = out) (h : optAt day l[i] ch[i] = none) : pickF day l ch (i + 1) = out := by
  rw [pick_succ, hw, pkd, at2_eq h1 h2, h]; simp
theorem pk_neg (h1 : i < l.length) (h2 : i < ch.length) (hw : pickF day l ch i = out) (h : ¬ 0 ≤ ch[i]) : pickF day l ch (i + 1) = out := pk_no h1 h2 hw (if_neg h)
theorem pk_big (h1 : i < l.length) (h2 : i < ch.length) (hw : pickF day l ch i = out) (h : ¬ ch[i] < (l[i].options.length : Nat)) : pickF day l ch (i + 1) = out := pk_no h1 h2 hw (by
  unfold optAt
  split
  · rw [List.getElem?_eq_none (by omega)]
  · rfl)
theorem pk_late (h1 : i < l.length) (h2 : i < ch.length) (hw : pickF day l ch i = out) (hk : ch[i].toNat < l[i].options.length) (h : ¬ l[i].options[ch[i].toNat].day < day) : pickF day l ch (i + 1) = out := pk_no h1 h2 hw (by
  unfold optAt
  split
  · simp only [List.getElem?_eq_getElem hk]; rw [if_neg h]
  · rfl)
theorem pk_yes (h1 : i < l.length) (h2 : i < ch.length) (hw : pickF day l ch i = out) (h0 : 0 ≤ ch[i]) (hk : ch[i].toNat < l[i].options.length) (h : l[i].options[ch[i].toNat].day < day) (hv : 0 ≤ l[i].options[ch[i].toNat].day ∧ l[i].options[ch[i].toNat].day ≤ 40000) :
    pickF day l ch (i + 1) = out ++ [⟨l[i].options[ch[i].toNat], i, hv.1, hv.2⟩] := by
  have ho : optAt day l[i] ch[i] = some l[i].options[ch[i].toNat] := by
    unfold optAt
    rw [if_pos h0]
    simp only [List.getElem?_eq_getElem hk]; rw [if_pos h]
  rw [pick_succ, hw, pkd, at2_eq h1 h2, ho]
  simp [hv]
end
theorem follow_step {c : List Kind} {st : List Part} {l : List Pkd} {i : Nat} (hi : i < l.length) : followGo c st (l.drop i) = if (applyF c st l[i].e).2 = 0 then followGo c (applyF c st l[i].e).1 (l.drop (i + 1)) else (l[i].rep, (applyF c st l[i].e).2) := by
  rw [List.drop_eq_getElem_cons hi]; rfl
theorem open_succ (l : List Rep) (ch : List Int) (i : Nat) : openDays l ch (i + 1) = openDays l ch i ++ ((at2 (fun r k => if k < 0 then r.options.map Evt.day else []) l ch i).getD []) := by
  rw [openDays, List.range_succ, List.flatMap_append, openDays]; simp
/-- what is open up to an option -/
def openTo (l : List Rep) (ch : List Int) (i j : Nat) : List Int := openDays l ch i ++ ((at2 (fun r k => if k < 0 then (r.options.take j).map Evt.day else []) l ch i).getD [])
theorem openTo_zero {l : List Rep} {ch : List Int} {i : Nat} : openTo l ch i 0 = openDays l ch i := by
  unfold openTo at2
  split
  · simp
  · simp
theorem openTo_skip {l : List Rep} {ch : List Int} {i j : Nat} (h1 : i < l.length) (h2 : i < ch.length) (h : ¬ ch[i] < 0) (j' : Nat) : openTo l ch i j = openTo l ch i j' := by
  unfold openTo; rw [at2_eq h1 h2, at2_eq h1 h2]; simp [h]
theorem openTo_step {l : List Rep} {ch : List Int} {i j : Nat} (h1 : i < l.length) (h2 : i < ch.length) (h : ch[i] < 0) (hj : j < l[i].options.length) : openTo l ch i (j + 1) = openTo l ch i j ++ [l[i].options[j].day] := by
  unfold openTo; rw [at2_eq h1 h2, at2_eq h1 h2]; simp only [if_pos h, Option.getD_some]
  rw [← take_succ_of hj, List.map_append, List.append_assoc]; rfl
theorem openTo_all {l : List Rep} {ch : List Int} {i : Nat} (h1 : i < l.length) (h2 : i < ch.length) : openTo l ch i l[i].options.length = openDays l ch (i + 1) := by
  rw [open_succ, openTo, at2_eq h1 h2, at2_eq h1 h2]; simp [List.take_length]
theorem open_pre {l : List Rep} {ch : List Int} {n i : Nat} (h : i ≤ n) : openDays l ch i <+: openDays l ch n := by
  induction n with
  | zero => obtain rfl : i = 0 := by omega
            exact List.prefix_rfl
  | succ n ih =>
    rcases Nat.lt_or_ge n i with hi | hi
    · obtain rfl : i = n + 1 := by omega
      exact List.prefix_rfl
    · exact (ih hi).trans (by rw [open_succ]; exact List.prefix_append _ _)
theorem openTo_pre {l : List Rep} {ch : List Int} {i j : Nat} (h1 : i < l.length) (h2 : i < ch.length) (h : ch[i] < 0) (hj : j < l[i].options.length) : openTo l ch i j ++ [l[i].options[j].day] <+: openDays l ch l.length := by
  rw [← openTo_step h1 h2 h hj]
  refine List.IsPrefix.trans ?_ (open_pre (i := i + 1) (by omega))
  rw [← openTo_all h1 h2]
  unfold openTo
  rw [at2_eq h1 h2, at2_eq h1 h2]
  simp only [if_pos h, Option.getD_some]
  refine (List.prefix_append_right_inj _).2 ?_
  rw [List.take_length, List.map_take]
  exact List.take_prefix _ _
theorem validRep_len {r : Rep} (h : validRep r = true) : 1 ≤ r.options.length ∧ r.options.length ≤ 4 := by
  simp only [validRep, Bool.and_eq_true, Bool.not_eq_true', Bool.or_eq_false_iff, decide_eq_false_iff_not] at h
  omega
theorem pick_mem {day : Int} {l : List Rep} {ch : List Int} {n : Nat} {p : Pkd} (h : p ∈ pickF day l ch n) : ∃ r ∈ l, p.e ∈ r.options := by
  rw [pickF, List.mem_filterMap] at h
  obtain ⟨i, _, hi⟩ := h
  unfold pkd at2 at hi
  split at hi
  · rename_i e he
    split at hi
    · cases hi
      split at he
      · rename_i r k h1 h2
        refine ⟨r, List.mem_of_getElem? h1, ?_⟩
        simp only [Option.join_some, optAt] at he
        split at he
        · split at he
          · rename_i e' h3
            split at he
            · cases he; exact List.mem_of_getElem? h3
            · cases he
          · cases he
        · cases he
      · simp at he
    · cases hi
  · cases hi
theorem given_all {c : List Kind} {l : List Rep} {ch : List Int} {n : Int} (h : givenF c l ch n = true) : ch.length = l.length ∧ ∀ r ∈ l, validRep r = true := by
  simp only [givenF, Bool.and_eq_true, Bool.not_eq_true', Bool.or_eq_false_iff, Bool.not_eq_false', decide_eq_true_eq] at h
  have hlc : ch.length = l.length := by omega
  refine ⟨hlc, fun r hr => ?_⟩
  obtain ⟨i, hi, rfl⟩ := List.getElem_of_mem hr
  have := allTo_at h.2 hi hi (by omega)
  simp only [chFine, Bool.not_eq_true', Bool.or_eq_false_iff, decide_eq_false_iff_not] at this
  cases hv : validRep l[i] with
  | true => rfl
  | false => exact absurd (by simp [chs, hv]) this.1.1
theorem least_snoc (l : List Int) (d : Int) : leastF (l ++ [d]) = if d < leastF l then d else leastF l := by
  rw [leastF, List.foldl_append]; rfl
/-- events as_ keys -/
def encE (e : Evt) : Value := .agg e.cells.toArray
end Go.Sx

/- Maps whose keys are structs of numbers, strings and truth values. -/
set_option linter.all false
namespace Go.Sx
open Go
/-- a key that can be hashed -/
def chkV (P : Program) : Nat → TypeId → Value → Bool
  | 0, _, _ => false
  | d + 1, t, x => match P.underlying t with
    | some .bool | some (.int _) | some .string => true
    | some (.struct fs) => match x with
      | .agg xs => fs.toList.all fun f => match partV P f.type xs.toList f.offset with | some v => chkV P d f.type v | none => false
      | _ => false
    | _ => false
theorem chkV_run {P : Program} {b : Bool} : ∀ (d : Nat) (t : TypeId) (v : Value), chkV P d t v = true → ∀ (n : Nat), d ≤ n → ∀ w : World, (Instr.checkKey b n t v).run P w = .ok () w
  | 0, _, _, h, _, _, _ => by simp [chkV] at h
  | d + 1, t, v, h, n, hn, w => by
    obtain ⟨n, rfl⟩ : ∃ q, n = q + 1 := ⟨n - 1, by omega⟩
    rw [chkV] at h
    rw [Instr.checkKey]
    split at h
    · rename_i hu; simp [run_underlying hu]
    · rename_i hu; simp [run_underlying hu]
    · rename_i hu; simp [run_underlying hu]
    · rename_i fs hu
      split at h
      · rename_i xs
        simp only [Sem.run_bind, run_underlying hu, Result.andThen_ok]
        rw [← Array.forIn_toList]
        have key : ∀ l : List Field, (∀ f ∈ l, (match partV P f.type xs.toList f.offset with | some v => chkV P d f.type v | none => false) = true) → ∀ w : World,
            (forIn l PUnit.unit fun f (_ : PUnit) => do
              if f.name ≠ "_" then do
                let __do_lift ← part f.type xs f.offset
                Instr.checkKey b n f.type __do_lift
                pure PUnit.unit
                pure (ForInStep.yield PUnit.unit)
              else do
                pure PUnit.unit
                pure (ForInStep.yield PUnit.unit) : Sem PUnit).run P w = .ok () w := by
          intro l
          induction l with
          | nil => intro _ w; simp
          | cons f l ih =>
            intro hl w
            have h1 := hl f (by simp)
            split at h1
            · rename_i v hv
              have e1 := partV_run hv w
              have e2 := chkV_run (b := b) d f.type v h1 n (by omega) w
              have e3 := ih (fun g hg => hl g (by simp [hg])) w
              rw [List.forIn_cons]
              by_cases hf : f.name ≠ "_"
              · simp only [if_pos hf, Sem.run_bind, e1, Result.andThen_ok, e2, Sem.run_pure]
                exact e3
              · simp only [if_neg hf, Sem.run_bind, Result.andThen_ok, Sem.run_pure]
                exact e3
            · cases h1
        have := key fs.toList (by rw [List.all_eq_true] at h; exact h) w
        rw [this]
        simp
      · cases h
    · cases h
def structK (P : Program) (kt : TypeId) : Bool := match P.underlying kt with
  | some (.struct _) => true
  | _ => false
theorem key_struct {κ : Type} [DecidableEq κ] {P : Program} {kt : TypeId} {cells : κ → List Value} (h : structK P kt = true) (he : ∀ p q, eqV P 9 kt (.agg (cells p).toArray) (.agg (cells q).toArray) = some (decide (p = q)))
    (hc : ∀ p, chkV P 9 kt (.agg (cells p).toArray) = true) (hb : ∀ p, (cells p).all (fun v => Instr.sameBits 9999 v v) = true) : KeyOK P kt (fun p => .agg (cells p).toArray) where
  find := by
    obtain ⟨fs, h1⟩ : ∃ fs, P.underlying kt = some (.struct fs) := by
      unfold structK at h
      split at h
      · rename_i fs hfs; exact ⟨fs, hfs⟩
      · cases h
    intro w k es kvs hes
    have key : ∀ (es : List MapEntry) (kvs : List (κ × Value)) (i : Nat), es.map (fun e => (e.key, e.val)) = emap (fun p => .agg (cells p).toArray) kvs → (Instr.findAsking kt (.agg (cells k).toArray) es i).run P w = .ok (mfind kvs k i) w := by
      intro es
      induction es with
      | nil => intro kvs i he; cases kvs <;> simp_all [emap, Instr.findAsking, mfind]
      | cons e es ih =>
        intro kvs i hes
        cases kvs with
        | nil => simp [emap] at hes
        | cons p kvs =>
          obtain ⟨k', v⟩ := p
          simp only [List.map_cons, emap, List.cons.injEq, Prod.mk.injEq] at hes
          obtain ⟨⟨h1, h2⟩, h3⟩ := hes
          have hr := eqV_run (P := P) 9 kt _ _ _ (he k k') 10000 (by omega) w
          simp only [Instr.findAsking, h1, Sem.run_bind, Op.equal, Op.maxDepth, hr, Result.andThen_ok]
          by_cases hk : k' = k
          · subst hk; simp [mfind, h2]
          · have : ¬ k = k' := fun e => hk e.symm
            simp only [this, decide_false, Bool.false_eq_true, if_false, mfind, if_neg hk]
            exact ih kvs (i + 1) h3
    simp only [Instr.findKey, Sem.run_bind, run_underlying h1, Result.andThen_ok]
    cases es with
    | nil => cases kvs <;> simp_all [emap, Instr.findNow, mfind]
    | cons e es =>
      have : Instr.findNow (.struct fs) (.agg (cells k).toArray) (e :: es) 0 = none := by simp [Instr.findNow, Instr.sameNow]
      simp only [this]
      exact key _ kvs 0 hes
  check := fun w b k => chkV_run 9 kt _ (hc k) 10000 (by omega) w
  same := by
    intro k
    show Instr.sameBits (9999 + 1) (.agg (cells k).toArray) (.agg (cells k).toArray) = true
    have := hb k
    rw [List.all_eq_true] at this
    simp only [Instr.sameBits, beq_self_eq_true, Bool.true_and, List.all_eq_true]
    intro p hp
    obtain ⟨i, hi, rfl⟩ := List.getElem_of_mem hp
    simp only [List.getElem_zip]
    exact this _ (List.getElem_mem _)
theorem bits_str (n : Nat) (s : ByteArray) : Instr.sameBits n (.string s) (.string s) = true := by
  have hs : (s == s) = true := by rw [ba_beq]; simp
  cases n <;> simp [Instr.sameBits, hs]
theorem bits_int (n : Nat) (k : IntKind) (i : Int) : Instr.sameBits n (.int k i) (.int k i) = true := by cases n <;> simp [Instr.sameBits]
end Go.Sx

/- Walks, printed by a program out of the code of the functions: each theorem is a contract of one function. -/
namespace Go.Proofs.YtoadjlmbdliceaaGreat
open Go Go.Sx
set_option linter.all false
set_option maxRecDepth 20000
set_option maxHeartbeats 4000000
instance T.elt_25 : Has (eltK Tryz.prog 25) (47, 2) := ⟨by kernel_rfl⟩
instance T.elt_28 : Has (eltK Tryz.prog 28) (3, 1) := ⟨by kernel_rfl⟩
instance T.fld_47_0 : Has (fldK Tryz.prog 47 0) (0, false, 1) := ⟨by kernel_rfl⟩
instance T.fld_47_1 : Has (fldK Tryz.prog 47 1) (1, false, 1) := ⟨by kernel_rfl⟩
instance T.ty_25 : Has (tyK Tryz.prog 25) (false, 1) := ⟨by kernel_rfl⟩
instance T.ty_28 : Has (tyK Tryz.prog 28) (false, 1) := ⟨by kernel_rfl⟩
instance T.ty_45 : Has (tyK Tryz.prog 45) (false, 1) := ⟨by kernel_rfl⟩
instance T.ty_47 : Has (tyK Tryz.prog 47) (true, 2) := ⟨by kernel_rfl⟩
instance T.und_25 : Has (Tryz.prog.underlying 25) (.slice 47) := ⟨by kernel_rfl⟩
instance T.und_28 : Has (Tryz.prog.underlying 28) (.slice 3) := ⟨by kernel_rfl⟩
instance T.und_78 : Has (Tryz.prog.underlying 78) (.map 56 4) := ⟨by kernel_rfl⟩
instance T.zero_47 : Has (zeroK Tryz.prog 47) [.slice none 0 0, .bool false] := ⟨by kernel_rfl⟩
theorem keyEvt : KeyOK Tryz.prog 56 encE := key_struct (cells := Evt.cells) (by kernel_rfl) (fun p q => eqS_Evt p q) (fun p => by kernel_rfl) (fun p => by simp [Evt.cells, bits_str, bits_int])

theorem repValid (I : IMap) (r : Rep) (S : Option Addr) (d : Nat) (hr : RdS I (.slice S r.options.length d) r.options) (hs : ∀ e ∈ r.options, SmE e) :
    FnV Tryz.prog 28 #[.agg (r.cells (.slice S r.options.length d)).toArray] I (.bool (validRep r)) := by
 have hSA : RdA I S r.options := (by obtain ⟨_, _, e, h, _⟩ := hr; cases e; exact h)
 have hl4 : d ≤ 9223372036854775807 := (by obtain ⟨_, _, e, h, h1, h2⟩ := hr; cases e; exact h2)
 have hl5 := hr.lenLe
 refine enter Tryz.func28 Tryz.call28 rfl Tryz.ntmps28 rfl (fun w0 => ?_)
 refine go 3 ?_
 refine o_box _ rfl rfl rfl (fun g1 => ?_)
 refine go 5 ?_
 refine c_cut (I' := I) (L' := [(1, .pointer (some ⟨g1, 0, none⟩)), (15, .bool (decide (((r.options.length : Nat) : Int) = 0) || decide ((4 : Int) < (r.options.length : Nat))))]) (H' := [.blk g1 47 (r.cells (.slice S r.options.length d))]) ?_ ?_
 ·refine go 6 ?_
  refine sxb 10 rfl (fun h10 p10 => ?_) (fun h10 p10 => ?_)
  ·refine go 7 ?_
   exact q_cut ⟨rfl, (congrArg (fun b => some (Value.bool b)) (by simp only [h10, bS])), trivial⟩ rfl rfl
  ·refine go 7 ?_
   exact q_cut ⟨rfl, (congrArg (fun b => some (Value.bool b)) (by simp only [h10, bS])), trivial⟩ rfl rfl
 ·refine cb rfl (fun h15 p15 => ?_) (fun h15 p15 => ?_)
  ·refine go 7 ?_
   refine fin1 rfl rfl ?_
   exact q_v (congrArg Value.bool (by simp only [validRep, h15]; rfl))
  ·refine go 5 ?_
   refine o_map0 (encE) he rfl (fun r16 => ?_)
   refine go 13 ?_
   refine c_loop (α := Nat) 0 (fun i => I)
    (fun i => [(1, .pointer (some ⟨g1, 0, none⟩)), (3, .map (some r16)), (18, .slice S r.options.length d), (19, .int .i64 ((r.options.length : Nat) : Int)), (20, .int .i64 ((i : Nat) : Int))])
    (fun i => [.mp r16 (emap encE (kvsOf _root_.id (fun _ => Value.bool true) (r.options.take i))), .blk g1 47 (r.cells (.slice S r.options.length d))])
    (fun i => i ≤ r.options.length ∧ allP optFine r.options i = true)
    (fun i => r.options.length - i) ⟨Nat.zero_le _, rfl⟩ rfl sb rfl ?_
   intro i ⟨hi, hn⟩
   refine go 6 ?_
   refine cb rfl (fun h21 p21 => ?_) (fun h21 p21 => ?_)
   ·have hlt : i < r.options.length := by omega
    refine go 6 ?_
    obtain ⟨b22, o22, w22, e22, c22, r22⟩ := RdA.at_ hSA (i := i) hlt
    obtain rfl := r22
    refine o_v rfl (v_idx he rfl rfl e22 (i) (by omega) hlt) ?_
    refine o_v rfl (v_ldIa he rfl c22 rfl) ?_
    refine go 1 ?_
    refine o_alloc he rfl (fun g5 => ?_)
    refine go 1 ?_
    refine o_stw _ he rfl rfl rfl rfl rfl rfl ?_
    refine go 4 ?_
    refine c_cut (I' := I) (L' := [(1, .pointer (some ⟨g1, 0, none⟩)), (3, .map (some r16)), (18, .slice S r.options.length d), (19, .int .i64 ((r.options.length : Nat) : Int)), (20, .int .i64 ((i : Nat) : Int)), (5, .pointer (some ⟨g5, 0, none⟩)), (31, .bool (hit _root_.id (r.options.take i) r.options[i] || !validE r.options[i]))]) (H' := [.blk g5 56 r.options[i].cells, .mp r16 (emap encE (kvsOf _root_.id (fun _ => Value.bool true) (r.options.take i))), .blk g1 47 (r.cells (.slice S r.options.length d))]) ?_ ?_
    ·refine go 3 ?_
     refine o_v rfl (v_get m1 (keyEvt) he he (r.options[i]) rfl rfl (kvs_hit1 _root_.id _ _)) ?_
     refine go 1 ?_
     refine sxb 27 rfl (fun h27 p27 => ?_) (fun h27 p27 => ?_)
     ·refine go 6 ?_
      exact q_cut ⟨rfl, rfl, rfl, rfl, rfl, rfl, (congrArg (fun b => some (Value.bool b)) (by simp only [h21, h27, bS])), trivial⟩ rfl rfl
     ·refine go 2 ?_
      refine o_yes rfl rfl h27 (o_callV (evValid _ r.options[i] (hs _ (List.getElem_mem hlt))) rfl rfl ?_)
      refine go 4 ?_
      exact q_cut ⟨rfl, rfl, rfl, rfl, rfl, rfl, (congrArg (fun b => some (Value.bool b)) (by simp only [h21, h27, bS])), trivial⟩ rfl rfl
    ·refine cb rfl (fun h31 p31 => ?_) (fun h31 p31 => ?_)
     ·refine go 12 ?_
      refine fin1 rfl rfl ?_
      exact q_v (congrArg Value.bool (by simp only [validRep, h15, allP_not hlt (show optFine (r.options.take i) r.options[i] = false from (congrArg not h31).trans rfl), bS]))
     ·refine go 6 ?_
      have h31n : hit _root_.id (r.options.take i) r.options[i] = false := by revert h31; cases hit _root_.id (r.options.take i) r.options[i] <;> simp
      refine bring1 ?_
      refine o_mapPut (kvsOf _root_.id (fun _ => Value.bool true) (r.options.take (i + 1))) (keyEvt) he (r.options[i]) rfl rfl rfl ((kvs_put _root_.id (fun _ => Value.bool true) (r.options.take i) r.options[i] (hit_none h31n)).trans (by rw [take_succ_of hlt])) ?_
      refine go 8 ?_
      refine bring1 ?_
      refine sx_drop ?_
      exact q_next (i + 1) ⟨by omega, allP_succ hn hlt (show optFine (r.options.take i) r.options[i] = true from (congrArg not h31).trans rfl)⟩ (by omega) rfl sb rfl
   ·refine go 11 ?_
    refine fin1 rfl rfl ?_
    have e : i = r.options.length := (by omega)
    subst e
    exact q_v (congrArg Value.bool (by simp only [validRep, hn, h15]; rfl))

theorem repChoices (I : IMap) (r : Rep) (S : Option Addr) (d : Nat) (hr : RdS I (.slice S r.options.length d) r.options) (hs : ∀ e ∈ r.options, SmE e) :
    FnV Tryz.prog 32 #[.agg (r.cells (.slice S r.options.length d)).toArray] I (.int .i64 (chs r)) := by
 have hl5 := hr.lenLe
 refine enter Tryz.func32 Tryz.call32 rfl Tryz.ntmps32 rfl (fun w0 => ?_)
 refine go 3 ?_
 refine o_box _ rfl rfl rfl (fun g1 => ?_)
 refine go 9 ?_
 refine o_callV (repValid _ r S d hr hs) rfl rfl ?_
 refine go 4 ?_
 refine cb rfl (fun h3 p3 => ?_) (fun h3 p3 => ?_)
 ·refine go 8 ?_
  refine fin1 rfl rfl ?_
  exact q_v (congrArg (Value.int .i64) (by simp only [chs, show validRep r = false by simpa using h3, Bool.true_eq_false, Bool.false_eq_true, if_true, if_false]))
 ·have hl4 := validRep_len (r := r) (by simpa using h3)
  refine go 7 ?_
  refine cb rfl (fun h7 p7 => ?_) (fun h7 p7 => ?_)
  ·refine go 5 ?_
   refine o_v rfl (v_add rfl rfl ⟨by omega, by have := hl4; omega⟩) ?_
   refine go 6 ?_
   refine fin1 rfl rfl ?_
   exact q_v (congrArg (Value.int .i64) (by simp only [chs, show validRep r = true by simpa using h3, h7, Bool.true_eq_false, Bool.false_eq_true, if_true, if_false]))
  ·refine go 12 ?_
   refine fin1 rfl rfl ?_
   exact q_v (congrArg (Value.int .i64) (by simp only [chs, show validRep r = true by simpa using h3, h7, Bool.true_eq_false, Bool.false_eq_true, if_true, if_false]))

theorem hiGiven (I : IMap) (vc : Value) (c : List Kind) (hvc : RdS I vc c) (hsc : SmC c) (v : Value) (l : List Rep) (hv : RdS I v l) (hsl : ∀ r ∈ l, ∀ e ∈ r.options, SmE e) (w : Value) (ch : List Int) (hw : RdS I w ch) (n : Int) :
    FnV Tryz.prog 85 #[.agg #[vc], v, w, .int .i64 n] I (.bool (givenF c l ch n)) := by
 obtain ⟨A, c0, rfl, hA, hc, hm⟩ := hv
 obtain ⟨B, c1, rfl, hB, hc1, hm1⟩ := hw
 refine enter Tryz.func85 Tryz.call85 rfl Tryz.ntmps85 rfl (fun w0 => ?_)
 refine go 3 ?_
 refine o_box _ rfl rfl rfl (fun g4 => ?_)
 refine go 5 ?_
 refine c_cut (I' := I) (L' := [(4, .pointer (some ⟨g4, 0, none⟩)), (1, .slice A l.length c0), (2, .slice B ch.length c1), (3, .int .i64 n), (21, .bool (!validC c || !decide (((ch.length : Nat) : Int) = (l.length : Nat))))]) (H' := [.blk g4 24 [vc]]) ?_ ?_
 ·refine go 3 ?_
  refine o_callV (catValid _ vc c hvc hsc) rfl rfl ?_
  refine go 2 ?_
  refine sxb 15 rfl (fun h15 p15 => ?_) (fun h15 p15 => ?_)
  ·refine go 8 ?_
   exact q_cut ⟨rfl, rfl, rfl, rfl, (congrArg (fun b => some (Value.bool b)) (by simp only [h15, bS])), trivial⟩ rfl rfl
  ·refine go 8 ?_
   exact q_cut ⟨rfl, rfl, rfl, rfl, (congrArg (fun b => some (Value.bool b)) (by simp only [h15, bS])), trivial⟩ rfl rfl
 ·refine cb rfl (fun h21 p21 => ?_) (fun h21 p21 => ?_)
  ·refine go 7 ?_
   refine fin1 rfl rfl ?_
   exact q_v (congrArg Value.bool (by simp only [givenF, h21]; rfl))
  ·have hlc : ch.length = l.length := by revert h21; simp; omega
   refine go 11 ?_
   refine c_loop (α := Nat) 0 (fun i => I)
    (fun i => [(4, .pointer (some ⟨g4, 0, none⟩)), (1, .slice A l.length c0), (2, .slice B ch.length c1), (3, .int .i64 n), (22, .slice A l.length c0), (23, .int .i64 ((l.length : Nat) : Int)), (24, .int .i64 ((i : Nat) : Int))])
    (fun i => [.blk g4 24 [vc]])
    (fun i => i ≤ l.length ∧ allTo (chFine n) l ch i = true)
    (fun i => l.length - i) ⟨Nat.zero_le _, rfl⟩ rfl sb rfl ?_
   intro i ⟨hi, hn⟩
   refine go 6 ?_
   refine cb rfl (fun h25 p25 => ?_) (fun h25 p25 => ?_)
   ·have hlt : i < l.length := by omega
    have hlt2 : i < ch.length := by omega
    refine go 7 ?_
    obtain ⟨b27, o27, w27, e27, c27, r27⟩ := RdA.at_ hA (i := i) hlt
    obtain ⟨q27, rfl, S27, d27, rfl, hS27, hd27, hm27⟩ := r27
    refine o_v rfl (v_idx he rfl rfl e27 (i) (by omega) hlt) ?_
    refine o_v rfl (v_ldIa he rfl c27 rfl) ?_
    refine go 1 ?_
    refine o_alloc he rfl (fun g10 => ?_)
    refine go 2 ?_
    refine o_stw _ he rfl rfl rfl rfl rfl rfl ?_
    refine go 6 ?_
    refine o_callV (repChoices _ l[i] S27 d27 ⟨_, _, rfl, hS27, hd27, hm27⟩ (hsl _ (List.getElem_mem hlt))) rfl rfl ?_
    refine go 4 ?_
    refine c_cut (I' := I) (L' := [(4, .pointer (some ⟨g4, 0, none⟩)), (1, .slice A l.length c0), (2, .slice B ch.length c1), (3, .int .i64 n), (22, .slice A l.length c0), (23, .int .i64 ((l.length : Nat) : Int)), (24, .int .i64 ((i : Nat) : Int)), (48, .bool ((decide (chs l[i] = 0) || decide (ch[i] < n)) || decide (chs l[i] ≤ ch[i])))]) (H' := [.blk g4 24 [vc]]) ?_ ?_
    ·refine go 4 ?_
     refine sxb 33 rfl (fun h33 p33 => ?_) (fun h33 p33 => ?_)
     ·refine go 17 ?_
      refine sx_drop ?_
      exact q_cut ⟨rfl, rfl, rfl, rfl, rfl, rfl, rfl, (congrArg (fun b => some (Value.bool b)) (by simp only [h25, h33, bS])), trivial⟩ rfl rfl
     ·refine go 2 ?_
      obtain ⟨b36, o36, w36, e36, c36, r36⟩ := RdA.at_ hB (i := i) hlt2
      obtain rfl := r36
      refine o_cons (o_yes rfl rfl h33 (o_val rfl (v_idx he rfl rfl e36 (i) (by omega) hlt2) ?_))
      refine o_cons (o_yes rfl rfl h33 (o_val rfl (v_ldI he rfl (c36 0 _ rfl)) ?_))
      refine go 4 ?_
      refine sxb 41 rfl (fun h41 p41 => ?_) (fun h41 p41 => ?_)
      ·refine go 9 ?_
       refine sx_drop ?_
       exact q_cut ⟨rfl, rfl, rfl, rfl, rfl, rfl, rfl, (congrArg (fun b => some (Value.bool b)) (by simp only [h25, h33, h41, bS])), trivial⟩ rfl rfl
      ·refine go 2 ?_
       obtain ⟨b44, o44, w44, e44, c44, r44⟩ := RdA.at_ hB (i := i) hlt2
       obtain rfl := r44
       refine o_cons (o_yes rfl rfl h41 (o_val rfl (v_idx he rfl rfl e44 (i) (by omega) hlt2) ?_))
       refine o_cons (o_yes rfl rfl h41 (o_val rfl (v_ldI he rfl (c44 0 _ rfl)) ?_))
       refine go 5 ?_
       refine sx_drop ?_
       exact q_cut ⟨rfl, rfl, rfl, rfl, rfl, rfl, rfl, (congrArg (fun b => some (Value.bool b)) (by simp only [h25, h33, h41, bS])), trivial⟩ rfl rfl
    ·refine cb rfl (fun h48 p48 => ?_) (fun h48 p48 => ?_)
     ·refine go 11 ?_
      refine fin1 rfl rfl ?_
      exact q_v (congrArg Value.bool (by simp only [givenF, h21, allTo_not (f := chFine n) hlt hlt hlt2 (by simp only [chFine, h48]; rfl), bS]))
     ·refine go 8 ?_
      exact q_next (i + 1) ⟨by omega, allTo_succ hn hlt hlt2 (by simp only [chFine, h48]; rfl)⟩ (by omega) rfl sb rfl
   ·refine go 11 ?_
    refine fin1 rfl rfl ?_
    have e : i = l.length := (by omega)
    subst e
    exact q_v (congrArg Value.bool (by simp only [givenF, hn, h21]; rfl))

theorem hiDays (I : IMap) (A B : Option Addr) (a c b d : Nat) :
    FnI Tryz.prog 108 #[.slice A a c, .slice B b d] I (fun u J => ∃ g2 g3, u = .func (.func 126) #[] #[.pointer (some ⟨g2, 0, none⟩), .pointer (some ⟨g3, 0, none⟩)] ∧ ICells J g2 0 [.slice A a c] ∧ ICells J g3 0 [.slice B b d]) := by
 refine enter Tryz.func108 Tryz.call108 rfl Tryz.ntmps108 rfl (fun w0 => ?_)
 refine go 3 ?_
 refine o_box _ rfl rfl rfl (fun g2 => ?_)
 refine go 1 ?_
 refine o_box _ rfl rfl rfl (fun g3 => ?_)
 refine go 5 ?_
 refine bring1 ?_
 refine sx_pub (fun Ig2 jg2 cg2 => ?_)
 refine sx_pub (fun Ig3 jg3 cg3 => ?_)
 have cg2 := (cg2).le jg3
 refine o_v rfl (v_makeFunc rfl rfl) ?_
 refine go 4 ?_
 refine fin1 rfl rfl ?_
 exact q_i ⟨_, _, rfl, cg2, cg3⟩

theorem daysIt (I : IMap) (v : Value) (l : List Rep) (hv : RdS I v l) (w : Value) (ch : List Int) (hw : RdS I w ch) (hlc : ch.length = l.length) (g2 g3 : Nat) (c2 : ICells I g2 0 [v]) (c3 : ICells I g3 0 [w]) :
    FnIt Tryz.prog 126 [.pointer (some ⟨g2, 0, none⟩), .pointer (some ⟨g3, 0, none⟩)] I (fun _ vs (x : Int) => vs = [ci x]) (fun pre x => pre ++ [x] <+: openDays l ch l.length) (fun pre => pre = openDays l ch l.length) (fun _ => True) := by
 obtain ⟨A, c0, rfl, hA, hc, hm⟩ := hv
 obtain ⟨B, c1, rfl, hB, hc1, hm1⟩ := hw
 intro ly J I1 Hc hI1 hJm hY hJ0
 have hA := hA.le hI1
 have hB := hB.le hI1
 have c2 := c2.le hI1
 have c3 := c3.le hI1
 refine enter Tryz.func126 Tryz.call126 rfl Tryz.ntmps126 rfl (fun w0 => ?_)
 refine go 2 ?_
 refine o_v rfl (v_ldI he rfl (c2 0 _ rfl)) ?_
 refine go 5 ?_
 refine c_loop3 ((0 : Nat)) (I1) (Hc) (fun i I2 Hc => I2)
  (fun i I2 Hc => [(0, .func (.yield ly) #[] #[]), (1, .pointer (some ⟨g2, 0, none⟩)), (2, .pointer (some ⟨g3, 0, none⟩)), (8, .slice A l.length c0), (9, .int .i64 ((l.length : Nat) : Int)), (10, .int .i64 ((i : Nat) : Int))])
  (fun i I2 Hc => Hc)
  (fun i I2 Hc => i ≤ l.length ∧ ILe I1 I2 ∧ J true (openDays l ch i) I2 Hc)
  (fun i I2 Hc => l.length - i) ⟨Nat.zero_le _, ILe.refl _, hJ0⟩ rfl sb rfl ?_
 intro i I2 Hc ⟨hi, hI2, hJ⟩
 have hA := hA.le hI2
 have hB := hB.le hI2
 have c3 := c3.le hI2
 refine go 6 ?_
 refine cb rfl (fun h11 p11 => ?_) (fun h11 p11 => ?_)
 ·have hlt : i < l.length := by omega
  have hlt2 : i < ch.length := by omega
  refine go 7 ?_
  obtain ⟨b13, o13, w13, e13, c13, r13⟩ := RdA.at_ hA (i := i) hlt
  obtain ⟨q13, rfl, S13, d13, rfl, hS13, hd13, hm13⟩ := r13
  refine o_v rfl (v_idx he rfl rfl e13 (i) (by omega) hlt) ?_
  refine o_v rfl (v_ldIa he rfl c13 rfl) ?_
  refine go 1 ?_
  refine o_alloc he rfl (fun g5 => ?_)
  refine go 2 ?_
  refine o_stw _ he rfl rfl rfl rfl rfl rfl ?_
  refine go 11 ?_
  refine c_loop3 ((0 : Nat)) (I2) (Hc) (fun j I3 Hc3 => I3)
   (fun j I3 Hc3 => [(0, .func (.yield ly) #[] #[]), (1, .pointer (some ⟨g2, 0, none⟩)), (2, .pointer (some ⟨g3, 0, none⟩)), (8, .slice A l.length c0), (9, .int .i64 ((l.length : Nat) : Int)), (10, .int .i64 ((i : Nat) : Int)), (4, .int .i64 ((i : Nat) : Int)), (5, .pointer (some ⟨g5, 0, none⟩)), (16, .slice S13 l[i].options.length d13), (17, .int .i64 ((l[i].options.length : Nat) : Int)), (18, .int .i64 ((j : Nat) : Int))])
   (fun j I3 Hc3 => .blk g5 47 (l[i].cells (.slice S13 l[i].options.length d13)) :: Hc3)
   (fun j I3 Hc3 => j ≤ l[i].options.length ∧ ILe I2 I3 ∧ J true (openTo l ch i j) I3 Hc3)
   (fun j I3 Hc3 => l[i].options.length - j) ⟨Nat.zero_le _, ILe.refl _, by rw [openTo_zero]; exact hJ⟩ rfl sb rfl ?_
  intro j I3 Hc3 ⟨hj, hI3, hJ3⟩
  have hB := hB.le hI3
  have c3 := c3.le hI3
  have hS13 := hS13.le hI3
  refine go 6 ?_
  refine cb rfl (fun h19 p19 => ?_) (fun h19 p19 => ?_)
  ·have hlj : j < l[i].options.length := by omega
   refine go 6 ?_
   obtain ⟨b20, o20, w20, e20, c20, r20⟩ := RdA.at_ hS13 (i := j) hlj
   obtain rfl := r20
   refine o_v rfl (v_idx he rfl rfl e20 (j) (by omega) hlj) ?_
   refine o_v rfl (v_ldIa he rfl c20 rfl) ?_
   refine go 1 ?_
   refine o_alloc he rfl (fun g7 => ?_)
   refine go 1 ?_
   refine o_stw _ he rfl rfl rfl rfl rfl rfl ?_
   refine go 4 ?_
   refine o_v rfl (v_ldI he rfl (c3 0 _ rfl)) ?_
   refine go 1 ?_
   obtain ⟨b24, o24, w24, e24, c24, r24⟩ := RdA.at_ hB (i := i) hlt2
   obtain rfl := r24
   refine o_v rfl (v_idx he rfl rfl e24 (i) (by omega) hlt2) ?_
   refine o_v rfl (v_ldI he rfl (c24 0 _ rfl)) ?_
   refine go 2 ?_
   refine sxb 27 rfl (fun h27 p27 => ?_) (fun h27 p27 => ?_)
   ·refine go 4 ?_
    refine o_yes rfl rfl h27 (o_yield2 (l[i].options[j].day) hY (hJm _ _ _ _ _ (ILe.refl _) hJ3) (rfl) (openTo_pre hlt hlt2 p27 hlj) rfl rfl rfl (fun b31 I31 Hc31 j31 hJ31 => ?_))
    refine go 4 ?_
    refine cb rfl (fun h33 p33 => ?_) (fun h33 p33 => ?_)
    ·have hb31 : b31 = false := by simpa using h33
     refine go 9 ?_
     refine fin0 rfl ?_
     refine sx_drop ?_
     refine sx_drop ?_
     subst hb31
     exact q_it false _ hJ31 trivial
    ·have hb31 : b31 = true := by simpa using h33
     refine go 8 ?_
     refine sx_drop ?_
     exact q_next3 (j + 1) (I31) (Hc31) ⟨by omega, hI3.trans j31, by rw [openTo_step hlt hlt2 p27 hlj]; exact hb31 ▸ hJ31⟩ (by omega) rfl sb rfl
   ·refine go 8 ?_
    refine c_false rfl ?_
    refine go 8 ?_
    refine sx_drop ?_
    exact q_next3 (j + 1) (I3) (Hc3) ⟨by omega, hI3, by rw [openTo_skip hlt hlt2 p27 j]; exact hJ3⟩ (by omega) rfl sb rfl
  ·refine go 11 ?_
   refine sx_drop ?_
   exact q_next3 (i + 1) (I3) (Hc3) ⟨by omega, hI2.trans hI3, by rw [← openTo_all hlt hlt2]; exact (show j = l[i].options.length by omega) ▸ hJ3⟩ (by omega) rfl sb rfl
 ·have hil : i = l.length := by omega
  refine go 4 ?_
  refine end0 rfl ?_
  exact q_it true _ hJ (by rw [hil]; rfl)

end Go.Proofs.YtoadjlmbdliceaaGreat

/- Walks, printed by a program out of the code of the functions: each theorem is a contract of one function. -/
namespace Go.Proofs.YtoadjlmbdliceaaGreat
open Go Go.Sx
set_option linter.all false
set_option maxRecDepth 20000
set_option maxHeartbeats 4000000
instance T.by_142 : Has (bytesK Tryz.prog 142) ([.int .i64 0, .int .i64 0, .string ⟨#[]⟩, .string ⟨#[]⟩, .string ⟨#[]⟩, .string ⟨#[]⟩, .string ⟨#[]⟩, .string ⟨#[]⟩, .int .i64 0, .int .i64 0, .int .i64 0, .int .i64 0, .int .i64 0, .int .i64 0, .int .i64 0], 15, 168) := ⟨by kernel_rfl⟩
instance T.elt_140 : Has (eltK Tryz.prog 140) (142, 15) := ⟨by kernel_rfl⟩
instance T.fld_142_0 : Has (fldK Tryz.prog 142 0) (0, true, 14) := ⟨by kernel_rfl⟩
instance T.fld_142_1 : Has (fldK Tryz.prog 142 1) (14, false, 1) := ⟨by kernel_rfl⟩
instance T.pl_142 : Has (plK Tryz.prog 142) [(0, 14), (14, 1)] := ⟨by kernel_rfl⟩
instance T.ty_142 : Has (tyK Tryz.prog 142) (true, 15) := ⟨by kernel_rfl⟩
instance T.und_140 : Has (Tryz.prog.underlying 140) (.slice 142) := ⟨by kernel_rfl⟩
instance T.zero_142 : Has (zeroK Tryz.prog 142) [.int .i64 0, .int .i64 0, .string ⟨#[]⟩, .string ⟨#[]⟩, .string ⟨#[]⟩, .string ⟨#[]⟩, .string ⟨#[]⟩, .string ⟨#[]⟩, .int .i64 0, .int .i64 0, .int .i64 0, .int .i64 0, .int .i64 0, .int .i64 0, .int .i64 0] := ⟨by kernel_rfl⟩
instance T.zero_3 : Has (zeroK Tryz.prog 3) [.int .i64 0] := ⟨by kernel_rfl⟩
theorem swapRangeP (I : IMap) {rest : Rst 15} {cap : Nat} (l : List Pkd) (N : Nat) (hN : l.length = N) (g a b n : Nat) (f : FuncId) (h : a + n ≤ b) (hb : b + n ≤ l.length) (hl : l.length ≤ 1000000) :
    FnM Tryz.prog 209 #[.slice (some ⟨g, 0, none⟩) N cap, .int .i64 ((a : Nat) : Int), .int .i64 ((b : Nat) : Int), .int .i64 ((n : Nat) : Int), .func (.func f) #[] #[]] I (.blk g 142 (evCh (l) ++ rest.l).flatten) (.blk g 142 (evCh (swpN l a b n) ++ rest.l).flatten) := by
 refine enter Tryz.func209 Tryz.call209 rfl Tryz.ntmps209 rfl (fun w0 => ?_)
 refine go 6 ?_
 refine c_loop (α := Nat) 0 (fun i => I)
  (fun i => [(0, .slice (some ⟨g, 0, none⟩) N cap), (1, .int .i64 ((a : Nat) : Int)), (2, .int .i64 ((b : Nat) : Int)), (3, .int .i64 ((n : Nat) : Int)), (10, .int .i64 ((i : Nat) : Int))])
  (fun i => [.blk g 142 (evCh (swpN l a b i) ++ rest.l).flatten])
  (fun i => i ≤ n)
  (fun i => n - i) (Nat.zero_le _) rfl sb rfl ?_
 intro i hi
 refine go 8 ?_
 refine cb rfl (fun h13 p13 => ?_) (fun h13 p13 => ?_)
 ·have hlt : i < n := by omega
  have hm := swpN_len l a b i
  have h1 : a + i < (swpN l a b i).length := by omega
  have h2 : b + i < (swpN l a b i).length := by omega
  refine go 4 ?_
  refine d_start1 T.mixed ?_
  refine d_tv 0 rfl rfl (by kernel_rfl) rfl (.cons _ .slnil) rfl (v_move rfl) ?_
  refine d_tv 1 rfl rfl (by kernel_rfl) rfl (.cons _ .slnil) rfl (v_move rfl) ?_
  refine d_tv 2 rfl rfl (by kernel_rfl) rfl (.cons _ .slnil) rfl (v_move rfl) ?_
  refine d_tv 3 rfl rfl (by kernel_rfl) rfl (.cons _ .slnil) rfl (v_add rfl rfl ⟨by omega, by omega⟩) ?_
  refine d_tv 4 rfl rfl (by kernel_rfl) rfl (.cons _ .slnil) rfl (v_move rfl) ?_
  refine d_tv 5 rfl rfl (by kernel_rfl) rfl (.cons _ .slnil) rfl (v_move rfl) ?_
  refine d_tv 6 rfl rfl (by kernel_rfl) rfl (.cons _ .slnil) rfl (v_move rfl) ?_
  refine d_tv 7 rfl rfl (by kernel_rfl) rfl (.cons _ .slnil) rfl (v_add rfl rfl ⟨by omega, by omega⟩) ?_
  refine d_tv 8 rfl rfl (by kernel_rfl) rfl (.cons _ .slnil) rfl (v_move rfl) ?_
  refine d_tv 9 rfl rfl (by kernel_rfl) rfl (.cons _ .slnil) rfl (v_move rfl) ?_
  refine d_tv 10 rfl rfl (by kernel_rfl) rfl (.cons _ .slnil) rfl (v_move rfl) ?_
  refine d_tv 11 rfl rfl (by kernel_rfl) rfl (.cons _ .slnil) rfl (v_add rfl rfl ⟨by omega, by omega⟩) ?_
  refine d_tv 12 rfl rfl (by kernel_rfl) rfl (.cons _ .slnil) rfl (v_idx he rfl rfl rfl (b + i) (by omega) (by omega)) ?_
  refine d_tv 14 rfl rfl (by kernel_rfl) rfl (.cons _ .slnil) rfl (v_move rfl) ?_
  refine d_tv 15 rfl rfl (by kernel_rfl) rfl (.cons _ .slnil) rfl (v_move rfl) ?_
  refine d_tv 16 rfl rfl (by kernel_rfl) rfl (.cons _ .slnil) rfl (v_move rfl) ?_
  refine d_tv 17 rfl rfl (by kernel_rfl) rfl (.cons _ .slnil) rfl (v_add rfl rfl ⟨by omega, by omega⟩) ?_
  refine d_tv 18 rfl rfl (by kernel_rfl) rfl (.cons _ .slnil) rfl (v_idx he rfl rfl rfl (a + i) (by omega) (by omega)) ?_
  refine d_two 13 19 (by kernel_rfl) rfl rfl ?_ ?_
  ·refine o_val rfl (v_ldc m0 ((evCh_ukP _).append rest.uk) he rfl (b + i) (by omega) (evCh_restP h2)) ?_
   refine d_on (fun _ m => m.keeps (.cons _ .slnil)) ?_
   refine d_one 19 (by kernel_rfl) rfl ?_
   refine o_val rfl (v_ldc m0 ((evCh_ukP _).append rest.uk) he rfl (a + i) (by omega) (evCh_restP h1)) ?_
   refine d_on (fun _ m => m.keeps (.cons _ .slnil)) ?_
   refine d_tv 20 rfl rfl (by kernel_rfl) rfl (.cons _ .slnil) rfl (v_idx he rfl rfl rfl (a + i) (by omega) (by omega)) ?_
   refine d_one 21 (by kernel_rfl) rfl ?_
   refine o_stc _ (a + i) (by first | exact (evCh_ukP _).append rest.uk | exact ((evCh_ukP _).append rest.uk).set rfl _) he rfl rfl rfl rfl rfl (by omega) (by simp [evCh_len]; omega) ?_
   refine d_on (fun _ m => m.keeps (.cons _ .slnil)) ?_
   refine d_tv 22 rfl rfl (by kernel_rfl) rfl (.cons _ .slnil) rfl (v_idx he rfl rfl rfl (b + i) (by omega) (by omega)) ?_
   refine d_one 23 (by kernel_rfl) rfl ?_
   refine o_stc _ (b + i) (by first | exact (evCh_ukP _).append rest.uk | exact ((evCh_ukP _).append rest.uk).set rfl _) he rfl rfl rfl rfl rfl (by omega) (by simp [evCh_len]; omega) ?_
   refine d_on (fun _ m => m.keeps (.cons _ .slnil)) ?_
   refine d_done (by kernel_rfl) ?_
   refine go 8 ?_
   exact q_next (i + 1) (by omega) (by omega) rfl sb (by rw [swpN]; first | rw [← evCh_swpR h1 h2] | rw [← evCh_swpR' h1 h2 (by omega)])
  ·refine o_val rfl (v_ldc m0 ((evCh_ukP _).append rest.uk) he rfl (a + i) (by omega) (evCh_restP h1)) ?_
   refine d_on (fun _ m => m.keeps (.cons _ .slnil)) ?_
   refine d_one 13 (by kernel_rfl) rfl ?_
   refine o_val rfl (v_ldc m0 ((evCh_ukP _).append rest.uk) he rfl (b + i) (by omega) (evCh_restP h2)) ?_
   refine d_on (fun _ m => m.keeps (.cons _ .slnil)) ?_
   refine d_tv 20 rfl rfl (by kernel_rfl) rfl (.cons _ .slnil) rfl (v_idx he rfl rfl rfl (a + i) (by omega) (by omega)) ?_
   refine d_one 21 (by kernel_rfl) rfl ?_
   refine o_stc _ (a + i) (by first | exact (evCh_ukP _).append rest.uk | exact ((evCh_ukP _).append rest.uk).set rfl _) he rfl rfl rfl rfl rfl (by omega) (by simp [evCh_len]; omega) ?_
   refine d_on (fun _ m => m.keeps (.cons _ .slnil)) ?_
   refine d_tv 22 rfl rfl (by kernel_rfl) rfl (.cons _ .slnil) rfl (v_idx he rfl rfl rfl (b + i) (by omega) (by omega)) ?_
   refine d_one 23 (by kernel_rfl) rfl ?_
   refine o_stc _ (b + i) (by first | exact (evCh_ukP _).append rest.uk | exact ((evCh_ukP _).append rest.uk).set rfl _) he rfl rfl rfl rfl rfl (by omega) (by simp [evCh_len]; omega) ?_
   refine d_on (fun _ m => m.keeps (.cons _ .slnil)) ?_
   refine d_done (by kernel_rfl) ?_
   refine go 8 ?_
   exact q_next (i + 1) (by omega) (by omega) rfl sb (by rw [swpN]; first | rw [← evCh_swpR h1 h2] | rw [← evCh_swpR' h1 h2 (by omega)])
 ·refine go 4 ?_
  refine end0 rfl ?_
  obtain rfl : i = n := by omega
  exact q_m

theorem insSortP (I : IMap) {rest : Rst 15} {cap : Nat} (l : List Pkd) (N : Nat) (hN : l.length = N) (g a b : Nat) (f : FuncId) (hp : ∀ x y : Pkd, FnV Tryz.prog f #[.agg (Day.ch x).toArray, .agg (Day.ch y).toArray] I (.int .i64 ((Day.day x - Day.day y)))) (hab : a ≤ b) (hb : b ≤ l.length) (hl : l.length ≤ 1000000) :
    FnX Tryz.prog 159 #[.slice (some ⟨g, 0, none⟩) N cap, .int .i64 ((a : Nat) : Int), .int .i64 ((b : Nat) : Int), .func (.func f) #[] #[]] I [.blk g 142 (evCh (l) ++ rest.l).flatten] (fun u r => u = .tuple #[] ∧ ∃ m, r = .blk g 142 (evCh (m) ++ rest.l).flatten ∧ Seg l m a b) := by
 refine enter Tryz.func159 Tryz.call159 rfl Tryz.ntmps159 rfl (fun w0 => ?_)
 refine go 3 ?_
 refine o_v rfl (OV.cast (u := .int .i64 ((a + 1 : Nat) : Int)) (v_add rfl rfl ⟨by omega, by omega⟩) (congrArg (Value.int .i64) (by omega))) ?_
 refine go 4 ?_
 refine c_loop2 (a + 1) (l) (fun i m => I)
  (fun i m => [(0, .slice (some ⟨g, 0, none⟩) N cap), (1, .int .i64 ((a : Nat) : Int)), (2, .int .i64 ((b : Nat) : Int)), (3, .func (.func f) #[] #[]), (8, .int .i64 ((i : Nat) : Int))])
  (fun i m => [.blk g 142 (evCh (m) ++ rest.l).flatten])
  (fun i m => a + 1 ≤ i ∧ (i ≤ b ∨ (m = l ∧ i = a + 1)) ∧ Seg l m a i)
  (fun i m => b - i) ⟨Nat.le_refl _, .inr ⟨rfl, rfl⟩, Seg.one l a⟩ rfl sb rfl ?_
 intro i m ⟨h1, h2, hs⟩
 refine go 8 ?_
 refine cb rfl (fun h14 p14 => ?_) (fun h14 p14 => ?_)
 ·have hlt : i < b := by omega
  refine go 11 ?_
  refine c_loop2 (i) (m) (fun j k => I)
   (fun j k => [(0, .slice (some ⟨g, 0, none⟩) N cap), (1, .int .i64 ((a : Nat) : Int)), (2, .int .i64 ((b : Nat) : Int)), (3, .func (.func f) #[] #[]), (8, .int .i64 ((i : Nat) : Int)), (9, .int .i64 ((j : Nat) : Int))])
   (fun j k => [.blk g 142 (evCh (k) ++ rest.l).flatten])
   (fun j k => a ≤ j ∧ j ≤ i ∧ Ins l k a i j)
   (fun j k => j) ⟨by omega, Nat.le_refl _, Ins.start hs⟩ rfl sb rfl ?_
  intro j k ⟨hj1, hj2, hk⟩
  have hkl := hk.len
  refine go 2 ?_
  refine d_startH T.mixed ?_
  refine d_tv 0 rfl rfl (by kernel_rfl) rfl (.refl _) rfl (v_move rfl) ?_
  refine d_tv 1 rfl rfl (by kernel_rfl) rfl (.refl _) rfl (v_move rfl) ?_
  refine d_tv 2 rfl rfl (by kernel_rfl) rfl (.refl _) rfl (v_gtr rfl rfl) ?_
  refine d_tv 3 rfl rfl (by kernel_rfl) rfl (.refl _) rfl (v_move rfl) ?_
  refine sxb 21 rfl (fun h21 p21 => ?_) (fun h21 p21 => ?_)
  ·have hjk : j < k.length := by omega
   have hjk1 : j - 1 < k.length := by omega
   refine d_t 4 rfl rfl (by kernel_rfl) rfl (fun _ m => m.keeps (.refl _)) (y_yes rfl rfl h21 (v_move rfl)) ?_
   refine d_t 5 rfl rfl (by kernel_rfl) rfl (fun _ m => m.keeps (.refl _)) (y_yes rfl rfl h21 (v_move rfl)) ?_
   refine d_t 6 rfl rfl (by kernel_rfl) rfl (fun _ m => m.keeps (.refl _)) (y_yes rfl rfl h21 (v_move rfl)) ?_
   refine d_t 7 rfl rfl (by kernel_rfl) rfl (fun _ m => m.keeps (.refl _)) (y_yes rfl rfl h21 (v_idx he rfl rfl rfl (j) (by omega) (by omega))) ?_
   refine d_t 8 rfl rfl (by kernel_rfl) rfl (fun _ m => m.keeps (.refl _)) (y_yes rfl rfl h21 (v_ldc m0 ((evCh_ukP _).append rest.uk) he rfl (j) (by omega) (evCh_restP hjk))) ?_
   refine d_t 9 rfl rfl (by kernel_rfl) rfl (fun _ m => m.keeps (.refl _)) (y_yes rfl rfl h21 (v_move rfl)) ?_
   refine d_t 10 rfl rfl (by kernel_rfl) rfl (fun _ m => m.keeps (.refl _)) (y_yes rfl rfl h21 (v_move rfl)) ?_
   refine d_t 11 rfl rfl (by kernel_rfl) rfl (fun _ m => m.keeps (.refl _)) (y_yes rfl rfl h21 (v_sub rfl rfl ⟨by omega, by omega⟩)) ?_
   refine d_t 12 rfl rfl (by kernel_rfl) rfl (fun _ m => m.keeps (.refl _)) (y_yes rfl rfl h21 (v_idx he rfl rfl rfl (j - 1) (by omega) (by omega))) ?_
   refine d_t 13 rfl rfl (by kernel_rfl) rfl (fun _ m => m.keeps (.refl _)) (y_yes rfl rfl h21 (v_ldc m0 ((evCh_ukP _).append rest.uk) he rfl (j - 1) (by omega) (evCh_restP hjk1))) ?_
   refine d_one 14 (by kernel_rfl) rfl ?_
   refine o_yes rfl rfl h21 (o_callV (hp _ _) rfl rfl ?_)
   refine d_on (fun _ m => m.keeps (.refl _)) ?_
   refine d_t 15 rfl rfl (by kernel_rfl) rfl (fun _ m => m.keeps (.refl _)) (y_yes rfl rfl h21 (v_lss rfl rfl)) ?_
   refine d_tv 16 rfl rfl (by kernel_rfl) rfl (.refl _) rfl (v_and_t h21 rfl rfl) ?_
   refine d_done (by kernel_rfl) ?_
   refine go 1 ?_
   refine cb rfl (fun h34 p34 => ?_) (fun h34 p34 => ?_)
   ·refine go 4 ?_
    refine d_start1 T.mixed ?_
    refine d_tv 0 rfl rfl (by kernel_rfl) rfl (.cons _ .slnil) rfl (v_move rfl) ?_
    refine d_tv 1 rfl rfl (by kernel_rfl) rfl (.cons _ .slnil) rfl (v_move rfl) ?_
    refine d_tv 2 rfl rfl (by kernel_rfl) rfl (.cons _ .slnil) rfl (v_move rfl) ?_
    refine d_tv 3 rfl rfl (by kernel_rfl) rfl (.cons _ .slnil) rfl (v_move rfl) ?_
    refine d_tv 4 rfl rfl (by kernel_rfl) rfl (.cons _ .slnil) rfl (v_sub rfl rfl ⟨by omega, by omega⟩) ?_
    refine d_tv 5 rfl rfl (by kernel_rfl) rfl (.cons _ .slnil) rfl (v_move rfl) ?_
    refine d_tv 6 rfl rfl (by kernel_rfl) rfl (.cons _ .slnil) rfl (v_move rfl) ?_
    refine d_tv 7 rfl rfl (by kernel_rfl) rfl (.cons _ .slnil) rfl (v_sub rfl rfl ⟨by omega, by omega⟩) ?_
    refine d_tv 8 rfl rfl (by kernel_rfl) rfl (.cons _ .slnil) rfl (v_idx he rfl rfl rfl (j - 1) (by omega) (by omega)) ?_
    refine d_tv 10 rfl rfl (by kernel_rfl) rfl (.cons _ .slnil) rfl (v_move rfl) ?_
    refine d_tv 11 rfl rfl (by kernel_rfl) rfl (.cons _ .slnil) rfl (v_move rfl) ?_
    refine d_tv 12 rfl rfl (by kernel_rfl) rfl (.cons _ .slnil) rfl (v_idx he rfl rfl rfl (j) (by omega) (by omega)) ?_
    refine d_two 9 13 (by kernel_rfl) rfl rfl ?_ ?_
    ·refine o_val rfl (v_ldc m0 ((evCh_ukP _).append rest.uk) he rfl (j - 1) (by omega) (evCh_restP hjk1)) ?_
     refine d_on (fun _ m => m.keeps (.cons _ .slnil)) ?_
     refine d_one 13 (by kernel_rfl) rfl ?_
     refine o_val rfl (v_ldc m0 ((evCh_ukP _).append rest.uk) he rfl (j) (by omega) (evCh_restP hjk)) ?_
     refine d_on (fun _ m => m.keeps (.cons _ .slnil)) ?_
     refine d_tv 14 rfl rfl (by kernel_rfl) rfl (.cons _ .slnil) rfl (v_idx he rfl rfl rfl (j) (by omega) (by omega)) ?_
     refine d_one 15 (by kernel_rfl) rfl ?_
     refine o_stc _ (j) (by first | exact (evCh_ukP _).append rest.uk | exact ((evCh_ukP _).append rest.uk).set rfl _) he rfl rfl rfl rfl rfl (by omega) (by simp [evCh_len]; omega) ?_
     refine d_on (fun _ m => m.keeps (.cons _ .slnil)) ?_
     refine d_tv 16 rfl rfl (by kernel_rfl) rfl (.cons _ .slnil) rfl (v_idx he rfl rfl rfl (j - 1) (by omega) (by omega)) ?_
     refine d_one 17 (by kernel_rfl) rfl ?_
     refine o_stc _ (j - 1) (by first | exact (evCh_ukP _).append rest.uk | exact ((evCh_ukP _).append rest.uk).set rfl _) he rfl rfl rfl rfl rfl (by omega) (by simp [evCh_len]; omega) ?_
     refine d_on (fun _ m => m.keeps (.cons _ .slnil)) ?_
     refine d_done (by kernel_rfl) ?_
     refine go 4 ?_
     refine o_v rfl (OV.cast (u := .int .i64 ((j - 1 : Nat) : Int)) (v_sub rfl rfl ⟨by omega, by omega⟩) (congrArg (Value.int .i64) (by omega))) ?_
     refine go 3 ?_
     exact q_next2 (j - 1) (swp k j (j - 1)) ⟨by omega, by omega, hk.step (by omega) (by omega) (by omega) (by have := p34; simp only [subI_neg] at this; rw [dayAt_eq (by omega), dayAt_eq (by omega)]; exact this)⟩ (by omega) rfl sb (by first | rw [← evCh_swpR (show j < k.length by omega) (show j - 1 < k.length by omega)] | rw [← evCh_swpR' (show j < k.length by omega) (show j - 1 < k.length by omega) (by omega)])
    ·refine o_val rfl (v_ldc m0 ((evCh_ukP _).append rest.uk) he rfl (j) (by omega) (evCh_restP hjk)) ?_
     refine d_on (fun _ m => m.keeps (.cons _ .slnil)) ?_
     refine d_one 9 (by kernel_rfl) rfl ?_
     refine o_val rfl (v_ldc m0 ((evCh_ukP _).append rest.uk) he rfl (j - 1) (by omega) (evCh_restP hjk1)) ?_
     refine d_on (fun _ m => m.keeps (.cons _ .slnil)) ?_
     refine d_tv 14 rfl rfl (by kernel_rfl) rfl (.cons _ .slnil) rfl (v_idx he rfl rfl rfl (j) (by omega) (by omega)) ?_
     refine d_one 15 (by kernel_rfl) rfl ?_
     refine o_stc _ (j) (by first | exact (evCh_ukP _).append rest.uk | exact ((evCh_ukP _).append rest.uk).set rfl _) he rfl rfl rfl rfl rfl (by omega) (by simp [evCh_len]; omega) ?_
     refine d_on (fun _ m => m.keeps (.cons _ .slnil)) ?_
     refine d_tv 16 rfl rfl (by kernel_rfl) rfl (.cons _ .slnil) rfl (v_idx he rfl rfl rfl (j - 1) (by omega) (by omega)) ?_
     refine d_one 17 (by kernel_rfl) rfl ?_
     refine o_stc _ (j - 1) (by first | exact (evCh_ukP _).append rest.uk | exact ((evCh_ukP _).append rest.uk).set rfl _) he rfl rfl rfl rfl rfl (by omega) (by simp [evCh_len]; omega) ?_
     refine d_on (fun _ m => m.keeps (.cons _ .slnil)) ?_
     refine d_done (by kernel_rfl) ?_
     refine go 4 ?_
     refine o_v rfl (OV.cast (u := .int .i64 ((j - 1 : Nat) : Int)) (v_sub rfl rfl ⟨by omega, by omega⟩) (congrArg (Value.int .i64) (by omega))) ?_
     refine go 3 ?_
     exact q_next2 (j - 1) (swp k j (j - 1)) ⟨by omega, by omega, hk.step (by omega) (by omega) (by omega) (by have := p34; simp only [subI_neg] at this; rw [dayAt_eq (by omega), dayAt_eq (by omega)]; exact this)⟩ (by omega) rfl sb (by first | rw [← evCh_swpR (show j < k.length by omega) (show j - 1 < k.length by omega)] | rw [← evCh_swpR' (show j < k.length by omega) (show j - 1 < k.length by omega) (by omega)])
   ·refine go 12 ?_
    exact q_next2 (i + 1) (k) ⟨by omega, .inl (by omega), hk.done (by omega) (by omega) (.inr (by have := p34; simp only [subI_neg] at this; rw [dayAt_eq (by omega), dayAt_eq (by omega)]; omega))⟩ (by omega) rfl sb rfl
  ·refine d_t 4 rfl rfl (by kernel_rfl) rfl (fun _ m => m.keeps (.refl _)) (y_no rfl rfl h21) ?_
   refine d_t 5 rfl rfl (by kernel_rfl) rfl (fun _ m => m.keeps (.refl _)) (y_no rfl rfl h21) ?_
   refine d_t 6 rfl rfl (by kernel_rfl) rfl (fun _ m => m.keeps (.refl _)) (y_no rfl rfl h21) ?_
   refine d_t 7 rfl rfl (by kernel_rfl) rfl (fun _ m => m.keeps (.refl _)) (y_no rfl rfl h21) ?_
   refine d_t 8 rfl rfl (by kernel_rfl) rfl (fun _ m => m.keeps (.refl _)) (y_no rfl rfl h21) ?_
   refine d_t 9 rfl rfl (by kernel_rfl) rfl (fun _ m => m.keeps (.refl _)) (y_no rfl rfl h21) ?_
   refine d_t 10 rfl rfl (by kernel_rfl) rfl (fun _ m => m.keeps (.refl _)) (y_no rfl rfl h21) ?_
   refine d_t 11 rfl rfl (by kernel_rfl) rfl (fun _ m => m.keeps (.refl _)) (y_no rfl rfl h21) ?_
   refine d_t 12 rfl rfl (by kernel_rfl) rfl (fun _ m => m.keeps (.refl _)) (y_no rfl rfl h21) ?_
   refine d_t 13 rfl rfl (by kernel_rfl) rfl (fun _ m => m.keeps (.refl _)) (y_no rfl rfl h21) ?_
   refine d_t 14 rfl rfl (by kernel_rfl) rfl (fun _ m => m.keeps (.refl _)) (y_no rfl rfl h21) ?_
   refine d_t 15 rfl rfl (by kernel_rfl) rfl (fun _ m => m.keeps (.refl _)) (y_no rfl rfl h21) ?_
   refine d_tv 16 rfl rfl (by kernel_rfl) rfl (.refl _) rfl (v_and_f h21 rfl) ?_
   refine d_done (by kernel_rfl) ?_
   refine go 1 ?_
   refine c_false rfl ?_
   refine go 12 ?_
   exact q_next2 (i + 1) (k) ⟨by omega, .inl (by omega), hk.done (by omega) (by omega) (.inl (by omega))⟩ (by omega) rfl sb rfl
 ·refine go 4 ?_
  refine end0 rfl ?_
  exact q_x (by refine ⟨rfl, m, rfl, ?_⟩; rcases h2 with h2 | ⟨rfl, h2⟩; exact (show i = b by omega) ▸ hs; exact Seg.none (by omega))

theorem rotateP (I : IMap) {rest : Rst 15} {cap : Nat} (l : List Pkd) (N : Nat) (hN : l.length = N) (g a m b : Nat) (f : FuncId) (ham : a < m) (hmb : m < b) (hb : b ≤ l.length) (hl : l.length ≤ 1000000) :
    FnX Tryz.prog 191 #[.slice (some ⟨g, 0, none⟩) N cap, .int .i64 ((a : Nat) : Int), .int .i64 ((m : Nat) : Int), .int .i64 ((b : Nat) : Int), .func (.func f) #[] #[]] I [.blk g 142 (evCh (l) ++ rest.l).flatten] (fun u r => u = .tuple #[] ∧ ∃ k, r = .blk g 142 (evCh (k) ++ rest.l).flatten ∧ k.length = l.length ∧ ∀ q, k[q]? = rotG (l[·]?) m (m - a) (b - m) q) := by
 refine enter Tryz.func191 Tryz.call191 rfl Tryz.ntmps191 rfl (fun w0 => ?_)
 refine go 4 ?_
 refine o_v rfl (OV.cast (u := .int .i64 ((m - a : Nat) : Int)) (v_sub rfl rfl ⟨by omega, by omega⟩) (congrArg (Value.int .i64) (by omega))) ?_
 refine go 7 ?_
 refine o_v rfl (OV.cast (u := .int .i64 ((b - m : Nat) : Int)) (v_sub rfl rfl ⟨by omega, by omega⟩) (congrArg (Value.int .i64) (by omega))) ?_
 refine go 5 ?_
 refine c_loop3 (m - a) (b - m) (l) (fun i j k => I)
  (fun i j k => [(0, .slice (some ⟨g, 0, none⟩) N cap), (1, .int .i64 ((a : Nat) : Int)), (2, .int .i64 ((m : Nat) : Int)), (3, .int .i64 ((b : Nat) : Int)), (4, .func (.func f) #[] #[]), (10, .int .i64 ((i : Nat) : Int)), (11, .int .i64 ((j : Nat) : Int))])
  (fun i j k => [.blk g 142 (evCh (k) ++ rest.l).flatten])
  (fun i j k => 1 ≤ i ∧ 1 ≤ j ∧ i ≤ m ∧ m + j ≤ l.length ∧ k.length = l.length ∧ ∀ q, rotG (k[·]?) m i j q = rotG (l[·]?) m (m - a) (b - m) q)
  (fun i j k => i + j) ⟨by omega, by omega, by omega, by omega, rfl, fun q => rfl⟩ rfl sb rfl ?_
 intro i j k ⟨hi1, hj1, him, hmj, hkl, hk⟩
 refine go 8 ?_
 refine cb rfl (fun h20 p20 => ?_) (fun h20 p20 => ?_)
 ·refine go 10 ?_
  refine cb rfl (fun h23 p23 => ?_) (fun h23 p23 => ?_)
  ·refine go 5 ?_
   refine o_v rfl (OV.cast (u := .int .i64 ((m - i : Nat) : Int)) (v_sub rfl rfl ⟨by omega, by omega⟩) (congrArg (Value.int .i64) (by omega))) ?_
   refine go 4 ?_
   refine o_callM (swapRangeP _ k N (by omega) g (m - i) m j f (by omega) (by omega) (by omega)) rfl rfl ?_
   refine go 5 ?_
   refine o_v rfl (OV.cast (u := .int .i64 ((i - j : Nat) : Int)) (v_sub rfl rfl ⟨by omega, by omega⟩) (congrArg (Value.int .i64) (by omega))) ?_
   refine go 4 ?_
   exact q_next3 (i - j) (j) (swpN k (m - i) m j) ⟨by omega, by omega, by omega, by omega, (swpN_len _ _ _ _).trans hkl, fun q => (rot_gt (by omega) (by omega) (swpN_get _ (by omega) (by omega)) q).trans (hk q)⟩ (by omega) rfl sb rfl
  ·refine go 5 ?_
   refine o_v rfl (OV.cast (u := .int .i64 ((m - i : Nat) : Int)) (v_sub rfl rfl ⟨by omega, by omega⟩) (congrArg (Value.int .i64) (by omega))) ?_
   refine go 4 ?_
   refine o_v rfl (OV.cast (u := .int .i64 ((m + j - i : Nat) : Int)) (v_sub rfl rfl ⟨by omega, by omega⟩) (congrArg (Value.int .i64) (by omega))) ?_
   refine go 3 ?_
   refine o_callM (swapRangeP _ k N (by omega) g (m - i) (m + j - i) i f (by omega) (by omega) (by omega)) rfl rfl ?_
   refine go 5 ?_
   refine o_v rfl (OV.cast (u := .int .i64 ((j - i : Nat) : Int)) (v_sub rfl rfl ⟨by omega, by omega⟩) (congrArg (Value.int .i64) (by omega))) ?_
   refine go 4 ?_
   exact q_next3 (i) (j - i) (swpN k (m - i) (m + j - i) i) ⟨by omega, by omega, by omega, by omega, (swpN_len _ _ _ _).trans hkl, fun q => (rot_lt (by omega) (by omega) (swpN_get _ (by omega) (by omega)) q).trans (hk q)⟩ (by omega) rfl sb rfl
 ·obtain rfl : i = j := by have := p20; omega
  refine go 9 ?_
  refine o_v rfl (OV.cast (u := .int .i64 ((m - i : Nat) : Int)) (v_sub rfl rfl ⟨by omega, by omega⟩) (congrArg (Value.int .i64) (by omega))) ?_
  refine go 4 ?_
  refine o_callM (swapRangeP _ k N (by omega) g (m - i) m i f (by omega) (by omega) (by omega)) rfl rfl ?_
  refine go 1 ?_
  refine end0 rfl ?_
  exact q_x ⟨rfl, swpN k (m - i) m i, rfl, (swpN_len _ _ _ _).trans hkl, fun q => (rot_eq him (swpN_get _ (by omega) (by omega)) q).trans (hk q)⟩

theorem symMergeWP (I : IMap) {rest : Rst 15} {cap : Nat} (N g : Nat) (f : FuncId) (hp : ∀ x y : Pkd, FnV Tryz.prog f #[.agg (Day.ch x).toArray, .agg (Day.ch y).toArray] I (.int .i64 ((Day.day x - Day.day y)))) (hN0 : N ≤ 1000000) (W : Nat) (ih : ∀ (l : List Pkd) (a m b : Nat), l.length = N → b - a < W → a < m → m < b → b ≤ l.length → SrtD l a m → SrtD l m b → FnX Tryz.prog 160 #[.slice (some ⟨g, 0, none⟩) N cap, .int .i64 ((a : Nat) : Int), .int .i64 ((m : Nat) : Int), .int .i64 ((b : Nat) : Int), .func (.func f) #[] #[]] I [.blk g 142 (evCh (l) ++ rest.l).flatten] (fun u r => u = .tuple #[] ∧ ∃ m, r = .blk g 142 (evCh (m) ++ rest.l).flatten ∧ Seg l m a b)) (l : List Pkd) (a m b : Nat) (hN : l.length = N) (hW : b - a ≤ W) (ham : a < m) (hmb : m < b) (hb : b ≤ l.length) (m1 : SrtD l a m) (m2 : SrtD l m b) :
    FnX Tryz.prog 160 #[.slice (some ⟨g, 0, none⟩) N cap, .int .i64 ((a : Nat) : Int), .int .i64 ((m : Nat) : Int), .int .i64 ((b : Nat) : Int), .func (.func f) #[] #[]] I [.blk g 142 (evCh (l) ++ rest.l).flatten] (fun u r => u = .tuple #[] ∧ ∃ m, r = .blk g 142 (evCh (m) ++ rest.l).flatten ∧ Seg l m a b) := by
 refine enter Tryz.func160 Tryz.call160 rfl Tryz.ntmps160 rfl (fun w0 => ?_)
 refine go 5 ?_
 refine o_v rfl (OV.cast (u := .int .i64 ((m - a : Nat) : Int)) (v_sub rfl rfl ⟨by omega, by omega⟩) (congrArg (Value.int .i64) (by omega))) ?_
 refine go 3 ?_
 refine cb rfl (fun h28 p28 => ?_) (fun h28 p28 => ?_)
 ·obtain rfl : m = a + 1 := by omega
  refine go 14 ?_
  refine c_loop2 (a + 1) (b) (fun i j => I)
   (fun i j => [(0, .slice (some ⟨g, 0, none⟩) N cap), (1, .int .i64 ((a : Nat) : Int)), (2, .int .i64 ((a + 1 : Nat) : Int)), (3, .int .i64 ((b : Nat) : Int)), (4, .func (.func f) #[] #[]), (10, .int .i64 ((i : Nat) : Int)), (11, .int .i64 ((j : Nat) : Int))])
   (fun i j => [.blk g 142 (evCh (l) ++ rest.l).flatten])
   (fun i j => a + 1 ≤ i ∧ i ≤ j ∧ j ≤ b ∧ (∀ q, a + 1 ≤ q → q < i → dayAt l q < dayAt l a) ∧ (∀ q, j ≤ q → q < b → dayAt l a ≤ dayAt l q))
   (fun i j => j - i) ⟨by omega, by omega, by omega, fun q _ _ => by omega, fun q _ _ => by omega⟩ rfl sb rfl ?_
  intro i j ⟨hi1, hij, hjb, hlo, hhi⟩
  refine go 8 ?_
  refine cb rfl (fun h33 p33 => ?_) (fun h33 p33 => ?_)
  ·have hh : (i + j) / 2 < l.length := by omega
   have ha0 : a < l.length := by omega
   refine go 8 ?_
   refine o_v rfl (v_conv he he rfl (m := (i : Int) + (j : Int)) (wrap_u64 _ (by omega) (by omega))) ?_
   refine o_v rfl (v_shr1 rfl (by decide)) ?_
   refine o_v rfl (v_conv he he rfl (m := (((i + j) / 2 : Nat) : Int)) (by rw [IntKind.wrap_i64]; omega)) ?_
   refine go 4 ?_
   refine d_startH T.mixed ?_
   refine d_tv 0 rfl rfl (by kernel_rfl) rfl (.refl _) rfl (v_move rfl) ?_
   refine d_tv 1 rfl rfl (by kernel_rfl) rfl (.refl _) rfl (v_move rfl) ?_
   refine d_tv 2 rfl rfl (by kernel_rfl) rfl (.refl _) rfl (v_move rfl) ?_
   refine d_tv 3 rfl rfl (by kernel_rfl) rfl (.refl _) rfl (v_idx he rfl rfl rfl ((i + j) / 2) (by omega) (by omega)) ?_
   refine d_tv 4 rfl rfl (by kernel_rfl) rfl (.refl _) rfl (v_ldc m0 ((evCh_ukP _).append rest.uk) he rfl ((i + j) / 2) (by omega) (evCh_restP hh)) ?_
   refine d_tv 5 rfl rfl (by kernel_rfl) rfl (.refl _) rfl (v_move rfl) ?_
   refine d_tv 6 rfl rfl (by kernel_rfl) rfl (.refl _) rfl (v_move rfl) ?_
   refine d_tv 7 rfl rfl (by kernel_rfl) rfl (.refl _) rfl (v_idx he rfl rfl rfl (a) (by omega) (by omega)) ?_
   refine d_tv 8 rfl rfl (by kernel_rfl) rfl (.refl _) rfl (v_ldc m0 ((evCh_ukP _).append rest.uk) he rfl (a) (by omega) (evCh_restP ha0)) ?_
   refine d_one 9 (by kernel_rfl) rfl ?_
   refine o_callV (hp _ _) rfl rfl ?_
   refine d_on (fun _ m => m.keeps (.refl _)) ?_
   refine d_tv 10 rfl rfl (by kernel_rfl) rfl (.refl _) rfl (v_lss rfl rfl) ?_
   refine d_done (by kernel_rfl) ?_
   refine go 1 ?_
   refine cb rfl (fun h50 p50 => ?_) (fun h50 p50 => ?_)
   ·refine go 7 ?_
    exact q_next2 ((i + j) / 2 + 1) (j) ⟨by omega, by omega, by omega, fun q q1 q2 => by have := m2.le (p := q) (q := (i + j) / 2) q1 (by omega) (by omega); have := day_ltP p50; omega, hhi⟩ (by omega) rfl sb rfl
   ·refine go 6 ?_
    exact q_next2 (i) ((i + j) / 2) ⟨by omega, by omega, by omega, hlo, fun q q1 q2 => by have := m2.le (p := (i + j) / 2) (q := q) (by omega) q1 q2; have := day_geP p50; omega⟩ (by omega) rfl sb rfl
  ·obtain rfl : i = j := by omega
   refine go 13 ?_
   refine c_loop (α := Nat) 0 (fun t => I)
    (fun t => [(0, .slice (some ⟨g, 0, none⟩) N cap), (1, .int .i64 ((a : Nat) : Int)), (2, .int .i64 ((a + 1 : Nat) : Int)), (3, .int .i64 ((b : Nat) : Int)), (4, .func (.func f) #[] #[]), (10, .int .i64 ((i : Nat) : Int)), (13, .int .i64 ((a + t : Nat) : Int))])
    (fun t => [.blk g 142 (evCh (bub l a t) ++ rest.l).flatten])
    (fun t => a + t + 1 ≤ i)
    (fun t => i - t) (by omega) rfl sb rfl ?_
   intro t ht
   refine go 5 ?_
   refine o_v rfl (OV.cast (u := .int .i64 ((i - 1 : Nat) : Int)) (v_sub rfl rfl ⟨by omega, by omega⟩) (congrArg (Value.int .i64) (by omega))) ?_
   refine go 3 ?_
   refine cb rfl (fun h58 p58 => ?_) (fun h58 p58 => ?_)
   ·have hbl := bub_len l a t
    have hk1 : a + t < (bub l a t).length := by omega
    have hk2 : a + t + 1 < (bub l a t).length := by omega
    refine go 4 ?_
    refine d_start1 T.mixed ?_
    refine d_tv 0 rfl rfl (by kernel_rfl) rfl (.cons _ .slnil) rfl (v_move rfl) ?_
    refine d_tv 1 rfl rfl (by kernel_rfl) rfl (.cons _ .slnil) rfl (v_move rfl) ?_
    refine d_tv 2 rfl rfl (by kernel_rfl) rfl (.cons _ .slnil) rfl (v_move rfl) ?_
    refine d_tv 3 rfl rfl (by kernel_rfl) rfl (.cons _ .slnil) rfl (v_move rfl) ?_
    refine d_tv 4 rfl rfl (by kernel_rfl) rfl (.cons _ .slnil) rfl (OV.cast (u := .int .i64 ((a + t + 1 : Nat) : Int)) (v_add rfl rfl ⟨by omega, by omega⟩) (congrArg (Value.int .i64) (by omega))) ?_
    refine d_tv 5 rfl rfl (by kernel_rfl) rfl (.cons _ .slnil) rfl (v_move rfl) ?_
    refine d_tv 6 rfl rfl (by kernel_rfl) rfl (.cons _ .slnil) rfl (v_move rfl) ?_
    refine d_tv 7 rfl rfl (by kernel_rfl) rfl (.cons _ .slnil) rfl (OV.cast (u := .int .i64 ((a + t + 1 : Nat) : Int)) (v_add rfl rfl ⟨by omega, by omega⟩) (congrArg (Value.int .i64) (by omega))) ?_
    refine d_tv 8 rfl rfl (by kernel_rfl) rfl (.cons _ .slnil) rfl (v_idx he rfl rfl rfl (a + t + 1) (by omega) (by omega)) ?_
    refine d_tv 10 rfl rfl (by kernel_rfl) rfl (.cons _ .slnil) rfl (v_move rfl) ?_
    refine d_tv 11 rfl rfl (by kernel_rfl) rfl (.cons _ .slnil) rfl (v_move rfl) ?_
    refine d_tv 12 rfl rfl (by kernel_rfl) rfl (.cons _ .slnil) rfl (v_idx he rfl rfl rfl (a + t) (by omega) (by omega)) ?_
    refine d_two 9 13 (by kernel_rfl) rfl rfl ?_ ?_
    ·refine o_val rfl (v_ldc m0 ((evCh_ukP _).append rest.uk) he rfl (a + t + 1) (by omega) (evCh_restP hk2)) ?_
     refine d_on (fun _ m => m.keeps (.cons _ .slnil)) ?_
     refine d_one 13 (by kernel_rfl) rfl ?_
     refine o_val rfl (v_ldc m0 ((evCh_ukP _).append rest.uk) he rfl (a + t) (by omega) (evCh_restP hk1)) ?_
     refine d_on (fun _ m => m.keeps (.cons _ .slnil)) ?_
     refine d_tv 14 rfl rfl (by kernel_rfl) rfl (.cons _ .slnil) rfl (v_idx he rfl rfl rfl (a + t) (by omega) (by omega)) ?_
     refine d_one 15 (by kernel_rfl) rfl ?_
     refine o_stc _ (a + t) (by first | exact (evCh_ukP _).append rest.uk | exact ((evCh_ukP _).append rest.uk).set rfl _) he rfl rfl rfl rfl rfl (by omega) (by simp [evCh_len]; omega) ?_
     refine d_on (fun _ m => m.keeps (.cons _ .slnil)) ?_
     refine d_tv 16 rfl rfl (by kernel_rfl) rfl (.cons _ .slnil) rfl (v_idx he rfl rfl rfl (a + t + 1) (by omega) (by omega)) ?_
     refine d_one 17 (by kernel_rfl) rfl ?_
     refine o_stc _ (a + t + 1) (by first | exact (evCh_ukP _).append rest.uk | exact ((evCh_ukP _).append rest.uk).set rfl _) he rfl rfl rfl rfl rfl (by omega) (by simp [evCh_len]; omega) ?_
     refine d_on (fun _ m => m.keeps (.cons _ .slnil)) ?_
     refine d_done (by kernel_rfl) ?_
     refine go 4 ?_
     refine o_v rfl (OV.cast (u := .int .i64 ((a + (t + 1) : Nat) : Int)) (v_add rfl rfl ⟨by omega, by omega⟩) (congrArg (Value.int .i64) (by omega))) ?_
     refine go 3 ?_
     exact q_next (t + 1) (by omega) (by omega) rfl sb (by rw [bub]; first | rw [← evCh_swpR hk1 hk2] | rw [← evCh_swpR' hk1 hk2 (by omega)])
    ·refine o_val rfl (v_ldc m0 ((evCh_ukP _).append rest.uk) he rfl (a + t) (by omega) (evCh_restP hk1)) ?_
     refine d_on (fun _ m => m.keeps (.cons _ .slnil)) ?_
     refine d_one 9 (by kernel_rfl) rfl ?_
     refine o_val rfl (v_ldc m0 ((evCh_ukP _).append rest.uk) he rfl (a + t + 1) (by omega) (evCh_restP hk2)) ?_
     refine d_on (fun _ m => m.keeps (.cons _ .slnil)) ?_
     refine d_tv 14 rfl rfl (by kernel_rfl) rfl (.cons _ .slnil) rfl (v_idx he rfl rfl rfl (a + t) (by omega) (by omega)) ?_
     refine d_one 15 (by kernel_rfl) rfl ?_
     refine o_stc _ (a + t) (by first | exact (evCh_ukP _).append rest.uk | exact ((evCh_ukP _).append rest.uk).set rfl _) he rfl rfl rfl rfl rfl (by omega) (by simp [evCh_len]; omega) ?_
     refine d_on (fun _ m => m.keeps (.cons _ .slnil)) ?_
     refine d_tv 16 rfl rfl (by kernel_rfl) rfl (.cons _ .slnil) rfl (v_idx he rfl rfl rfl (a + t + 1) (by omega) (by omega)) ?_
     refine d_one 17 (by kernel_rfl) rfl ?_
     refine o_stc _ (a + t + 1) (by first | exact (evCh_ukP _).append rest.uk | exact ((evCh_ukP _).append rest.uk).set rfl _) he rfl rfl rfl rfl rfl (by omega) (by simp [evCh_len]; omega) ?_
     refine d_on (fun _ m => m.keeps (.cons _ .slnil)) ?_
     refine d_done (by kernel_rfl) ?_
     refine go 4 ?_
     refine o_v rfl (OV.cast (u := .int .i64 ((a + (t + 1) : Nat) : Int)) (v_add rfl rfl ⟨by omega, by omega⟩) (congrArg (Value.int .i64) (by omega))) ?_
     refine go 3 ?_
     exact q_next (t + 1) (by omega) (by omega) rfl sb (by rw [bub]; first | rw [← evCh_swpR hk1 hk2] | rw [← evCh_swpR' hk1 hk2 (by omega)])
   ·refine go 7 ?_
    refine fin0 rfl ?_
    exact q_x ⟨rfl, _, rfl, (show i - 1 - a = t by omega) ▸ merge_up m2 hi1 hjb hb hlo hhi⟩
 ·have hma : a + 2 ≤ m := by omega
  refine go 7 ?_
  refine o_v rfl (OV.cast (u := .int .i64 ((b - m : Nat) : Int)) (v_sub rfl rfl ⟨by omega, by omega⟩) (congrArg (Value.int .i64) (by omega))) ?_
  refine go 3 ?_
  refine cb rfl (fun h80 p80 => ?_) (fun h80 p80 => ?_)
  ·obtain rfl : b = m + 1 := by omega
   refine go 14 ?_
   refine c_loop2 (a) (m) (fun i j => I)
    (fun i j => [(0, .slice (some ⟨g, 0, none⟩) N cap), (1, .int .i64 ((a : Nat) : Int)), (2, .int .i64 ((m : Nat) : Int)), (3, .int .i64 ((m + 1 : Nat) : Int)), (4, .func (.func f) #[] #[]), (14, .int .i64 ((i : Nat) : Int)), (15, .int .i64 ((j : Nat) : Int))])
    (fun i j => [.blk g 142 (evCh (l) ++ rest.l).flatten])
    (fun i j => a ≤ i ∧ i ≤ j ∧ j ≤ m ∧ (∀ q, a ≤ q → q < i → dayAt l q ≤ dayAt l m) ∧ (∀ q, j ≤ q → q < m → dayAt l m < dayAt l q))
    (fun i j => j - i) ⟨by omega, by omega, by omega, fun q _ _ => by omega, fun q _ _ => by omega⟩ rfl sb rfl ?_
   intro i j ⟨hi1, hij, hjb, hlo, hhi⟩
   refine go 8 ?_
   refine cb rfl (fun h85 p85 => ?_) (fun h85 p85 => ?_)
   ·have hh : (i + j) / 2 < l.length := by omega
    have hm0 : m < l.length := by omega
    refine go 8 ?_
    refine o_v rfl (v_conv he he rfl (m := (i : Int) + (j : Int)) (wrap_u64 _ (by omega) (by omega))) ?_
    refine o_v rfl (v_shr1 rfl (by decide)) ?_
    refine o_v rfl (v_conv he he rfl (m := (((i + j) / 2 : Nat) : Int)) (by rw [IntKind.wrap_i64]; omega)) ?_
    refine go 4 ?_
    refine d_startH T.mixed ?_
    refine d_tv 0 rfl rfl (by kernel_rfl) rfl (.refl _) rfl (v_move rfl) ?_
    refine d_tv 1 rfl rfl (by kernel_rfl) rfl (.refl _) rfl (v_move rfl) ?_
    refine d_tv 2 rfl rfl (by kernel_rfl) rfl (.refl _) rfl (v_move rfl) ?_
    refine d_tv 3 rfl rfl (by kernel_rfl) rfl (.refl _) rfl (v_idx he rfl rfl rfl (m) (by omega) (by omega)) ?_
    refine d_tv 4 rfl rfl (by kernel_rfl) rfl (.refl _) rfl (v_ldc m0 ((evCh_ukP _).append rest.uk) he rfl (m) (by omega) (evCh_restP hm0)) ?_
    refine d_tv 5 rfl rfl (by kernel_rfl) rfl (.refl _) rfl (v_move rfl) ?_
    refine d_tv 6 rfl rfl (by kernel_rfl) rfl (.refl _) rfl (v_move rfl) ?_
    refine d_tv 7 rfl rfl (by kernel_rfl) rfl (.refl _) rfl (v_idx he rfl rfl rfl ((i + j) / 2) (by omega) (by omega)) ?_
    refine d_tv 8 rfl rfl (by kernel_rfl) rfl (.refl _) rfl (v_ldc m0 ((evCh_ukP _).append rest.uk) he rfl ((i + j) / 2) (by omega) (evCh_restP hh)) ?_
    refine d_one 9 (by kernel_rfl) rfl ?_
    refine o_callV (hp _ _) rfl rfl ?_
    refine d_on (fun _ m => m.keeps (.refl _)) ?_
    refine d_tv 10 rfl rfl (by kernel_rfl) rfl (.refl _) rfl (v_lss rfl rfl) ?_
    refine d_tv 11 rfl rfl (by kernel_rfl) rfl (.refl _) rfl (v_not rfl) ?_
    refine d_done (by kernel_rfl) ?_
    refine go 1 ?_
    refine cb rfl (fun h103 p103 => ?_) (fun h103 p103 => ?_)
    ·refine go 7 ?_
     exact q_next2 ((i + j) / 2 + 1) (j) ⟨by omega, by omega, by omega, fun q q1 q2 => by have := m1.le (p := q) (q := (i + j) / 2) q1 (by omega) (by omega); have := day_geP p103; omega, hhi⟩ (by omega) rfl sb rfl
    ·refine go 6 ?_
     exact q_next2 (i) ((i + j) / 2) ⟨by omega, by omega, by omega, hlo, fun q q1 q2 => by have := m1.le (p := (i + j) / 2) (q := q) (by omega) q1 q2; have := day_ltP p103; omega⟩ (by omega) rfl sb rfl
   ·obtain rfl : i = j := by omega
    refine go 13 ?_
    refine c_loop (α := Nat) 0 (fun t => I)
     (fun t => [(0, .slice (some ⟨g, 0, none⟩) N cap), (1, .int .i64 ((a : Nat) : Int)), (2, .int .i64 ((m : Nat) : Int)), (3, .int .i64 ((m + 1 : Nat) : Int)), (4, .func (.func f) #[] #[]), (14, .int .i64 ((i : Nat) : Int)), (17, .int .i64 ((m - t : Nat) : Int))])
     (fun t => [.blk g 142 (evCh (bud l m t) ++ rest.l).flatten])
     (fun t => t + i ≤ m)
     (fun t => m - t) (by omega) rfl ⟨rfl, rfl, rfl, rfl, rfl, rfl, congrArg (fun z : Int => some (Value.int .i64 z)) (by omega), trivial⟩ rfl ?_
    intro t ht
    refine go 8 ?_
    refine cb rfl (fun h110 p110 => ?_) (fun h110 p110 => ?_)
    ·have hbl := bud_len l m t
     have hk1 : m - t < (bud l m t).length := by omega
     have hk2 : m - t - 1 < (bud l m t).length := by omega
     refine go 4 ?_
     refine d_start1 T.mixed ?_
     refine d_tv 0 rfl rfl (by kernel_rfl) rfl (.cons _ .slnil) rfl (v_move rfl) ?_
     refine d_tv 1 rfl rfl (by kernel_rfl) rfl (.cons _ .slnil) rfl (v_move rfl) ?_
     refine d_tv 2 rfl rfl (by kernel_rfl) rfl (.cons _ .slnil) rfl (v_move rfl) ?_
     refine d_tv 3 rfl rfl (by kernel_rfl) rfl (.cons _ .slnil) rfl (v_move rfl) ?_
     refine d_tv 4 rfl rfl (by kernel_rfl) rfl (.cons _ .slnil) rfl (OV.cast (u := .int .i64 ((m - t - 1 : Nat) : Int)) (v_sub rfl rfl ⟨by omega, by omega⟩) (congrArg (Value.int .i64) (by omega))) ?_
     refine d_tv 5 rfl rfl (by kernel_rfl) rfl (.cons _ .slnil) rfl (v_move rfl) ?_
     refine d_tv 6 rfl rfl (by kernel_rfl) rfl (.cons _ .slnil) rfl (v_move rfl) ?_
     refine d_tv 7 rfl rfl (by kernel_rfl) rfl (.cons _ .slnil) rfl (OV.cast (u := .int .i64 ((m - t - 1 : Nat) : Int)) (v_sub rfl rfl ⟨by omega, by omega⟩) (congrArg (Value.int .i64) (by omega))) ?_
     refine d_tv 8 rfl rfl (by kernel_rfl) rfl (.cons _ .slnil) rfl (v_idx he rfl rfl rfl (m - t - 1) (by omega) (by omega)) ?_
     refine d_tv 10 rfl rfl (by kernel_rfl) rfl (.cons _ .slnil) rfl (v_move rfl) ?_
     refine d_tv 11 rfl rfl (by kernel_rfl) rfl (.cons _ .slnil) rfl (v_move rfl) ?_
     refine d_tv 12 rfl rfl (by kernel_rfl) rfl (.cons _ .slnil) rfl (v_idx he rfl rfl rfl (m - t) (by omega) (by omega)) ?_
     refine d_two 9 13 (by kernel_rfl) rfl rfl ?_ ?_
     ·refine o_val rfl (v_ldc m0 ((evCh_ukP _).append rest.uk) he rfl (m - t - 1) (by omega) (evCh_restP hk2)) ?_
      refine d_on (fun _ m => m.keeps (.cons _ .slnil)) ?_
      refine d_one 13 (by kernel_rfl) rfl ?_
      refine o_val rfl (v_ldc m0 ((evCh_ukP _).append rest.uk) he rfl (m - t) (by omega) (evCh_restP hk1)) ?_
      refine d_on (fun _ m => m.keeps (.cons _ .slnil)) ?_
      refine d_tv 14 rfl rfl (by kernel_rfl) rfl (.cons _ .slnil) rfl (v_idx he rfl rfl rfl (m - t) (by omega) (by omega)) ?_
      refine d_one 15 (by kernel_rfl) rfl ?_
      refine o_stc _ (m - t) (by first | exact (evCh_ukP _).append rest.uk | exact ((evCh_ukP _).append rest.uk).set rfl _) he rfl rfl rfl rfl rfl (by omega) (by simp [evCh_len]; omega) ?_
      refine d_on (fun _ m => m.keeps (.cons _ .slnil)) ?_
      refine d_tv 16 rfl rfl (by kernel_rfl) rfl (.cons _ .slnil) rfl (v_idx he rfl rfl rfl (m - t - 1) (by omega) (by omega)) ?_
      refine d_one 17 (by kernel_rfl) rfl ?_
      refine o_stc _ (m - t - 1) (by first | exact (evCh_ukP _).append rest.uk | exact ((evCh_ukP _).append rest.uk).set rfl _) he rfl rfl rfl rfl rfl (by omega) (by simp [evCh_len]; omega) ?_
      refine d_on (fun _ m => m.keeps (.cons _ .slnil)) ?_
      refine d_done (by kernel_rfl) ?_
      refine go 4 ?_
      refine o_v rfl (OV.cast (u := .int .i64 ((m - (t + 1) : Nat) : Int)) (v_sub rfl rfl ⟨by omega, by omega⟩) (congrArg (Value.int .i64) (by omega))) ?_
      refine go 3 ?_
      exact q_next (t + 1) (by omega) (by omega) rfl sb (by rw [bud]; first | rw [← evCh_swpR hk1 hk2] | rw [← evCh_swpR' hk1 hk2 (by omega)])
     ·refine o_val rfl (v_ldc m0 ((evCh_ukP _).append rest.uk) he rfl (m - t) (by omega) (evCh_restP hk1)) ?_
      refine d_on (fun _ m => m.keeps (.cons _ .slnil)) ?_
      refine d_one 9 (by kernel_rfl) rfl ?_
      refine o_val rfl (v_ldc m0 ((evCh_ukP _).append rest.uk) he rfl (m - t - 1) (by omega) (evCh_restP hk2)) ?_
      refine d_on (fun _ m => m.keeps (.cons _ .slnil)) ?_
      refine d_tv 14 rfl rfl (by kernel_rfl) rfl (.cons _ .slnil) rfl (v_idx he rfl rfl rfl (m - t) (by omega) (by omega)) ?_
      refine d_one 15 (by kernel_rfl) rfl ?_
      refine o_stc _ (m - t) (by first | exact (evCh_ukP _).append rest.uk | exact ((evCh_ukP _).append rest.uk).set rfl _) he rfl rfl rfl rfl rfl (by omega) (by simp [evCh_len]; omega) ?_
      refine d_on (fun _ m => m.keeps (.cons _ .slnil)) ?_
      refine d_tv 16 rfl rfl (by kernel_rfl) rfl (.cons _ .slnil) rfl (v_idx he rfl rfl rfl (m - t - 1) (by omega) (by omega)) ?_
      refine d_one 17 (by kernel_rfl) rfl ?_
      refine o_stc _ (m - t - 1) (by first | exact (evCh_ukP _).append rest.uk | exact ((evCh_ukP _).append rest.uk).set rfl _) he rfl rfl rfl rfl rfl (by omega) (by simp [evCh_len]; omega) ?_
      refine d_on (fun _ m => m.keeps (.cons _ .slnil)) ?_
      refine d_done (by kernel_rfl) ?_
      refine go 4 ?_
      refine o_v rfl (OV.cast (u := .int .i64 ((m - (t + 1) : Nat) : Int)) (v_sub rfl rfl ⟨by omega, by omega⟩) (congrArg (Value.int .i64) (by omega))) ?_
      refine go 3 ?_
      exact q_next (t + 1) (by omega) (by omega) rfl sb (by rw [bud]; first | rw [← evCh_swpR hk1 hk2] | rw [← evCh_swpR' hk1 hk2 (by omega)])
    ·refine go 7 ?_
     refine fin0 rfl ?_
     exact q_x ⟨rfl, _, rfl, (show m - i = t by omega) ▸ merge_down m1 hi1 hjb (by omega) hlo hhi⟩
  ·have hmb2 : m + 2 ≤ b := by omega
   refine go 7 ?_
   refine o_v rfl (v_conv he he rfl (m := (a : Int) + (b : Int)) (wrap_u64 _ (by omega) (by omega))) ?_
   refine o_v rfl (v_shr1 rfl (by decide)) ?_
   refine o_v rfl (v_conv he he rfl (m := (((a + b) / 2 : Nat) : Int)) (by rw [IntKind.wrap_i64]; omega)) ?_
   refine go 7 ?_
   refine o_v rfl (OV.cast (u := .int .i64 ((((a + b) / 2) + m : Nat) : Int)) (v_add rfl rfl ⟨by omega, by omega⟩) (congrArg (Value.int .i64) (by omega))) ?_
   refine go 10 ?_
   refine c_cutx2 (Ix := (fun S R => I)) (Lx := (fun S R => [(0, .slice (some ⟨g, 0, none⟩) N cap), (1, .int .i64 ((a : Nat) : Int)), (2, .int .i64 ((m : Nat) : Int)), (3, .int .i64 ((b : Nat) : Int)), (4, .func (.func f) #[] #[]), (18, .int .i64 ((((a + b) / 2) : Nat) : Int)), (19, .int .i64 ((((a + b) / 2) + m : Nat) : Int)), (20, .int .i64 ((S : Nat) : Int)), (21, .int .i64 ((R : Nat) : Int))])) (Hx := (fun S R => [.blk g 142 (evCh (l) ++ rest.l).flatten])) (p := (fun S R => (((a + b) / 2) < m ∧ S = ((a + b) / 2) + m - b ∧ R = ((a + b) / 2)) ∨ (m ≤ ((a + b) / 2) ∧ S = a ∧ R = m))) ?_ ?_
   ·refine go 7 ?_
    refine cb rfl (fun h140 p140 => ?_) (fun h140 p140 => ?_)
    ·refine go 4 ?_
     refine o_v rfl (OV.cast (u := .int .i64 ((((a + b) / 2) + m - b : Nat) : Int)) (v_sub rfl rfl ⟨by omega, by omega⟩) (congrArg (Value.int .i64) (by omega))) ?_
     refine go 8 ?_
     exact q_cutx2 (((a + b) / 2) + m - b) (((a + b) / 2)) (.inl ⟨by omega, rfl, rfl⟩) sb rfl rfl
    ·refine go 11 ?_
     exact q_cutx2 (a) (m) (.inr ⟨by omega, rfl, rfl⟩) sb rfl rfl
   ·intro S R hS
    refine go 3 ?_
    refine o_v rfl (OV.cast (u := .int .i64 ((((a + b) / 2) + m - 1 : Nat) : Int)) (v_sub rfl rfl ⟨by omega, by omega⟩) (congrArg (Value.int .i64) (by omega))) ?_
    refine go 5 ?_
    refine c_loop2 (S) (R) (fun s r => I)
     (fun s r => [(0, .slice (some ⟨g, 0, none⟩) N cap), (1, .int .i64 ((a : Nat) : Int)), (2, .int .i64 ((m : Nat) : Int)), (3, .int .i64 ((b : Nat) : Int)), (4, .func (.func f) #[] #[]), (18, .int .i64 ((((a + b) / 2) : Nat) : Int)), (19, .int .i64 ((((a + b) / 2) + m : Nat) : Int)), (20, .int .i64 ((s : Nat) : Int)), (21, .int .i64 ((r : Nat) : Int)), (22, .int .i64 ((((a + b) / 2) + m - 1 : Nat) : Int))])
     (fun s r => [.blk g 142 (evCh (l) ++ rest.l).flatten])
     (fun s r => S ≤ s ∧ s ≤ r ∧ r ≤ R ∧ (∀ q, S ≤ q → q < s → dayAt l q ≤ dayAt l (((a + b) / 2) + m - 1 - q)) ∧ (∀ q, r ≤ q → q < R → dayAt l (((a + b) / 2) + m - 1 - q) < dayAt l q))
     (fun s r => r - s) ⟨by omega, by omega, by omega, fun q _ _ => by omega, fun q _ _ => by omega⟩ rfl sb rfl ?_
    intro s r ⟨hs1, hsr, hrR, hlo, hhi⟩
    refine go 8 ?_
    refine cb rfl (fun h151 p151 => ?_) (fun h151 p151 => ?_)
    ·have hh : (s + r) / 2 < l.length := by omega
     have hh2 : ((a + b) / 2) + m - 1 - (s + r) / 2 < l.length := by omega
     refine go 8 ?_
     refine o_v rfl (v_conv he he rfl (m := (s : Int) + (r : Int)) (wrap_u64 _ (by omega) (by omega))) ?_
     refine o_v rfl (v_shr1 rfl (by decide)) ?_
     refine o_v rfl (v_conv he he rfl (m := (((s + r) / 2 : Nat) : Int)) (by rw [IntKind.wrap_i64]; omega)) ?_
     refine go 4 ?_
     refine d_startH T.mixed ?_
     refine d_tv 0 rfl rfl (by kernel_rfl) rfl (.refl _) rfl (v_move rfl) ?_
     refine d_tv 1 rfl rfl (by kernel_rfl) rfl (.refl _) rfl (v_move rfl) ?_
     refine d_tv 2 rfl rfl (by kernel_rfl) rfl (.refl _) rfl (v_move rfl) ?_
     refine d_tv 3 rfl rfl (by kernel_rfl) rfl (.refl _) rfl (v_move rfl) ?_
     refine d_tv 4 rfl rfl (by kernel_rfl) rfl (.refl _) rfl (OV.cast (u := .int .i64 ((((a + b) / 2) + m - 1 - (s + r) / 2 : Nat) : Int)) (v_sub rfl rfl ⟨by omega, by omega⟩) (congrArg (Value.int .i64) (by omega))) ?_
     refine d_tv 5 rfl rfl (by kernel_rfl) rfl (.refl _) rfl (v_idx he rfl rfl rfl (((a + b) / 2) + m - 1 - (s + r) / 2) (by omega) (by omega)) ?_
     refine d_tv 6 rfl rfl (by kernel_rfl) rfl (.refl _) rfl (v_ldc m0 ((evCh_ukP _).append rest.uk) he rfl (((a + b) / 2) + m - 1 - (s + r) / 2) (by omega) (evCh_restP hh2)) ?_
     refine d_tv 7 rfl rfl (by kernel_rfl) rfl (.refl _) rfl (v_move rfl) ?_
     refine d_tv 8 rfl rfl (by kernel_rfl) rfl (.refl _) rfl (v_move rfl) ?_
     refine d_tv 9 rfl rfl (by kernel_rfl) rfl (.refl _) rfl (v_idx he rfl rfl rfl ((s + r) / 2) (by omega) (by omega)) ?_
     refine d_tv 10 rfl rfl (by kernel_rfl) rfl (.refl _) rfl (v_ldc m0 ((evCh_ukP _).append rest.uk) he rfl ((s + r) / 2) (by omega) (evCh_restP hh)) ?_
     refine d_one 11 (by kernel_rfl) rfl ?_
     refine o_callV (hp _ _) rfl rfl ?_
     refine d_on (fun _ m => m.keeps (.refl _)) ?_
     refine d_tv 12 rfl rfl (by kernel_rfl) rfl (.refl _) rfl (v_lss rfl rfl) ?_
     refine d_tv 13 rfl rfl (by kernel_rfl) rfl (.refl _) rfl (v_not rfl) ?_
     refine d_done (by kernel_rfl) ?_
     refine go 1 ?_
     refine cb rfl (fun h171 p171 => ?_) (fun h171 p171 => ?_)
     ·refine go 7 ?_
      exact q_next2 ((s + r) / 2 + 1) (r) ⟨by omega, by omega, by omega, spl_up m1 m2 ham hmb rfl hS (h := (s + r) / 2) (r := r) (by omega) (by omega) hrR (day_geP p171), hhi⟩ (by omega) rfl sb rfl
     ·refine go 6 ?_
      exact q_next2 (s) ((s + r) / 2) ⟨by omega, by omega, by omega, hlo, spl_dn m1 m2 ham hmb rfl hS (h := (s + r) / 2) (s := s) hs1 (by omega) (by omega) (day_ltP p171)⟩ (by omega) rfl sb rfl
    ·obtain rfl : s = r := by omega
     obtain ⟨hx, hy⟩ := spl_fin m1 m2 ham hmb rfl hS hs1 hrR hlo hhi
     have g0 : a ≤ s := by omega
     have g1 : s ≤ m := by omega
     have g2 : m ≤ ((a + b) / 2 + m - s) := by omega
     have g3 : ((a + b) / 2 + m - s) ≤ b := by omega
     have hc : s + (((a + b) / 2 + m - s) - m) = ((a + b) / 2) := by omega
     refine go 9 ?_
     refine o_v rfl (OV.cast (u := .int .i64 ((((a + b) / 2 + m - s) : Nat) : Int)) (v_sub rfl rfl ⟨by omega, by omega⟩) (congrArg (Value.int .i64) (by omega))) ?_
     refine go 4 ?_
     refine c_cutx (α := List Pkd) (Ix := (fun k => I)) (Lx := (fun k => [(0, .slice (some ⟨g, 0, none⟩) N cap), (1, .int .i64 ((a : Nat) : Int)), (2, .int .i64 ((m : Nat) : Int)), (3, .int .i64 ((b : Nat) : Int)), (4, .func (.func f) #[] #[]), (18, .int .i64 ((((a + b) / 2) : Nat) : Int)), (20, .int .i64 ((s : Nat) : Int)), (24, .int .i64 ((((a + b) / 2 + m - s) : Nat) : Int))])) (Hx := (fun k => [.blk g 142 (evCh (k) ++ rest.l).flatten])) (p := (fun k => Rot l k a s m ((a + b) / 2 + m - s) b)) ?_ ?_
     ·refine go 6 ?_
      refine sxb 181 rfl (fun h181 p181 => ?_) (fun h181 p181 => ?_)
      ·refine go 6 ?_
       refine cb rfl (fun h185 p185 => ?_) (fun h185 p185 => ?_)
       ·refine go 7 ?_
        refine o_callX1 (rotateP _ l N hN g s m ((a + b) / 2 + m - s) f (by omega) (by omega) (by omega) (by omega)) rfl rfl (fun v191 s191 q191 => ?_)
        obtain ⟨rfl, k, rfl, hkl, hk⟩ := q191
        refine go 2 ?_
        exact q_cutx k (Rot.of g1 g2 (by omega) hkl hk hx) sb rfl rfl
       ·refine go 2 ?_
        exact q_cutx l (Rot.id (by omega) g1 g2) sb rfl rfl
      ·refine go 6 ?_
       refine c_false rfl ?_
       refine go 2 ?_
       exact q_cutx l (Rot.id (by omega) g1 g2) sb rfl rfl
     ·intro k hk
      refine go 1 ?_
      refine c_cutx (α := List Pkd) (Ix := (fun k1 => I)) (Lx := (fun k1 => [(0, .slice (some ⟨g, 0, none⟩) N cap), (1, .int .i64 ((a : Nat) : Int)), (2, .int .i64 ((m : Nat) : Int)), (3, .int .i64 ((b : Nat) : Int)), (4, .func (.func f) #[] #[]), (18, .int .i64 ((((a + b) / 2) : Nat) : Int)), (20, .int .i64 ((s : Nat) : Int)), (24, .int .i64 ((((a + b) / 2 + m - s) : Nat) : Int))])) (Hx := (fun k1 => [.blk g 142 (evCh (k1) ++ rest.l).flatten])) (p := (fun k1 => Seg k k1 a ((a + b) / 2))) ?_ ?_
      ·refine go 6 ?_
       refine sxb 195 rfl (fun h195 p195 => ?_) (fun h195 p195 => ?_)
       ·refine go 6 ?_
        refine cb rfl (fun h199 p199 => ?_) (fun h199 p199 => ?_)
        ·refine go 7 ?_
         refine o_callX1 (ih k a s ((a + b) / 2) (hk.len.trans hN) (by omega) (by omega) (by omega) (by have := hk.len; omega) (hk.p1 m1 g1) ((hk.p2 m2 g1 g2 g3).sub (Nat.le_refl _) (by omega))) rfl rfl (fun v205 s205 q205 => ?_)
         obtain ⟨rfl, k1, rfl, hk1⟩ := q205
         refine go 2 ?_
         exact q_cutx k1 hk1 sb rfl rfl
        ·refine go 2 ?_
         exact q_cutx k (Seg.refl' (hk.left m1 m2 g1 g2 g3 hc (by omega) g0)) sb rfl rfl
       ·refine go 6 ?_
        refine c_false rfl ?_
        refine go 2 ?_
        exact q_cutx k (Seg.refl' (hk.left m1 m2 g1 g2 g3 hc (by omega) g0)) sb rfl rfl
      ·intro k1 hk1
       have hl1 : k1.length = N := hk1.len.trans (hk.len.trans hN)
       refine go 6 ?_
       refine sxb 209 rfl (fun h209 p209 => ?_) (fun h209 p209 => ?_)
       ·refine go 6 ?_
        refine cb rfl (fun h213 p213 => ?_) (fun h213 p213 => ?_)
        ·refine go 7 ?_
         refine o_callX1 (ih k1 ((a + b) / 2) ((a + b) / 2 + m - s) b hl1 (by omega) (by omega) (by omega) (by omega) (hk1.keepD (Nat.le_refl _) ((hk.p3 m1 g0 g1 g2).sub (by omega) (Nat.le_refl _))) (hk1.keepD (by omega) (hk.p4 m2 g1 g2))) rfl rfl (fun v219 s219 q219 => ?_)
         obtain ⟨rfl, k2, rfl, hk2⟩ := q219
         refine go 1 ?_
         refine end0 rfl ?_
         exact q_x ⟨rfl, k2, rfl, hk.done m1 m2 g0 g1 g2 g3 hb hc hx hy hk1 hk2⟩
        ·refine go 1 ?_
         refine end0 rfl ?_
         exact q_x ⟨rfl, k1, rfl, hk.done m1 m2 g0 g1 g2 g3 hb hc hx hy hk1 (Seg.refl' (hk1.keepD (Nat.le_refl _) (hk.right m1 m2 g0 g1 g2 hc (by omega) g3)))⟩
       ·refine go 6 ?_
        refine c_false rfl ?_
        refine go 1 ?_
        refine end0 rfl ?_
        exact q_x ⟨rfl, k1, rfl, hk.done m1 m2 g0 g1 g2 g3 hb hc hx hy hk1 (Seg.refl' (hk1.keepD (Nat.le_refl _) (hk.right m1 m2 g0 g1 g2 hc (by omega) g3)))⟩

theorem symMergeP (I : IMap) {rest : Rst 15} {cap : Nat} (N g : Nat) (f : FuncId) (hp : ∀ x y : Pkd, FnV Tryz.prog f #[.agg (Day.ch x).toArray, .agg (Day.ch y).toArray] I (.int .i64 ((Day.day x - Day.day y)))) (hN0 : N ≤ 1000000) (W : Nat) : ∀ (l : List Pkd) (a m b : Nat), l.length = N → b - a ≤ W → a < m → m < b → b ≤ l.length → SrtD l a m → SrtD l m b → FnX Tryz.prog 160 #[.slice (some ⟨g, 0, none⟩) N cap, .int .i64 ((a : Nat) : Int), .int .i64 ((m : Nat) : Int), .int .i64 ((b : Nat) : Int), .func (.func f) #[] #[]] I [.blk g 142 (evCh (l) ++ rest.l).flatten] (fun u r => u = .tuple #[] ∧ ∃ m, r = .blk g 142 (evCh (m) ++ rest.l).flatten ∧ Seg l m a b) := by
  induction W using Nat.strongRecOn with
  | _ W ih => exact fun l a m b hN hW ham hmb hb m1 m2 => symMergeWP I N g f hp hN0 W (fun l' a' m' b' h1 h2 h3 h4 h5 h6 h7 => ih (b' - a') h2 l' a' m' b' h1 (Nat.le_refl _) h3 h4 h5 h6 h7) l a m b hN hW ham hmb hb m1 m2

theorem stableP (I : IMap) {rest : Rst 15} {cap : Nat} (N g : Nat) (f : FuncId) (hp : ∀ x y : Pkd, FnV Tryz.prog f #[.agg (Day.ch x).toArray, .agg (Day.ch y).toArray] I (.int .i64 ((Day.day x - Day.day y)))) (hN0 : N ≤ 1000000) (l : List Pkd) (hN : l.length = N) :
    FnX Tryz.prog 127 #[.slice (some ⟨g, 0, none⟩) N cap, .int .i64 ((N : Nat) : Int), .func (.func f) #[] #[]] I [.blk g 142 (evCh (l) ++ rest.l).flatten] (fun u r => u = .tuple #[] ∧ ∃ m, r = .blk g 142 (evCh (m) ++ rest.l).flatten ∧ Stb l m ∧ SrtD m 0 N) := by
 refine enter Tryz.func127 Tryz.call127 rfl Tryz.ntmps127 rfl (fun w0 => ?_)
 refine go 14 ?_
 refine c_loop2 (0) (l) (fun a m => I)
  (fun a m => [(0, .slice (some ⟨g, 0, none⟩) N cap), (1, .int .i64 ((N : Nat) : Int)), (2, .func (.func f) #[] #[]), (6, .int .i64 20), (7, .int .i64 ((a : Nat) : Int)), (8, .int .i64 ((a + 20 : Nat) : Int))])
  (fun a m => [.blk g 142 (evCh (m) ++ rest.l).flatten])
  (fun a m => a ≤ N ∧ Stb l m ∧ Pre m 20 a)
  (fun a m => N - a) ⟨Nat.zero_le _, Stb.refl l, .zero⟩ rfl sb rfl ?_
 intro a m ⟨ha, hs, hP⟩
 have hmN : m.length = N := hs.1.symm.trans hN
 refine go 8 ?_
 refine cb rfl (fun h13 p13 => ?_) (fun h13 p13 => ?_)
 ·refine go 10 ?_
  refine o_callX1 (insSortP _ m N hmN g a (a + 20) f hp (by omega) (by omega) (by omega)) rfl rfl (fun v18 s18 q18 => ?_)
  obtain ⟨rfl, k18, rfl, h18⟩ := q18
  refine go 11 ?_
  refine o_v rfl (OV.cast (u := .int .i64 ((a + 20 + 20 : Nat) : Int)) (v_add rfl rfl ⟨by omega, by omega⟩) (congrArg (Value.int .i64) (by omega))) ?_
  refine go 4 ?_
  exact q_next2 (a + 20) (k18) ⟨by omega, hs.trans h18.stb, hP.put h18⟩ (by omega) rfl sb rfl
 ·refine go 12 ?_
  refine o_callX1 (insSortP _ m N hmN g a N f hp ha (by omega) (by omega)) rfl rfl (fun v27 s27 q27 => ?_)
  obtain ⟨rfl, m3, rfl, h27⟩ := q27
  refine go 3 ?_
  refine c_loop2 (20) (m3) (fun q m => I)
   (fun q m => [(0, .slice (some ⟨g, 0, none⟩) N cap), (1, .int .i64 ((N : Nat) : Int)), (2, .func (.func f) #[] #[]), (6, .int .i64 ((q : Nat) : Int))])
   (fun q m => [.blk g 142 (evCh (m) ++ rest.l).flatten])
   (fun q m => 1 ≤ q ∧ Stb l m ∧ Blk m q N 0)
   (fun q m => N - q) ⟨by omega, hs.trans h27.stb, hP.last h27 ha (by omega)⟩ rfl sb rfl ?_
  intro q m ⟨hq, hs, hB⟩
  have hmN : m.length = N := hs.1.symm.trans hN
  refine go 8 ?_
  refine cb rfl (fun h30 p30 => ?_) (fun h30 p30 => ?_)
  ·refine go 6 ?_
   refine o_v rfl (OV.cast (u := .int .i64 ((2 * q : Nat) : Int)) (v_mul rfl rfl ⟨by omega, by omega⟩) (congrArg (Value.int .i64) (by omega))) ?_
   refine go 6 ?_
   refine c_loop2 (0) (m) (fun a k => I)
    (fun a k => [(0, .slice (some ⟨g, 0, none⟩) N cap), (1, .int .i64 ((N : Nat) : Int)), (2, .func (.func f) #[] #[]), (6, .int .i64 ((q : Nat) : Int)), (7, .int .i64 ((a : Nat) : Int)), (8, .int .i64 ((a + 2 * q : Nat) : Int))])
    (fun a k => [.blk g 142 (evCh (k) ++ rest.l).flatten])
    (fun a k => a ≤ N ∧ Stb l k ∧ Pre k (2 * q) a ∧ Blk k q N a)
    (fun a k => N - a) ⟨Nat.zero_le _, hs, .zero, hB⟩ rfl ⟨rfl, rfl, rfl, rfl, rfl, congrArg (fun z : Int => some (Value.int .i64 z)) (by omega), trivial⟩ rfl ?_
   intro a k ⟨ha, hkS, hkP, hkB⟩
   have hkN : k.length = N := hkS.1.symm.trans hN
   refine go 8 ?_
   refine cb rfl (fun h35 p35 => ?_) (fun h35 p35 => ?_)
   ·obtain ⟨t1, t2, t3⟩ := hkB.two (by omega) hq
    refine go 9 ?_
    refine o_v rfl (OV.cast (u := .int .i64 ((a + q : Nat) : Int)) (v_add rfl rfl ⟨by omega, by omega⟩) (congrArg (Value.int .i64) (by omega))) ?_
    refine go 3 ?_
    refine o_callX1 (symMergeP _ N g f hp hN0 _ k a (a + q) (a + 2 * q) hkN (Nat.le_refl _) (by omega) (by omega) (by omega) t1 t2) rfl rfl (fun v43 s43 q43 => ?_)
    obtain ⟨rfl, k43, rfl, h43⟩ := q43
    refine go 11 ?_
    refine o_v rfl (OV.cast (u := .int .i64 ((2 * q : Nat) : Int)) (v_mul rfl rfl ⟨by omega, by omega⟩) (congrArg (Value.int .i64) (by omega))) ?_
    refine o_v rfl (OV.cast (u := .int .i64 ((a + 2 * q + 2 * q : Nat) : Int)) (v_add rfl rfl ⟨by omega, by omega⟩) (congrArg (Value.int .i64) (by omega))) ?_
    refine go 4 ?_
    exact q_next2 (a + 2 * q) (k43) ⟨by omega, hkS.trans h43.stb, hkP.put h43, t3.same fun z z1 z2 => h43.out z (.inr (by omega))⟩ (by omega) rfl sb rfl
   ·refine go 6 ?_
    refine c_cutx (α := List Pkd) (Ix := (fun k => I)) (Lx := (fun k => [(0, .slice (some ⟨g, 0, none⟩) N cap), (1, .int .i64 ((N : Nat) : Int)), (2, .func (.func f) #[] #[]), (6, .int .i64 ((q : Nat) : Int))])) (Hx := (fun k => [.blk g 142 (evCh (k) ++ rest.l).flatten])) (p := (fun k => Stb l k ∧ Blk k (2 * q) N 0)) ?_ ?_
    ·refine go 4 ?_
     refine o_v rfl (OV.cast (u := .int .i64 ((a + q : Nat) : Int)) (v_add rfl rfl ⟨by omega, by omega⟩) (congrArg (Value.int .i64) (by omega))) ?_
     refine go 10 ?_
     refine cb rfl (fun h54 p54 => ?_) (fun h54 p54 => ?_)
     ·obtain ⟨t1, t2⟩ := hkB.one (by omega)
      refine go 7 ?_
      refine o_callX1 (symMergeP _ N g f hp hN0 _ k a (a + q) N hkN (Nat.le_refl _) (by omega) (by omega) (by omega) t1 (t2 (by omega))) rfl rfl (fun v60 s60 q60 => ?_)
      obtain ⟨rfl, k60, rfl, h60⟩ := q60
      refine go 2 ?_
      exact q_cutx k60 ⟨hkS.trans h60.stb, hkP.last h60 ha (by omega)⟩ sb rfl rfl
     ·refine go 2 ?_
      exact q_cutx k ⟨hkS, hkP.last (Seg.refl' (hkB.all (by omega))) ha (by omega)⟩ sb rfl rfl
    ·intro k ⟨hkS, hkB⟩
     refine go 2 ?_
     refine o_v rfl (OV.cast (u := .int .i64 ((2 * q : Nat) : Int)) (v_mul rfl rfl ⟨by omega, by omega⟩) (congrArg (Value.int .i64) (by omega))) ?_
     refine go 4 ?_
     exact q_next2 (2 * q) (k) ⟨by omega, hkS, hkB⟩ (by omega) rfl sb rfl
  ·refine go 4 ?_
   refine end0 rfl ?_
   exact q_x ⟨rfl, m, rfl, hs, hB.all (by omega)⟩

theorem sortStableP (I : IMap) {rest : Rst 15} {cap : Nat} (N g : Nat) (f : FuncId) (hp : ∀ x y : Pkd, FnV Tryz.prog f #[.agg (Day.ch x).toArray, .agg (Day.ch y).toArray] I (.int .i64 ((Day.day x - Day.day y)))) (hN0 : N ≤ 1000000) (l : List Pkd) (hN : l.length = N) :
    FnX Tryz.prog 109 #[.slice (some ⟨g, 0, none⟩) N cap, .func (.func f) #[] #[]] I [.blk g 142 (evCh (l) ++ rest.l).flatten] (fun u r => u = .tuple #[] ∧ ∃ m, r = .blk g 142 (evCh (m) ++ rest.l).flatten ∧ Stb l m ∧ SrtD m 0 N) := by
 refine enter Tryz.func109 Tryz.call109 rfl Tryz.ntmps109 rfl (fun w0 => ?_)
 refine go 6 ?_
 refine o_callX1 (stableP _ N g f hp hN0 l hN) rfl rfl (fun v8 s8 q8 => ?_)
 obtain ⟨rfl, m8, rfl, h8⟩ := q8
 refine go 1 ?_
 refine end0 rfl ?_
 exact q_x ⟨rfl, m8, rfl, h8⟩

theorem insSortNil (I : IMap) (f : FuncId) :
    FnV Tryz.prog 159 #[.slice none 0 0, .int .i64 0, .int .i64 0, .func (.func f) #[] #[]] I (.tuple #[]) := by
 refine enter Tryz.func159 Tryz.call159 rfl Tryz.ntmps159 rfl (fun w0 => ?_)
 refine go 3 ?_
 refine o_v rfl (OV.cast (u := .int .i64 1) (v_add rfl rfl ⟨by omega, by omega⟩) rfl) ?_
 refine go 4 ?_
 refine c_loop (α := Nat) 0 (fun i => I)
  (fun i => [(0, .slice none 0 0), (1, .int .i64 0), (2, .int .i64 0), (3, .func (.func f) #[] #[]), (8, .int .i64 1)])
  (fun i => [])
  (fun i => True)
  (fun i => 0) trivial rfl sb rfl ?_
 intro i _
 refine go 8 ?_
 refine cb rfl (fun h14 p14 => ?_) (fun h14 p14 => ?_)
 ·exact absurd p14 (by decide)
 ·refine go 4 ?_
  refine end0 rfl ?_
  exact q_v rfl

theorem stableNil (I : IMap) (f : FuncId) :
    FnV Tryz.prog 127 #[.slice none 0 0, .int .i64 0, .func (.func f) #[] #[]] I (.tuple #[]) := by
 refine enter Tryz.func127 Tryz.call127 rfl Tryz.ntmps127 rfl (fun w0 => ?_)
 refine go 14 ?_
 refine c_loop (α := Nat) 0 (fun i => I)
  (fun i => [(0, .slice none 0 0), (1, .int .i64 0), (2, .func (.func f) #[] #[]), (6, .int .i64 20), (7, .int .i64 0), (8, .int .i64 20)])
  (fun i => [])
  (fun i => True)
  (fun i => 0) trivial rfl sb rfl ?_
 intro i _
 refine go 8 ?_
 refine cb rfl (fun h13 p13 => ?_) (fun h13 p13 => ?_)
 ·exact absurd p13 (by decide)
 ·refine go 12 ?_
  refine o_callV (insSortNil _ f) rfl rfl ?_
  refine go 3 ?_
  refine c_loop (α := Nat) 0 (fun i => I)
   (fun i => [(0, .slice none 0 0), (1, .int .i64 0), (2, .func (.func f) #[] #[]), (6, .int .i64 20)])
   (fun i => [])
   (fun i => True)
   (fun i => 0) trivial rfl sb rfl ?_
  intro i _
  refine go 8 ?_
  refine cb rfl (fun h30 p30 => ?_) (fun h30 p30 => ?_)
  ·exact absurd p30 (by decide)
  ·refine go 4 ?_
   refine end0 rfl ?_
   exact q_v rfl

theorem sortNil (I : IMap) (f : FuncId) :
    FnV Tryz.prog 109 #[.slice none 0 0, .func (.func f) #[] #[]] I (.tuple #[]) := by
 refine enter Tryz.func109 Tryz.call109 rfl Tryz.ntmps109 rfl (fun w0 => ?_)
 refine go 6 ?_
 refine o_callV (stableNil _ f) rfl rfl ?_
 refine go 1 ?_
 refine end0 rfl ?_
 exact q_v rfl

theorem sortPk (I : IMap) (v : Value) (l : List Pkd) (hN0 : l.length ≤ 1000000) (f : FuncId) (hp : ∀ x y : Pkd, FnV Tryz.prog f #[.agg (Day.ch x).toArray, .agg (Day.ch y).toArray] I (.int .i64 (Day.day x - Day.day y))) :
    FnX Tryz.prog 109 #[v, .func (.func f) #[] #[]] I [.row v 142 15 l.length (evCh l).flatten] (fun u r => u = .tuple #[] ∧ r = .row v 142 15 l.length (evCh (sortF l)).flatten) :=
  FnX.of_rowV (args := fun v => [v, .func (.func f) #[] #[]]) (evCh_ukP l) (evCh_len l)
    (fun h0 hv => by
      obtain rfl := List.eq_nil_of_length_eq_zero h0
      subst hv
      exact FnX.of_V (sortNil I f))
    (fun g cap rest hv hR hc hl => by
      subst hv
      refine FnX.back (yss := evCh (sortF l)) (evCh_ukP _) hR (by rw [evCh_len, sortF_len]) hc hl ?_
      refine FnH.mono (sortStableP I (rest := ⟨rest, hR⟩) (cap := cap) l.length g f hp hN0 l rfl) fun u I' H' hI h => ?_
      obtain ⟨h1, r', h2, h3, m, h4, h5, h6⟩ := h
      have hml : m.length = l.length := h5.1.symm
      obtain rfl := sortF_is h5 (SrtD.pw (by rw [hml]; exact h6))
      exact ⟨h1, r', h2, ⟨h3, rfl⟩, h4⟩)

theorem pkByDay (I : IMap) (x y : Pkd) :
    FnV Tryz.prog 110 #[.agg (Day.ch x).toArray, .agg (Day.ch y).toArray] I (.int .i64 (Day.day x - Day.day y)) := by
 refine enter Tryz.func110 Tryz.call110 rfl Tryz.ntmps110 rfl (fun w0 => ?_)
 show SX _ _ _ (argsL [.agg x.cells.toArray, .agg y.cells.toArray] 0) _ _
 refine go 3 ?_
 refine o_box _ rfl rfl rfl (fun g2 => ?_)
 refine go 1 ?_
 refine o_box _ rfl rfl rfl (fun g3 => ?_)
 refine go 11 ?_
 refine o_v rfl (v_sub rfl rfl ⟨by have := x.lo; have := x.hi; have := y.lo; have := y.hi; omega, by have := x.lo; have := x.hi; have := y.lo; have := y.hi; omega⟩) ?_
 refine go 4 ?_
 refine fin1 rfl rfl ?_
 exact q_v rfl

theorem followStep (I : IMap) (vc : Value) (c : List Kind) (hvc : RdS I vc c) (hsc : SmC c) (g1 : Nat) (c1 : ICells I g1 0 [vc]) (g2 : Nat) (v : Value) (st : List Part) (hv : RdS I v st) (hsf : SmF st) (e : Evt) (hse : SmE e) :
    FnG Tryz.prog 111 #[.agg e.cells.toArray, .pointer (some ⟨g1, 0, none⟩), .pointer (some ⟨g2, 0, none⟩)] I (.blk g2 134 [v]) (fun u J r => u = .int .i64 (applyF c st e).2 ∧ ∃ w, r = .blk g2 134 [w] ∧ RdS J w (applyF c st e).1) := by
 refine enter Tryz.func111 Tryz.call111 rfl Tryz.ntmps111 rfl (fun w0 => ?_)
 refine go 3 ?_
 refine o_box _ rfl rfl rfl (fun g3 => ?_)
 refine go 5 ?_
 refine o_v rfl (v_ldIa he rfl c1 rfl) ?_
 refine go 3 ?_
 refine o_call (flApply _ vc c hvc hsc v st hv hsf e hse) rfl rfl (fun v9 I9 j9 q9 => ?_)
 obtain ⟨w9, rfl, hw9⟩ := q9
 refine go 4 ?_
 refine bring1 ?_
 refine o_stw _ he rfl rfl rfl rfl rfl (by simp [hw9.one]) ?_
 refine go 10 ?_
 refine fin1 rfl rfl ?_
 refine bring1 ?_
 refine sx_drop ?_
 exact q_g ⟨rfl, w9, rfl, hw9⟩

theorem hiFollow (I : IMap) (vc : Value) (c : List Kind) (hvc : RdS I vc c) (hsc : SmC c) (v : Value) (l : List Rep) (hv : RdS I v l) (hl : l.length ≤ 1000000) (hsl : ∀ r ∈ l, ∀ e ∈ r.options, SmE e) (hgd : ∀ r ∈ l, validRep r = true) (w : Value) (ch : List Int) (hw : RdS I w ch) (hlc : ch.length = l.length) (day : Int) :
    FnI Tryz.prog 86 #[.agg #[vc], v, w, .int .i64 day] I (fun u J => u = .tuple #[.int .i64 (followF c l ch day).1, .int .i64 (followF c l ch day).2]) := by
 obtain ⟨A, c0, rfl, hA, hc, hm⟩ := hv
 obtain ⟨B, c1, rfl, hB, hc1, hm1⟩ := hw
 refine enter Tryz.func86 Tryz.call86 rfl Tryz.ntmps86 rfl (fun w0 => ?_)
 refine go 3 ?_
 refine o_box _ rfl rfl rfl (fun g4 => ?_)
 refine go 6 ?_
 refine sx_nilrow 142 15 ?_
 refine go 12 ?_
 refine c_loop4 ((0 : Nat)) (_) ([]) ([]) (fun i v xs out => I)
  (fun i v xs out => [(4, .pointer (some ⟨g4, 0, none⟩)), (2, .slice B ch.length c1), (3, .int .i64 day), (10, v), (19, .slice A l.length c0), (20, .int .i64 ((l.length : Nat) : Int)), (21, .int .i64 ((i : Nat) : Int))])
  (fun i v xs out => [.row v 142 15 out.length xs, .blk g4 24 [vc]])
  (fun i v xs out => i ≤ l.length ∧ pickF day l ch i = out ∧ Flat I xs out)
  (fun i v xs out => l.length - i) ⟨Nat.zero_le _, rfl, .nil⟩ rfl sb rfl ?_
 intro i v xs out ⟨hi, hw, hF⟩
 have hol : out.length ≤ i := by rw [← hw]; exact pick_len _ _ _ _
 refine go 6 ?_
 refine cb rfl (fun h22 p22 => ?_) (fun h22 p22 => ?_)
 ·have hlt : i < l.length := by omega
  have hlt2 : i < ch.length := by omega
  refine go 7 ?_
  obtain ⟨b24, o24, w24, e24, c24, r24⟩ := RdA.at_ hA (i := i) hlt
  obtain ⟨q24, rfl, S24, d24, rfl, hS24, hd24, hm24⟩ := r24
  refine o_v rfl (v_idx he rfl rfl e24 (i) (by omega) hlt) ?_
  refine o_v rfl (v_ldIa he rfl c24 rfl) ?_
  refine go 1 ?_
  refine o_alloc he rfl (fun g12 => ?_)
  refine go 2 ?_
  refine o_stw _ he rfl rfl rfl rfl rfl rfl ?_
  refine go 6 ?_
  obtain ⟨b28, o28, w28, e28, c28, r28⟩ := RdA.at_ hB (i := i) hlt2
  obtain rfl := r28
  refine o_v rfl (v_idx he rfl rfl e28 (i) (by omega) hlt2) ?_
  refine o_v rfl (v_ldI he rfl (c28 0 _ rfl)) ?_
  refine go 8 ?_
  refine sxb 32 rfl (fun h32 p32 => ?_) (fun h32 p32 => ?_)
  ·refine go 7 ?_
   refine sxb 39 rfl (fun h39 p39 => ?_) (fun h39 p39 => ?_)
   ·have hk : ch[i].toNat < l[i].options.length := by omega
    have hday := validE_day (validRep_e (hgd _ (List.getElem_mem hlt)) _ (List.getElem_mem hk))
    refine go 3 ?_
    obtain ⟨b43, o43, w43, e43, c43, r43⟩ := RdA.at_ hS24 (i := ch[i].toNat) hk
    obtain rfl := r43
    refine o_cons (o_yes rfl rfl h39 (o_val rfl (v_idx he rfl rfl e43 (ch[i].toNat) (by omega) hk) ?_))
    refine go 1 ?_
    refine o_cons (o_yes rfl rfl h39 (o_val rfl (v_ldI he rfl (c43 1 _ rfl)) ?_))
    refine go 5 ?_
    refine cb rfl (fun h48 p48 => ?_) (fun h48 p48 => ?_)
    ·refine go 5 ?_
     obtain ⟨b53, o53, w53, e53, c53, r53⟩ := RdA.at_ hS24 (i := ch[i].toNat) hk
     obtain rfl := r53
     refine o_v rfl (v_idx he rfl rfl e53 (ch[i].toNat) (by omega) hk) ?_
     refine o_v rfl (v_ldIa he rfl c53 rfl) ?_
     refine go 2 ?_
     refine o_val rfl (v_build (pl := [(0, 14), (14, 1)]) he he rfl rfl) ?_
     refine go 1 ?_
     refine o_buildSlice he he rfl rfl rfl rfl rfl rfl rfl (fun v57 => ?_)
     refine go 1 ?_
     refine bring2 ?_
     refine o_appendO he he rfl rfl rfl rfl rfl (by omega) (by omega) rfl (fun v58 => ?_)
     refine go 9 ?_
     refine bring1 ?_
     refine sx_drop ?_
     refine bring1 ?_
     refine sx_drop ?_
     exact q_next4 (i + 1) (_) (_) (out ++ [⟨l[i].options[ch[i].toNat], i, hday.1, hday.2⟩]) ⟨by omega, pk_yes hlt hlt2 hw p32 hk p48 hday, hF.append (.one rfl)⟩ (by omega) rfl sb (by first | rfl | (simp only [List.length_append, List.length_singleton]; rfl) | simp only [List.length_append, List.length_singleton])
    ·refine go 8 ?_
     refine sx_drop ?_
     exact q_next4 (i + 1) (_) (_) (out) ⟨by omega, pk_late hlt hlt2 hw hk p48, hF⟩ (by omega) rfl sb (by first | rfl | (simp only [List.length_append, List.length_singleton]; rfl) | simp only [List.length_append, List.length_singleton])
   ·refine go 11 ?_
    refine c_false rfl ?_
    refine go 8 ?_
    refine sx_drop ?_
    exact q_next4 (i + 1) (_) (_) (out) ⟨by omega, pk_big hlt hlt2 hw p39, hF⟩ (by omega) rfl sb (by first | rfl | (simp only [List.length_append, List.length_singleton]; rfl) | simp only [List.length_append, List.length_singleton])
  ·refine go 18 ?_
   refine c_false rfl ?_
   refine go 8 ?_
   refine sx_drop ?_
   exact q_next4 (i + 1) (_) (_) (out) ⟨by omega, pk_neg hlt hlt2 hw p32, hF⟩ (by omega) rfl sb (by first | rfl | (simp only [List.length_append, List.length_singleton]; rfl) | simp only [List.length_append, List.length_singleton])
 ·have e : i = l.length := (by omega)
  subst e
  refine go 9 ?_
  obtain ⟨xss, rfl, hx⟩ := FlatC.of hF
  obtain rfl := evCh_ofP hx
  refine o_callX1 (sortPk _ v out (by omega) 110 (fun x y => pkByDay _ x y)) rfl rfl (fun v61 s61 q61 => ?_)
  obtain ⟨rfl, rfl⟩ := q61
  have hso := sortF_len out
  refine sx_pubrow (l := sortF out) rfl (by rw [sortF_len]) ((evCh_flatP _).flat) (fun I61 j61 R61 => ?_)
  have hvc := hvc.le j61
  refine go 5 ?_
  refine o_alloc he rfl (fun g14 => ?_)
  refine go 4 ?_
  obtain ⟨A6, c6, rfl, hA6, _, _⟩ := R61
  refine bring1 ?_
  refine sx_pub (fun Ig4 jg4 cg4 => ?_)
  have hvc := hvc.le jg4
  have hA6 := hA6.le jg4
  refine o_v rfl (v_makeFunc rfl rfl) ?_
  refine go 12 ?_
  refine c_loop4 (0) ([]) (.slice none 0 0) (Ig4) (fun i st v14 J => J)
   (fun i st v14 J => [(15, .func (.func 111) #[] #[.pointer (some ⟨g4, 0, none⟩), .pointer (some ⟨g14, 0, none⟩)]), (63, .slice A6 (sortF out).length c6), (64, .int .i64 (((sortF out).length : Nat) : Int)), (65, .int .i64 ((i : Nat) : Int))])
   (fun i st v14 J => [.blk g14 134 [v14]])
   (fun i st v14 J => i ≤ (sortF out).length ∧ ILe Ig4 J ∧ RdS J v14 st ∧ SmF st ∧ followGo c [] (sortF out) = followGo c st ((sortF out).drop i))
   (fun i st v14 J => (sortF out).length - i) ⟨Nat.zero_le _, ILe.refl _, RdS.nil', SmF.nil, rfl⟩ rfl sb rfl ?_
  intro i st v14 J ⟨hi, hJ, hv14, hsf, hgo⟩
  have hvc := hvc.le hJ
  have hA6 := hA6.le hJ
  have cg4 := cg4.le hJ
  refine go 6 ?_
  refine cb rfl (fun h66 p66 => ?_) (fun h66 p66 => ?_)
  ·have hlt : i < (sortF out).length := by omega
   have hse : SmE (sortF out)[i].e := by
     obtain ⟨r, hr, he⟩ := pick_mem (day := day) (l := l) (ch := ch) (n := l.length) (p := (sortF out)[i]) (by rw [hw]; exact sortF_mem.1 (List.getElem_mem hlt))
     exact hsl r hr _ he
   refine go 6 ?_
   obtain ⟨b67, o67, w67, e67, c67, r67⟩ := RdA.at_ hA6 (i := i) hlt
   obtain rfl := r67
   refine o_v rfl (v_idx he rfl rfl e67 (i) (by omega) hlt) ?_
   refine o_v rfl (v_ldIa he rfl c67 rfl) ?_
   refine go 1 ?_
   refine o_alloc he rfl (fun g17 => ?_)
   refine go 1 ?_
   refine o_stw _ he rfl rfl rfl rfl rfl rfl ?_
   refine go 6 ?_
   refine o_v rfl (v_ldp ((sortF out)[i].e.cells) m0 he rfl rfl rfl) ?_
   refine go 1 ?_
   refine bring1 ?_
   refine o_callG (followStep _ vc c hvc hsc g4 cg4 g14 v14 st hv14 hsf (sortF out)[i].e hse) rfl rfl (fun v72 I72 s72 j72 q72 => ?_)
   obtain ⟨rfl, w72, rfl, hw72⟩ := q72
   refine go 9 ?_
   refine cb rfl (fun h74 p74 => ?_) (fun h74 p74 => ?_)
   ·have hok : ¬ (applyF c st (sortF out)[i].e).2 = 0 := by simpa using p74
    refine go 15 ?_
    refine fin2 rfl rfl rfl ?_
    exact q_i (by simp only [followF, hw, hgo, follow_step hlt, if_neg hok])
   ·have hok : (applyF c st (sortF out)[i].e).2 = 0 := by simpa using p74
    refine go 8 ?_
    refine bring1 ?_
    refine sx_drop ?_
    exact q_next4 (i + 1) (_) (_) (I72) ⟨by omega, hJ.trans j72, hw72, applyF_sm hsf hse, by rw [hgo, follow_step hlt, if_pos hok]⟩ (by omega) rfl sb rfl
  ·refine go 12 ?_
   refine fin2 rfl rfl rfl ?_
   exact q_i (by simp only [followF, hw, hgo, List.drop_eq_nil_of_le (show (sortF out).length ≤ i by omega)]; rfl)

theorem hiFails (I : IMap) (vc : Value) (c : List Kind) (hvc : RdS I vc c) (hsc : SmC c) (v : Value) (l : List Rep) (hv : RdS I v l) (hl : l.length ≤ 1000000) (hsl : ∀ r ∈ l, ∀ e ∈ r.options, SmE e) (w : Value) (ch : List Int) (hw : RdS I w ch) :
    FnI Tryz.prog 50 #[.agg #[vc], v, w] I (fun u J => u = .tuple #[.int .i64 (failsF c l ch).1, .int .i64 (failsF c l ch).2]) := by
 refine enter Tryz.func50 Tryz.call50 rfl Tryz.ntmps50 rfl (fun w0 => ?_)
 refine go 3 ?_
 refine o_box _ rfl rfl rfl (fun g3 => ?_)
 refine go 11 ?_
 refine o_callV (hiGiven _ vc c hvc hsc _ l hv hsl _ ch hw 0) rfl rfl ?_
 refine go 3 ?_
 refine cb rfl (fun h12 p12 => ?_) (fun h12 p12 => ?_)
 ·refine go 8 ?_
  refine fin2 rfl rfl rfl ?_
  exact q_i (by rw [failsF, if_pos (by simpa using h12)])
 ·obtain ⟨hlc, hgd⟩ := given_all (c := c) (l := l) (ch := ch) (n := 0) (by simpa using h12)
  refine go 8 ?_
  refine o_call (hiFollow _ vc c hvc hsc _ l hv hl hsl hgd _ ch hw hlc 40001) rfl rfl (fun v16 I16 j16 q16 => ?_)
  obtain rfl := q16
  refine go 7 ?_
  refine fin2 rfl rfl rfl ?_
  exact q_i (by rw [failsF, if_neg (by simp [show givenF c l ch 0 = true by simpa using h12])]; rfl)

theorem hiIs (I : IMap) (vc : Value) (c : List Kind) (hvc : RdS I vc c) (hsc : SmC c) (v : Value) (l : List Rep) (hv : RdS I v l) (hl : l.length ≤ 1000000) (hsl : ∀ r ∈ l, ∀ e ∈ r.options, SmE e) (w : Value) (ch : List Int) (hw : RdS I w ch) :
    FnI Tryz.prog 25 #[.agg #[vc], v, w] I (fun u J => u = .bool (isF c l ch)) := by
 refine enter Tryz.func25 Tryz.call25 rfl Tryz.ntmps25 rfl (fun w0 => ?_)
 refine go 3 ?_
 refine o_box _ rfl rfl rfl (fun g3 => ?_)
 refine go 9 ?_
 refine o_call (hiFails _ vc c hvc hsc _ l hv hl hsl _ ch hw) rfl rfl (fun v13 I13 j13 q13 => ?_)
 obtain rfl := q13
 refine go 15 ?_
 refine fin1 rfl rfl ?_
 exact q_i rfl

theorem hiFalse (I : IMap) (vc : Value) (c : List Kind) (hvc : RdS I vc c) (hsc : SmC c) (v : Value) (l : List Rep) (hv : RdS I v l) (hl : l.length ≤ 1000000) (hsl : ∀ r ∈ l, ∀ e ∈ r.options, SmE e) (w : Value) (ch : List Int) (hw : RdS I w ch) :
    FnI Tryz.prog 82 #[.agg #[vc], v, w] I (fun u J => u = .bool (falseF c l ch)) := by
 have hv0 := hv
 have hw0 := hw
 obtain ⟨A, c0, rfl, _, _, _⟩ := hv0
 obtain ⟨B, c1, rfl, _, _, _⟩ := hw0
 refine enter Tryz.func82 Tryz.call82 rfl Tryz.ntmps82 rfl (fun w0 => ?_)
 refine go 3 ?_
 refine o_box _ rfl rfl rfl (fun g3 => ?_)
 refine go 10 ?_
 refine o_callV (hiGiven _ vc c hvc hsc _ l hv hsl _ ch hw (-1)) rfl rfl ?_
 refine go 3 ?_
 refine cb rfl (fun h15 p15 => ?_) (fun h15 p15 => ?_)
 ·refine go 7 ?_
  refine fin1 rfl rfl ?_
  exact q_i (by rw [falseF, if_pos (by simpa using h15)])
 ·obtain ⟨hlc, hgd⟩ := given_all (c := c) (l := l) (ch := ch) (n := (-1)) (by simpa using h15)
  refine go 5 ?_
  refine o_alloc he rfl (fun g7 => ?_)
  refine go 1 ?_
  refine o_stw _ he rfl rfl rfl rfl rfl rfl ?_
  refine go 8 ?_
  refine o_call (hiDays _ A B _ c0 _ c1) rfl rfl (fun v18 I18 j18 q18 => ?_)
  have hvc := hvc.le j18
  have hv := hv.le j18
  have hw := hw.le j18
  obtain ⟨g2, g5, rfl, c2, c3⟩ := q18
  refine go 3 ?_
  refine c_range (σ := Int) (ps := [19]) 40001 (fun m => [.blk g7 3 [ci m]]) (fun pre I m => m = leastF pre) (fun pre I m cd => False) rfl Tryz.call126 (daysIt _ _ l hv _ ch hw hlc g2 g5 c2 c3) (fun I vs x h => by rw [h]; rfl) rfl (fun pre I I' s hI h => h) (fun _ _ _ _ _ _ h => h) (rfl) rfl ?_ ?_ ?_
  ·rintro r E1 pre x vs I1 m hI1 rfl rfl hpf
   refine sx_exp1 ?_
   refine go 3 ?_
   refine r_begin ?_
   refine go 4 ?_
   refine o_v rfl (v_imin rfl rfl) ?_
   refine go 1 ?_
   refine bring2 ?_
   refine o_stw _ he rfl rfl rfl rfl rfl rfl ?_
   refine go 2 ?_
   refine bring2 ?_
   refine bring2 ?_
   exact r_next (_) (hI1) ((by rw [least_snoc])) rfl
  ·rintro D pre I1 m hI1 hfull rfl
   refine sx_app1 ?_
   refine go 9 ?_
   refine o_call (hiFollow _ vc c (hvc.le hI1) hsc _ l (hv.le hI1) hl hsl hgd _ ch (hw.le hI1) hlc (leastF pre)) rfl rfl (fun v28 I28 j28 q28 => ?_)
   obtain rfl := q28
   refine go 15 ?_
   refine q_mark ?_
   refine fin1 rfl rfl ?_
   exact q_i (by rw [falseF, if_neg (by simp [show givenF c l ch (-1) = true by simpa using h15]), hfull])
  ·rintro D pre I1 m cd hI1 hpart h
   exact h.elim

end Go.Proofs.YtoadjlmbdliceaaGreat

/- Bits of numbers; numbers of a list opened. -/
set_option linter.all false
namespace Go.Sx
open Go
section
variable {P : Program} {n : Sz} {E : Ent} {I : IMap} {L : LL} {H : List Res}
variable {d ty : Nat} {pos : String} {af : Array Edge} {tx tyy : Nat} {x y : Operand}
end
/-- numbers of which those whose bits are set are open -/
def openF (ch : List Int) (a : Nat) : List Int := ch.mapIdx fun i k => if a.testBit i = true then -1 else k
theorem openF_len (ch : List Int) (a : Nat) : (openF ch a).length = ch.length := by simp [openF]
theorem hit_take_no {l : List Evt} {e : Evt} {m i : Nat} (hq : ∀ j x, j < m → l[j]? = some x → decide (x = e) = false) (hi : i ≤ m) : hit id (l.take i) e = false := by
  rw [hit_eq, List.any_eq_false]
  intro x hx
  obtain ⟨j, hj, rfl⟩ := List.getElem_of_mem hx
  rw [List.length_take] at hj
  rw [List.getElem_take]
  simpa using hq j _ (by omega) (List.getElem?_eq_getElem (by omega))
theorem hit_take_yes {l : List Evt} {e : Evt} {m i : Nat} (hm : m < i) (hl : m < l.length) (h : decide (l[m] = e) = true) : hit id (l.take i) e = true := by
  rw [hit_eq, List.any_eq_true]
  exact ⟨l[m], List.mem_iff_getElem.2 ⟨m, by rw [List.length_take]; omega, List.getElem_take⟩, h⟩
def fewR (l : List Rep) (n : Int) : Bool := allP (fun _ r => fewE r.options 6) l l.length && decide (((l.length : Nat) : Int) ≤ n)
theorem fewR_sm {l : List Rep} {n : Int} (h : fewR l n = true) : (∀ r ∈ l, ∀ e ∈ r.options, SmE e) ∧ ((l.length : Nat) : Int) ≤ n := by
  simp only [fewR, Bool.and_eq_true, decide_eq_true_eq] at h
  refine ⟨fun r hr => ?_, h.2⟩
  obtain ⟨_, h1⟩ := allP_mem h.1 hr
  exact (fewE_sm h1).1
end Go.Sx

/- Walks, printed by a program out of the code of the functions: each theorem is a contract of one function. -/
namespace Go.Proofs.YtoadjlmbdliceaaGreat
open Go Go.Sx
set_option linter.all false
set_option maxRecDepth 20000
set_option maxHeartbeats 4000000
theorem ref13Valid (I : IMap) (r : Rep) (S : Option Addr) (d : Nat) (hr : RdS I (.slice S r.options.length d) r.options) (hs : ∀ e ∈ r.options, SmE e) :
    FnV Tryz.prog 76 #[.agg (r.cells (.slice S r.options.length d)).toArray] I (.bool (validRep r)) := by
 have hSA : RdA I S r.options := (by obtain ⟨_, _, e, h, _⟩ := hr; cases e; exact h)
 have hl4 : d ≤ 9223372036854775807 := (by obtain ⟨_, _, e, h, h1, h2⟩ := hr; cases e; exact h2)
 have hl5 := hr.lenLe
 refine enter Tryz.func76 Tryz.call76 rfl Tryz.ntmps76 rfl (fun w0 => ?_)
 refine go 3 ?_
 refine o_box _ rfl rfl rfl (fun g1 => ?_)
 refine go 5 ?_
 refine c_cut (I' := I) (L' := [(1, .pointer (some ⟨g1, 0, none⟩)), (14, .bool (decide (((r.options.length : Nat) : Int) < 1) || decide ((4 : Int) < (r.options.length : Nat))))]) (H' := [.blk g1 47 (r.cells (.slice S r.options.length d))]) ?_ ?_
 ·refine go 6 ?_
  refine sxb 9 rfl (fun h9 p9 => ?_) (fun h9 p9 => ?_)
  ·refine go 7 ?_
   exact q_cut ⟨rfl, (congrArg (fun b => some (Value.bool b)) (by simp only [h9, bS])), trivial⟩ rfl rfl
  ·refine go 7 ?_
   exact q_cut ⟨rfl, (congrArg (fun b => some (Value.bool b)) (by simp only [h9, bS])), trivial⟩ rfl rfl
 ·refine cb rfl (fun h14 p14 => ?_) (fun h14 p14 => ?_)
  ·refine go 7 ?_
   refine fin1 rfl rfl ?_
   exact q_v (congrArg Value.bool (by simp only [validRep, show decide (((r.options.length : Nat) : Int) = 0) = decide (((r.options.length : Nat) : Int) < 1) from by rw [decide_eq_decide]; omega, h14]; rfl))
  ·refine go 9 ?_
   refine c_loop (α := Nat) 0 (fun i => I)
    (fun i => [(1, .pointer (some ⟨g1, 0, none⟩)), (3, .int .i64 ((i : Nat) : Int))])
    (fun i => [.blk g1 47 (r.cells (.slice S r.options.length d))])
    (fun i => i ≤ r.options.length ∧ allP optFine r.options i = true)
    (fun i => r.options.length - i) ⟨Nat.zero_le _, rfl⟩ rfl sb rfl ?_
   intro i ⟨hi, hn⟩
   refine go 10 ?_
   refine cb rfl (fun h19 p19 => ?_) (fun h19 p19 => ?_)
   ·have hlt : i < r.options.length := by omega
    refine go 10 ?_
    obtain ⟨b25, o25, w25, e25, c25, r25⟩ := RdA.at_ hSA (i := i) hlt
    obtain rfl := r25
    refine o_v rfl (v_idx he rfl rfl e25 (i) (by omega) hlt) ?_
    refine o_v rfl (v_ldIa he rfl c25 rfl) ?_
    refine go 1 ?_
    refine o_callV (ref09Valid _ r.options[i] (hs _ (List.getElem_mem hlt))) rfl rfl ?_
    refine go 3 ?_
    refine cb rfl (fun h28 p28 => ?_) (fun h28 p28 => ?_)
    ·refine go 12 ?_
     refine fin1 rfl rfl ?_
     exact q_v (congrArg Value.bool (by simp only [validRep, show decide (((r.options.length : Nat) : Int) = 0) = decide (((r.options.length : Nat) : Int) < 1) from by rw [decide_eq_decide]; omega, h14, allP_not hlt (show optFine (r.options.take i) r.options[i] = false by simp only [optFine, show validE r.options[i] = false by simpa using h28, bS]), bS]))
    ·refine go 8 ?_
     refine c_loop (α := Nat) 0 (fun m => I)
      (fun m => [(1, .pointer (some ⟨g1, 0, none⟩)), (3, .int .i64 ((i : Nat) : Int)), (4, .int .i64 ((m : Nat) : Int))])
      (fun m => [.blk g1 47 (r.cells (.slice S r.options.length d))])
      (fun m => m ≤ i ∧ ∀ j x, j < m → r.options[j]? = some x → decide (x = r.options[i]) = false)
      (fun m => i - m) ⟨Nat.zero_le _, fun j x hj => absurd hj (Nat.not_lt_zero j)⟩ rfl sb rfl ?_
     intro m ⟨hmm, hq⟩
     refine go 8 ?_
     refine cb rfl (fun h31 p31 => ?_) (fun h31 p31 => ?_)
     ·have hlm : m < r.options.length := by omega
      refine go 5 ?_
      refine d_startH T.mixed ?_
      refine d_tv 0 rfl rfl (by kernel_rfl) rfl (.refl _) rfl (v_fieldAddr he rfl) ?_
      refine d_tv 1 rfl rfl (by kernel_rfl) rfl (.refl _) rfl (v_ld m0 he rfl rfl) ?_
      refine d_tv 2 rfl rfl (by kernel_rfl) rfl (.refl _) rfl (v_move rfl) ?_
      obtain ⟨b37, o37, w37, e37, c37, r37⟩ := RdA.at_ hSA (i := m) hlm
      obtain rfl := r37
      refine d_tv 3 rfl rfl (by kernel_rfl) rfl (.refl _) rfl (v_idx he rfl rfl e37 (m) (by omega) hlm) ?_
      refine d_tv 4 rfl rfl (by kernel_rfl) rfl (.refl _) rfl (v_ldIa he rfl c37 rfl) ?_
      refine d_tv 5 rfl rfl (by kernel_rfl) rfl (.refl _) rfl (v_fieldAddr he rfl) ?_
      refine d_tv 6 rfl rfl (by kernel_rfl) rfl (.refl _) rfl (v_ld m0 he rfl rfl) ?_
      refine d_tv 7 rfl rfl (by kernel_rfl) rfl (.refl _) rfl (v_move rfl) ?_
      obtain ⟨b42, o42, w42, e42, c42, r42⟩ := RdA.at_ hSA (i := i) hlt
      obtain rfl := r42
      refine d_tv 8 rfl rfl (by kernel_rfl) rfl (.refl _) rfl (v_idx he rfl rfl e42 (i) (by omega) hlt) ?_
      refine d_tv 9 rfl rfl (by kernel_rfl) rfl (.refl _) rfl (v_ldIa he rfl c42 rfl) ?_
      refine d_tv 10 rfl rfl (by kernel_rfl) rfl (.refl _) rfl (v_steql T.eqg_56 (eqS_Evt r.options[m] r.options[i]) rfl rfl) ?_
      refine d_done (by kernel_rfl) ?_
      refine go 1 ?_
      refine cb rfl (fun h44 p44 => ?_) (fun h44 p44 => ?_)
      ·refine go 15 ?_
       refine fin1 rfl rfl ?_
       exact q_v (congrArg Value.bool (by simp only [validRep, show decide (((r.options.length : Nat) : Int) = 0) = decide (((r.options.length : Nat) : Int) < 1) from by rw [decide_eq_decide]; omega, h14, allP_not hlt (show optFine (r.options.take i) r.options[i] = false by simp only [optFine, hit_take_yes (show m < i by omega) hlm h44, bS]), bS]))
      ·refine go 9 ?_
       exact q_next (m + 1) ⟨by omega, idx_next (p := fun x => decide (x = r.options[i])) hq (show m < r.options.length by omega) h44⟩ (by omega) rfl sb rfl
     ·refine go 12 ?_
      exact q_next (i + 1) ⟨by omega, allP_succ hn hlt (by simp only [optFine, hit_take_no hq (show i ≤ m by omega), p28, bS])⟩ (by omega) rfl sb rfl
   ·refine go 11 ?_
    refine fin1 rfl rfl ?_
    have e : i = r.options.length := (by omega)
    subst e
    exact q_v (congrArg Value.bool (by simp only [validRep, hn, show decide (((r.options.length : Nat) : Int) = 0) = decide (((r.options.length : Nat) : Int) < 1) from by rw [decide_eq_decide]; omega, h14]; rfl))

theorem ref13Choices (I : IMap) (r : Rep) (S : Option Addr) (d : Nat) (hr : RdS I (.slice S r.options.length d) r.options) (hs : ∀ e ∈ r.options, SmE e) :
    FnV Tryz.prog 66 #[.agg (r.cells (.slice S r.options.length d)).toArray] I (.int .i64 (chs r)) := by
 have hl5 := hr.lenLe
 refine enter Tryz.func66 Tryz.call66 rfl Tryz.ntmps66 rfl (fun w0 => ?_)
 refine go 3 ?_
 refine o_box _ rfl rfl rfl (fun g1 => ?_)
 refine go 8 ?_
 refine o_callV (ref13Valid _ r S d hr hs) rfl rfl ?_
 refine go 3 ?_
 refine cb rfl (fun h5 p5 => ?_) (fun h5 p5 => ?_)
 ·refine go 7 ?_
  refine fin1 rfl rfl ?_
  exact q_v (congrArg (Value.int .i64) (by simp only [chs, show validRep r = false by simpa using h5, Bool.true_eq_false, Bool.false_eq_true, if_true, if_false]))
 ·have hl4 := validRep_len (r := r) (by simpa using h5)
  refine go 9 ?_
  refine cb rfl (fun h7 p7 => ?_) (fun h7 p7 => ?_)
  ·refine go 5 ?_
   refine o_v rfl (v_add rfl rfl ⟨by omega, by have := hl4; omega⟩) ?_
   refine go 5 ?_
   refine fin1 rfl rfl ?_
   exact q_v (congrArg (Value.int .i64) (by simp only [chs, show validRep r = true by simpa using h5, h7, Bool.true_eq_false, Bool.false_eq_true, if_true, if_false]))
  ·refine go 11 ?_
   refine fin1 rfl rfl ?_
   exact q_v (congrArg (Value.int .i64) (by simp only [chs, show validRep r = true by simpa using h5, h7, Bool.true_eq_false, Bool.false_eq_true, if_true, if_false]))

theorem ref13Few (I : IMap) (v : Value) (l : List Rep) (hv : RdS I v l) (n : Int) :
    FnV Tryz.prog 30 #[v, .int .i64 n] I (.bool (fewR l n)) := by
 obtain ⟨A, c0, rfl, hA, hc, hm⟩ := hv
 refine enter Tryz.func30 Tryz.call30 rfl Tryz.ntmps30 rfl (fun w0 => ?_)
 refine go 12 ?_
 refine c_loop (α := Nat) 0 (fun i => I)
  (fun i => [(0, .slice A l.length c0), (1, .int .i64 n), (5, .int .i64 ((i : Nat) : Int))])
  (fun i => [])
  (fun i => i ≤ l.length ∧ allP (fun _ r => fewE r.options 6) l i = true)
  (fun i => l.length - i) ⟨Nat.zero_le _, rfl⟩ rfl sb rfl ?_
 intro i ⟨hi, hn⟩
 refine go 8 ?_
 refine sxb 10 rfl (fun h10 p10 => ?_) (fun h10 p10 => ?_)
 ·have hlt : i < l.length := by omega
  refine go 7 ?_
  refine cb rfl (fun h15 p15 => ?_) (fun h15 p15 => ?_)
  ·have hlt : i < l.length := by omega
   refine go 8 ?_
   obtain ⟨b20, o20, w20, e20, c20, r20⟩ := RdA.at_ hA (i := i) hlt
   obtain ⟨q20, rfl, S20, d20, rfl, hS20, hd20, hm20⟩ := r20
   refine o_v rfl (v_idx he rfl rfl e20 (i) (by omega) hlt) ?_
   refine go 1 ?_
   refine o_v rfl (v_ldI he rfl (c20 0 _ rfl)) ?_
   refine go 1 ?_
   refine o_callV (refFewE _ _ l[i].options ⟨_, _, rfl, hS20, hd20, hm20⟩ 6) rfl rfl ?_
   refine go 3 ?_
   refine cb rfl (fun h24 p24 => ?_) (fun h24 p24 => ?_)
   ·refine go 11 ?_
    refine fin1 rfl rfl ?_
    exact q_v (congrArg Value.bool (by simp only [fewR, allP_not (f := fun _ r => fewE r.options 6) hlt (by simpa using h24), bS]))
   ·refine go 9 ?_
    exact q_next (i + 1) ⟨by omega, allP_succ hn hlt (by simpa using h24)⟩ (by omega) rfl sb rfl
  ·refine go 15 ?_
   refine fin1 rfl rfl ?_
   exact q_v (congrArg Value.bool (by rw [fewR, show decide (((l.length : Nat) : Int) ≤ n) = false from decide_eq_false (by omega)]; simp))
 ·refine go 7 ?_
  refine c_false rfl ?_
  refine go 15 ?_
  refine fin1 rfl rfl ?_
  have e : i = l.length := (by omega)
  subst e
  exact q_v (congrArg Value.bool (by simp only [fewR, hn, bS]))

end Go.Proofs.YtoadjlmbdliceaaGreat

/- A row of a list: one element is written. -/
set_option linter.all false
namespace Go.Sx
open Go
section
variable {P : Program} {n : Sz} {E : Ent} {I : IMap} {L : LL} {H : List Res} {K : Act → World → Prop}
variable {α : Type} [Enc α]
theorem sx_rowslice {v : Value} {e k m : Nat} {xs : List Value} (h : ∀ A c, v = .slice A m c → SX n E I L (.row v e k m xs :: H) K) : SX n E I L (.row v e k m xs :: H) K := by
  refine sx_know (p := ∃ h, IsRow h v e k m xs) (fun w mm => ⟨_, mm.holds _ (List.mem_cons_self ..)⟩) fun ⟨_, _, hr⟩ => ?_
  rcases hr with ⟨rfl, rfl⟩ | ⟨g, cap, cur, rfl, _⟩
  · exact h _ _ rfl
  · exact h _ _ rfl
end
section
variable {α : Type} [Enc α] {I : IMap} {A : Option Addr} {m c : Nat} {l : List α}
theorem RdS.toA (h : RdS I (.slice A m c) l) : RdA I A l := by
  obtain ⟨_, _, e, h, _⟩ := h
  injection e with e1 e2 e3
  subst e1; exact h
theorem RdS.eqL (h : RdS I (.slice A m c) l) : m = l.length ∧ m ≤ c ∧ c ≤ 9223372036854775807 := by
  obtain ⟨_, _, e, _, h1, h2⟩ := h
  injection e with e1 e2 e3
  subst e3; exact ⟨e2, by omega, h2⟩
theorem RdS.takeM (h : RdS I (.slice A m c) l) (q : Nat) (hq : q ≤ l.length) : RdS I (.slice A q c) (l.take q) := by
  obtain rfl := h.eqL.1; exact h.take q hq
theorem RdS.dropM (h : RdS I (.slice A m c) l) (q : Nat) (hq : q ≤ l.length) : RdS I (.slice (cutA A c q (Enc.k α)) (m - q) (c - q)) (l.drop q) := by
  obtain rfl := h.eqL.1; exact h.drop q hq
end
/-! a scope through which the run goes without a jump -/
section
variable {P : Program} {b : Frame} {a : Act} {k : List Item} {cs : List Frame} {w : World} {Q : Exit → Act → World → Prop} {F : Fence}
end
section
variable {P : Program} {ρ : Option Nat} {n : Sz} {E : Ent} {I : IMap} {L : LL} {H : List Res} {Q : Exit → Act → World → Prop}
end
end Go.Sx

/- Lists of texts in a block: their order does not matter, their elements do. -/
set_option linter.all false
namespace Go.Sx
open Go
def strCh (l : List ByteArray) : List (List Value) := l.map fun s => [.string s]
theorem str_uk (l : List ByteArray) : Uk 1 (strCh l) := fun c hc => by obtain ⟨e, _, rfl⟩ := List.mem_map.1 hc; rfl
theorem str_len (l : List ByteArray) : (strCh l).length = l.length := by simp [strCh]
theorem str_flat (I : IMap) : ∀ l : List ByteArray, FlatC I (strCh l) l
  | [] => .nil
  | s :: r => .cons rfl (str_flat I r)
theorem str_of {I : IMap} {xss : List (List Value)} {l : List ByteArray} (h : FlatC I xss l) : xss = strCh l := by
  induction h with
  | nil => rfl
  | cons h1 _ ih => rw [ih]; simp only [strCh, List.map_cons]; rw [show _ = _ from h1]
theorem str_at {l : List ByteArray} {rest : List (List Value)} {i : Nat} (h : i < l.length) : (strCh l ++ rest)[i]? = some [.string l[i]] := by
  rw [List.getElem?_append_left (by rw [str_len]; exact h)]; simp [strCh, h]
theorem str_set {l : List ByteArray} {rest : List (List Value)} {i : Nat} (h : i < l.length) (s : ByteArray) : (strCh l ++ rest).set i [.string s] = strCh (l.set i s) ++ rest := by
  rw [List.set_append_left _ _ (by rw [str_len]; exact h)]
  congr 1
  simp [strCh, List.map_set]
/-- of the same elements -/
def Pm (l m : List ByteArray) : Prop := m.length = l.length ∧ ∀ x, x ∈ m ↔ x ∈ l
theorem Pm.refl (l : List ByteArray) : Pm l l := ⟨rfl, fun _ => Iff.rfl⟩
theorem Pm.swap {l m : List ByteArray} {i j : Nat} (h : Pm l m) (hi : i < m.length) (hj : j < m.length) : Pm l ((m.set i m[j]).set j m[i]) := by
  have hp : ((m.set i m[j]).set j m[i]).Perm m := List.set_set_perm hi hj
  exact ⟨by rw [List.length_set, List.length_set]; exact h.1, fun x => by rw [hp.mem_iff]; exact h.2 x⟩
theorem str_swp {l : List ByteArray} {rest : List (List Value)} {i j : Nat} (hi : i < l.length) (hj : j < l.length) : ((strCh l ++ rest).set i [.string l[j]]).set j [.string l[i]] = strCh ((l.set i l[j]).set j l[i]) ++ rest := by
  rw [str_set hi, str_set (by rw [List.length_set]; exact hj)]
theorem str_swp' {l : List ByteArray} {rest : List (List Value)} {i j : Nat} (hi : i < l.length) (hj : j < l.length) (hij : i ≠ j) : ((strCh l ++ rest).set j [.string l[i]]).set i [.string l[j]] = strCh ((l.set i l[j]).set j l[i]) ++ rest := by
  rw [str_set hj, str_set (by rw [List.length_set]; exact hi), List.set_comm _ _ hij.symm]
theorem flat_take1 {α : Type} {ls : List (List α)} {i : Nat} (h : i < ls.length) : (ls.take (i + 1)).flatten = (ls.take i).flatten ++ ls[i] := by
  rw [← take_succ_of h, List.flatten_append]; simp
theorem flat_lenLe {α : Type} (ls : List (List α)) (i : Nat) : ((ls.take i).flatten).length ≤ ls.flatten.length := by
  conv => rhs; rw [← List.take_append_drop i ls, List.flatten_append, List.length_append]
  omega
theorem conv_u8 (b : UInt8) : IntKind.i64.wrap ((b.toNat : Nat) : Int) = ((b.toNat : Nat) : Int) := by
  have := b.toNat_lt; rw [IntKind.wrap_i64]; omega
theorem conv_add (b : UInt8) : I64 (0 + ((b.toNat : Nat) : Int)) := by
  have := b.toNat_lt; exact ⟨by omega, by omega⟩
/-- the names that a report mentions, in whatever order -/
def NamesOf (r : Rep) (ns : List ByteArray) : Prop := (∀ x, x ∈ ns ↔ validRep r = true ∧ ∃ e ∈ r.options, x ∈ namesE e) ∧ ns.length ≤ 8
theorem namesE_len {e : Evt} (h : validE e = true) : 1 ≤ (namesE e).length ∧ (namesE e).length ≤ 2 := by
  unfold namesE
  rw [if_neg (by rw [h]; decide)]
  split <;> simp
theorem names_flat : ∀ (l : List Evt), (∀ e ∈ l, validE e = true) → l.length ≤ (l.map namesE).flatten.length ∧ (l.map namesE).flatten.length ≤ 2 * l.length
  | [], _ => by simp
  | e :: r, h => by
    have h1 := namesE_len (h e (by simp))
    have h2 := names_flat r fun x hx => h x (by simp [hx])
    simp only [List.map_cons, List.flatten_cons, List.length_append, List.length_cons]
    omega
theorem names_of_rep {r : Rep} (hv : validRep r = true) {m : List ByteArray} (hm : ∀ x, x ∈ m ↔ x ∈ (r.options.map namesE).flatten) (hl : m.length ≤ (r.options.map namesE).flatten.length) : NamesOf r m := by
  have h1 := names_flat r.options (validRep_e hv)
  have h2 := validRep_len hv
  refine ⟨fun x => ?_, by omega⟩
  rw [hm x, List.mem_flatten]
  constructor
  · rintro ⟨ns, hns, hx⟩
    obtain ⟨e, he, rfl⟩ := List.mem_map.1 hns
    exact ⟨hv, e, he, hx⟩
  · rintro ⟨_, e, he, hx⟩
    exact ⟨_, List.mem_map.2 ⟨e, he, rfl⟩, hx⟩
theorem names_none {r : Rep} (hv : validRep r = false) : NamesOf r [] := ⟨fun x => by simp [hv], by simp⟩
/-! what is left of a list of texts without repetitions -/
structure Cpt (l B : List ByteArray) (k p : Nat) : Prop where
  len : B.length = l.length
  kp : k + 1 ≤ p
  pl : p ≤ l.length
  tail : ∀ j, p - 1 ≤ j → B[j]? = l[j]?
  mem : ∀ x, x ∈ B.take k ↔ x ∈ l.take p
theorem Cpt.start {l : List ByteArray} {k : Nat} (hk : 1 ≤ k) (hl : k < l.length) (h : l[k] = l[k - 1]) : Cpt l l k (k + 1) := by
  refine ⟨rfl, Nat.le_refl _, hl, fun _ _ => rfl, fun x => ?_⟩
  rw [← take_succ_of hl]
  constructor
  · intro hx; exact List.mem_append_left _ hx
  · intro hx
    rcases List.mem_append.1 hx with hx | hx
    · exact hx
    · obtain rfl := List.mem_singleton.1 hx
      rw [h]
      exact List.mem_take_iff_getElem.2 ⟨k - 1, by omega, rfl⟩
theorem Cpt.skip {l B : List ByteArray} {k p : Nat} (h : Cpt l B k p) (hp : p < l.length) (he : l[p] = l[p - 1]) (h1 : 1 ≤ p) : Cpt l B k (p + 1) := by
  refine ⟨h.len, by have := h.kp; omega, hp, fun j hj => h.tail j (by omega), fun x => ?_⟩
  rw [h.mem x, ← take_succ_of hp]
  constructor
  · intro hx; exact List.mem_append_left _ hx
  · intro hx
    rcases List.mem_append.1 hx with hx | hx
    · exact hx
    · obtain rfl := List.mem_singleton.1 hx
      rw [he]
      exact List.mem_take_iff_getElem.2 ⟨p - 1, by omega, rfl⟩
theorem Cpt.keep {l B : List ByteArray} {k p : Nat} (h : Cpt l B k p) (hp : p < l.length) : Cpt l (B.set k l[p]) (k + 1) (p + 1) := by
  have hkp := h.kp
  have hkB : k < B.length := by rw [h.len]; omega
  refine ⟨by rw [List.length_set]; exact h.len, by omega, hp, fun j hj => ?_, fun x => ?_⟩
  · rw [List.getElem?_set_ne (by omega)]; exact h.tail j (by omega)
  · rw [← take_succ_of (l := B.set k l[p]) (i := k) (by rw [List.length_set]; exact hkB), ← take_succ_of hp, List.mem_append, List.mem_append, List.getElem_set_self, List.take_set_of_le (Nat.le_refl _), h.mem x]
theorem Cpt.get {l B : List ByteArray} {k p j : Nat} (h : Cpt l B k p) (hj : p - 1 ≤ j) (hl : j < l.length) (hb : j < B.length) : B[j] = l[j] := by
  have := h.tail j hj
  rw [List.getElem?_eq_getElem hl, List.getElem?_eq_getElem hb] at this
  exact Option.some.inj this
theorem Cpt.done {l B : List ByteArray} {k : Nat} (h : Cpt l B k l.length) (x : ByteArray) : x ∈ B.take k ↔ x ∈ l := by
  rw [h.mem x, List.take_length]
theorem str_clear {B : List ByteArray} {rest : List (List Value)} {zs : List Value} {k m : Nat} (hk : k + m = B.length) : (strCh B ++ rest).take k ++ (List.replicate m zs ++ (strCh B ++ rest).drop (k + m)) = strCh (B.take k) ++ (List.replicate m zs ++ rest) := by
  rw [List.take_append_of_le_length (by rw [str_len]; omega), hk, ← str_len B, List.drop_left, strCh, strCh, List.map_take]
section
variable {P : Program} {ρ : Option Nat} {n : Sz} {E : Ent} {I : IMap} {L : LL} {H : List Res} {Q : Exit → Act → World → Prop} {ops : Array Oper} {K : Act → World → Prop}
variable {d ty : Nat} {pos : String} {af : Array Edge} {x y z : Operand}
/-- a cell of a block of chunks of one -/
theorem v_lds {g off tt t' : Nat} {xss : List (List Value)} {v : Value} (hm : Res.blk g t' xss.flatten ∈ H) (hU : Uk 1 xss) (ht : tyK P tt = some (false, 1)) (hx : ev L x = some (.pointer (some ⟨g, off, none⟩))) (i : Nat) (ho : off = i) (hi : xss[i]? = some [v]) :
    OV P n E I L H ⟨some d, .load tt x, ty, pos, af, none⟩ v := v_ld hm ht hx (by
  subst ho
  have h := flat_at hU hi
  rw [Nat.mul_one] at h
  have := congrArg (fun l : List Value => l[0]?) h
  simpa using this)
theorem v_sidxK {ts : Nat} {s : ByteArray} {i : Int} {kd : IntKind} (ht : P.underlying ts = some .string) (hx : ev L x = some (.string s)) (hy : ev L y = some (.int kd i)) (q : Nat) (hq : i = (q : Int)) (hlt : q < s.size) : OV P n E I L H ⟨some d, .index ts x y, ty, pos, af, none⟩ (.int .u8 ((s[q]!.toNat : Nat) : Int)) :=
  (fun a w st _ => by
    subst hq
    have hs : s[q]? = some (s[q]!) := by rw [getElem?_pos s q hlt, getElem!_pos s q hlt]
    simp [execOp, st.ev hx, st.ev hy, Instr.index, asIntOf, run_underlying ht, hs])
/-- append(nil, make([]T, q)...) -/
theorem o_appendMake0 {tt tn e k bytes q : Nat} {kn kq : IntKind} {zs : List Value} (he : P.underlying tt = some (.slice e)) (hn : P.underlying tn = some (.int kn)) (hb : bytesK P e = some (zs, k, bytes)) (hzs : zs.length = k) (hk0 : Nat.blt 0 k = true)
    (hx : ev L x = some (.slice none 0 0)) (hy : ev L y = some (.int kq (q : Nat))) (hq : 0 < q) (hroom : q * bytes ≤ 140737488355328) (hlen : q ≤ maxLen) (hd : Nat.blt d n.sz = true)
    (kk : ∀ g' r, q + r ≤ maxLen → SX n E I ((d, .slice (some ⟨g', 0, none⟩) q (q + r)) :: L) (.blk g' e (List.replicate (q + r) zs).flatten :: H) K) :
    SX n E I L H (one P ops Q ⟨some d, .call { callee := .builtin .append, args := #[x, y], argTypes := #[tt, tn] }, ty, pos, af, none⟩ K) :=
  o_gen (fun q' : Nat × Nat => .slice (some ⟨q'.1, 0, none⟩) q (q + q'.2)) (fun _ => I) (fun q' => .blk q'.1 e (List.replicate (q + q'.2) zs).flatten :: H) (fun q' => q + q'.2 ≤ maxLen) hd
    (fun a w st mm => by
      unfold bytesK at hb
      split at hb
      · rename_i inf hi
        cases hz : inf.zero with
        | none => simp [hz] at hb
        | some z0 =>
          simp only [hz, Option.map_some, Option.some.injEq, Prod.mk.injEq] at hb
          obtain ⟨hz1, hz2, hz3⟩ := hb
          have hk' : 0 < k := by simpa [Nat.blt_eq] using hk0
          have hz0 : z0.cells = zs.toArray := by rw [← hz1]
          have hold : (Builtin.firstCells inf.size 0 (.slice none 0 0)).run P w.drew = .ok ([] : List Value).toArray w.drew := by
            have hl0 : ∀ (b : Addr), (loadCells b 0).run P w.drew = .ok #[] w.drew := fun b => run_loadCells_list (P := P) w.drew b [] (fun j v hv => by simp at hv)
            simp [Builtin.firstCells, hl0]
          have hg : 0 < 0 + q := by omega
          have hcapq : grownCap w (0 + q) 0 e = q + (grownCap w (0 + q) 0 e - q) := by have := grownCap_ge w (0 + q) 0 e; omega
          have h48 : Builtin.nextslicecap (0 + q) 0 * inf.bytes ≤ 281474976710656 := by
            have h1 : Builtin.nextslicecap (0 + q) 0 * inf.bytes ≤ 2 * (0 + q) * inf.bytes := Nat.mul_le_mul_right _ (Room.nextslicecap_le' hg)
            rw [Nat.mul_assoc, hz3] at h1
            rw [hz3]
            simp only [Nat.zero_add] at h1 ⊢
            omega
          have h48q : q * inf.bytes ≤ 281474976710656 := by rw [hz3]; omega
          have hr := Lib.run_append_grow_zeros (P := P) w tt tn ty e inf z0 kq kn he hn hi hz none 0 0 [] hold q hq (by omega) hg (by unfold maxLen at hlen; omega) h48q h48
          have hzc : ∀ q, Builtin.zeroCells z0.cells q = (List.replicate q zs).flatten.toArray := fun q => by
            have h2 : Builtin.zeroCells zs.toArray q = madeCells zs.toArray (q * zs.length) := by simp [Builtin.zeroCells, madeCells]
            rw [hz0, h2, zrep_made zs (by omega), zrep_flat]
          rw [hzc, hzc] at hr
          simp only [Nat.zero_add] at hr hcapq
          refine ⟨(w.heap.size, grownCap w q 0 e - q), w.drew.alloc (.cells (List.replicate (q + (grownCap w q 0 e - q)) zs).flatten.toArray e), ?_, ?_, mm.drew.alloc e _⟩
          · show q + (grownCap w q 0 e - q) ≤ maxLen
            rw [← hcapq]
            exact grownCap_le_maxLen w q 0 e hlen
          · have e1 : ([] : List Value).toArray ++ (List.replicate q zs).flatten.toArray ++ (List.replicate (grownCap w q 0 e - q) zs).flatten.toArray = (List.replicate (q + (grownCap w q 0 e - q)) zs).flatten.toArray := by
              rw [List.append_toArray []  , List.nil_append, List.append_toArray, ← List.flatten_append, List.replicate_append_replicate]
            rw [e1] at hr
            simp only [execOp, resolve, invoke, builtin, Sem.run_bind, Sem.run_pure, Result.andThen_ok, List.map_toArray, List.map_cons, List.map_nil, st.ev hx, st.ev hy, hr]
            rw [← hcapq]
      · cases hb) fun q' hq' => kk q'.1 q'.2 hq'
theorem FnX.backE {f : FuncId} {args : Array Value} {g e k : Nat} {xs : List Value} {p : Value → Res → Prop}
    (h : FnX P f args I [.blk g e xs] (fun u r => ∃ yss rest m cap, Uk k yss ∧ Uk k rest ∧ yss.length = m ∧ m + rest.length = cap ∧ cap ≤ maxLen ∧ r = .blk g e (yss ++ rest).flatten ∧ p u (.row (.slice (some ⟨g, 0, none⟩) m cap) e k m yss.flatten))) : FnX P f args I [.blk g e xs] p :=
  ⟨fun w m' => (h.go w m').mono fun _ w' ⟨u, I', H', he, hm', hq⟩ => by
    obtain ⟨rfl, r', rfl, yss, rest, m, cap, hU, hR, hm, hc, hl, rfl, hp⟩ := hq
    refine ⟨_, _, _, he, ?_, rfl, _, rfl, hp⟩
    have hb : w'.heap[g]? = some (.cells (yss ++ rest).flatten.toArray e (0, 0)) := hm'.blk
    exact hm'.step rfl rfl rfl (Nat.le_refl _) (fun _ _ _ => rfl) (IsRow.shut hb hU hR hm hc hl) (fun g' hg' => .inl hg')⟩
theorem FnX.weak {f : FuncId} {args : Array Value} {H : List Res} {p q : Value → Res → Prop} (h : FnX P f args I H p) (hpq : ∀ u r, p u r → q u r) : FnX P f args I H q :=
  ⟨fun w m' => (h.go w m').mono fun _ w' ⟨u, I', H', he, hm', hq⟩ => by
    obtain ⟨rfl, r', rfl, hp⟩ := hq
    exact ⟨_, _, _, he, hm', rfl, _, rfl, hpq _ _ hp⟩⟩
theorem FnX.of_rowF {α : Type} [Enc α] {f : FuncId} {args : Value → List Value} {p : Value → Res → Prop} {v : Value} {e k m : Nat} {xs : List Value} {l : List α} (hF : Flat I xs l) (hk : k = Enc.k α) (hm : m = l.length) (h0 : 0 < l.length)
    (h1 : ∀ g cap rest xss, v = .slice (some ⟨g, 0, none⟩) m cap → FlatC I xss l → Uk k rest → m + rest.length = cap → cap ≤ maxLen → FnX P f (args (.slice (some ⟨g, 0, none⟩) m cap)).toArray I [.blk g e (xss ++ rest).flatten] p) : FnX P f (args v).toArray I [.row v e k m xs] p := by
  obtain ⟨xss, rfl, hC⟩ := FlatC.of hF
  exact FnX.of_rowV (by rw [hk]; exact hC.uk) (by rw [hC.len, hm]) (fun h _ => absurd h (by omega)) fun g cap rest hv hR hc hl => h1 g cap rest xss hv hC hR hc hl
end
end Go.Sx

/- Walks, printed by a program out of the code of the functions: each theorem is a contract of one function. -/
namespace Go.Proofs.YtoadjlmbdliceaaGreat
open Go Go.Sx
set_option linter.all false
set_option maxRecDepth 20000
set_option maxHeartbeats 4000000
instance T.by_61 : Has (bytesK Tryz.prog 61) ([.slice none 0 0], 1, 24) := ⟨by kernel_rfl⟩
instance T.elt_89 : Has (eltK Tryz.prog 89) (61, 1) := ⟨by kernel_rfl⟩
instance T.und_197 : Has (Tryz.prog.underlying 197) (.int .u64) := ⟨by kernel_rfl⟩
instance T.und_89 : Has (Tryz.prog.underlying 89) (.slice 61) := ⟨by kernel_rfl⟩
instance T.zero_61 : Has (zeroK Tryz.prog 61) [.slice none 0 0] := ⟨by kernel_rfl⟩
theorem growS (I : IMap) (n : Nat) (hn : n ≤ 1000000) :
    FnX Tryz.prog 115 #[.slice none 0 0, .int .i64 ((n : Nat) : Int)] I [] (fun u r => r = .row u 9 1 0 []) := by
 refine enter Tryz.func115 Tryz.call115 rfl Tryz.ntmps115 rfl (fun w0 => ?_)
 refine go 9 ?_
 refine o_v rfl (OV.cast (u := .bool false) (v_lss rfl rfl) (congrArg Value.bool (decide_eq_false (by omega)))) ?_
 refine go 2 ?_
 refine c_false rfl ?_
 refine go 7 ?_
 refine o_v rfl (v_cap he rfl) ?_
 refine go 3 ?_
 refine o_v rfl (OV.cast (u := .int .i64 ((n : Nat) : Int)) (v_sub rfl rfl ⟨by omega, by omega⟩) (congrArg (Value.int .i64) (by omega))) ?_
 refine go 9 ?_
 refine cb rfl (fun h16 p16 => ?_) (fun h16 p16 => ?_)
 ·refine go 3 ?_
  refine o_v rfl (v_cap he rfl) ?_
  refine o_v rfl (v_slice_hi he rfl rfl 0 rfl (by omega)) ?_
  refine go 2 ?_
  refine o_appendMake0 he he he rfl rfl rfl rfl (by omega) (by omega) (by unfold maxLen; omega) rfl (fun g22 r22 hr22 => ?_)
  refine go 2 ?_
  refine o_v rfl (v_slice_hi he rfl rfl 0 rfl (by omega)) ?_
  refine go 10 ?_
  refine fin1 rfl rfl ?_
  refine sx_unrow (xss := []) (m := 0) (cap := n + r22) (k := 1) (by intro c hc; cases hc) (Uk.rep rfl _) rfl (by simp) hr22 ?_
  exact q_x rfl
 ·refine go 9 ?_
  refine fin1 rfl rfl ?_
  refine sx_nilrow 9 1 ?_
  exact q_x rfl

theorem concatS (I : IMap) (v : Value) (ls : List (List ByteArray)) (hv : RdS I v ls) (hb : ls.flatten.length ≤ 1000000) (hl : ls.length ≤ 1000000) :
    FnX Tryz.prog 93 #[v] I [] (fun u r => ∃ xs, r = .row u 9 1 ls.flatten.length xs ∧ Flat I xs ls.flatten) := by
 obtain ⟨A, c0, rfl, hA, hc, hm⟩ := hv
 refine enter Tryz.func93 Tryz.call93 rfl Tryz.ntmps93 rfl (fun w0 => ?_)
 refine go 19 ?_
 refine c_loop (α := Nat) 0 (fun i => I)
  (fun i => [(0, .slice A ls.length c0), (3, .int .i64 (((ls.take (i)).flatten.length : Nat) : Int)), (9, .slice A ls.length c0), (10, .int .i64 ((ls.length : Nat) : Int)), (11, .int .i64 ((i : Nat) : Int))])
  (fun i => [])
  (fun i => i ≤ ls.length)
  (fun i => ls.length - i) (Nat.zero_le _) rfl sb rfl ?_
 intro i hi
 have hfi := flat_lenLe ls i
 refine go 6 ?_
 refine cb rfl (fun h12 p12 => ?_) (fun h12 p12 => ?_)
 ·have hlt : i < ls.length := by omega
  have hf1 := congrArg List.length (flat_take1 hlt)
  rw [List.length_append] at hf1
  have hf2 := flat_lenLe ls (i + 1)
  refine go 6 ?_
  obtain ⟨b13, o13, w13, e13, c13, r13⟩ := RdA.at_ hA (i := i) (by omega)
  obtain ⟨q13, rfl, S13, d13, rfl, hS13, hd13, hm13⟩ := r13
  refine o_v rfl (v_idx he rfl rfl e13 (i) (by omega) (by omega)) ?_
  refine o_v rfl (v_ldI he rfl (c13 0 _ rfl)) ?_
  refine go 8 ?_
  refine o_v rfl (OV.cast (u := .int .i64 (((ls.take (i + 1)).flatten.length : Nat) : Int)) (v_add rfl rfl ⟨by omega, by omega⟩) (congrArg (Value.int .i64) (by omega))) ?_
  refine go 6 ?_
  refine o_v rfl (OV.cast (u := .bool false) (v_lss rfl rfl) (congrArg Value.bool (decide_eq_false (by omega)))) ?_
  refine go 2 ?_
  refine c_false rfl ?_
  refine go 8 ?_
  exact q_next (i + 1) (by omega) (by omega) rfl sb rfl
 ·have e : i = ls.length := by omega
  subst e
  rw [List.take_length]
  refine go 9 ?_
  refine o_callX0 (growS _ ls.flatten.length hb) rfl rfl (fun v24 s24 q24 => ?_)
  obtain rfl := q24
  refine go 12 ?_
  refine c_loop3 ((0 : Nat)) (_) ([]) (fun i v6 xs => I)
   (fun i v6 xs => [(0, .slice A ls.length c0), (6, v6), (25, .slice A ls.length c0), (26, .int .i64 ((ls.length : Nat) : Int)), (27, .int .i64 ((i : Nat) : Int))])
   (fun i v6 xs => [.row v6 9 1 (ls.take (i)).flatten.length xs])
   (fun i v6 xs => i ≤ ls.length ∧ Flat I xs (ls.take i).flatten)
   (fun i v6 xs => ls.length - i) ⟨Nat.zero_le _, .nil⟩ rfl sb rfl ?_
  intro i v6 xs ⟨hi, hF⟩
  have hfi := flat_lenLe ls i
  refine go 6 ?_
  refine cb rfl (fun h28 p28 => ?_) (fun h28 p28 => ?_)
  ·have hlt : i < ls.length := by omega
   have hf1 := congrArg List.length (flat_take1 hlt)
   rw [List.length_append] at hf1
   have hf2 := flat_lenLe ls (i + 1)
   refine go 6 ?_
   obtain ⟨b29, o29, w29, e29, c29, r29⟩ := RdA.at_ hA (i := i) (by omega)
   obtain ⟨q29, rfl, S29, d29, rfl, hS29, hd29, hm29⟩ := r29
   refine o_v rfl (v_idx he rfl rfl e29 (i) (by omega) (by omega)) ?_
   refine o_v rfl (v_ldI he rfl (c29 0 _ rfl)) ?_
   refine go 7 ?_
   refine o_appendR (⟨_, _, rfl, hS29, hd29, hm29⟩) rfl he he rfl rfl rfl rfl (by omega) (by omega) rfl (fun v33 x33 f33 => ?_)
   refine go 9 ?_
   exact q_next3 (i + 1) (_) (_) ⟨by omega, by rw [flat_take1 hlt]; exact hF.append f33⟩ (by omega) rfl sb (by rw [flat_take1 hlt, List.length_append])
  ·refine go 12 ?_
   refine fin1 rfl rfl ?_
   have e : i = ls.length := by omega
   subst e
   rw [List.take_length] at hF ⊢
   exact q_x ⟨xs, rfl, hF⟩

theorem isNaNS (I : IMap) (s : ByteArray) :
    FnV Tryz.prog 184 #[.string s] I (.bool false) := by
 refine enter Tryz.func184 Tryz.call184 rfl Tryz.ntmps184 rfl (fun w0 => ?_)
 refine go 14 ?_
 refine fin1 rfl rfl ?_
 exact q_v (congrArg Value.bool (by simp))

theorem lessS (I : IMap) (s t : ByteArray) :
    FnV Tryz.prog 150 #[.string s, .string t] I (.bool (sLt s t)) := by
 refine enter Tryz.func150 Tryz.call150 rfl Tryz.ntmps150 rfl (fun w0 => ?_)
 refine go 9 ?_
 refine o_callV (isNaNS _ s) rfl rfl ?_
 refine go 14 ?_
 refine fin1 rfl rfl ?_
 exact q_v rfl

theorem insStr (I : IMap) {rest : Rst 1} {cap : Nat} (g : Nat) (l : List ByteArray) (hl : 0 < l.length) (hl2 : l.length ≤ 12) (hc : l.length + rest.l.length = cap) (hcm : cap ≤ maxLen) :
    FnX Tryz.prog 144 #[.slice (some ⟨g, 0, none⟩) l.length cap, .int .i64 0, .int .i64 ((l.length : Nat) : Int)] I [.blk g 9 (strCh l ++ rest.l).flatten] (fun u r => u = .tuple #[] ∧ ∃ m, Pm l m ∧ r = .blk g 9 (strCh m ++ rest.l).flatten) := by
 refine enter Tryz.func144 Tryz.call144 rfl Tryz.ntmps144 rfl (fun w0 => ?_)
 refine go 3 ?_
 refine o_v rfl (OV.cast (u := .int .i64 ((1 : Nat) : Int)) (v_add rfl rfl ⟨by omega, by omega⟩) (congrArg (Value.int .i64) (by omega))) ?_
 refine go 4 ?_
 refine c_loop2 (1) (l) (fun i m => I)
  (fun i m => [(0, .slice (some ⟨g, 0, none⟩) l.length cap), (1, .int .i64 0), (2, .int .i64 ((l.length : Nat) : Int)), (6, .int .i64 ((i : Nat) : Int))])
  (fun i m => [.blk g 9 (strCh m ++ rest.l).flatten])
  (fun i m => i ≤ l.length ∧ Pm l m)
  (fun i m => l.length - i) ⟨by omega, Pm.refl l⟩ rfl sb rfl ?_
 intro i m ⟨hi, hpm⟩
 refine go 8 ?_
 refine cb rfl (fun h12 p12 => ?_) (fun h12 p12 => ?_)
 ·have hlt : i < l.length := by omega
  refine go 11 ?_
  refine c_loop2 (i) (m) (fun j k => I)
   (fun j k => [(0, .slice (some ⟨g, 0, none⟩) l.length cap), (1, .int .i64 0), (2, .int .i64 ((l.length : Nat) : Int)), (6, .int .i64 ((i : Nat) : Int)), (7, .int .i64 ((j : Nat) : Int))])
   (fun j k => [.blk g 9 (strCh k ++ rest.l).flatten])
   (fun j k => j ≤ i ∧ Pm l k)
   (fun j k => j) ⟨Nat.le_refl _, hpm⟩ rfl sb rfl ?_
  intro j k ⟨hj, hpk⟩
  have hkl := hpk.1
  refine go 2 ?_
  refine d_startH T.mixed ?_
  refine d_tv 0 rfl rfl (by kernel_rfl) rfl (.refl _) rfl (v_move rfl) ?_
  refine d_tv 1 rfl rfl (by kernel_rfl) rfl (.refl _) rfl (v_move rfl) ?_
  refine d_tv 2 rfl rfl (by kernel_rfl) rfl (.refl _) rfl (v_gtr rfl rfl) ?_
  refine d_tv 3 rfl rfl (by kernel_rfl) rfl (.refl _) rfl (v_move rfl) ?_
  refine sxb 19 rfl (fun h19 p19 => ?_) (fun h19 p19 => ?_)
  ·have hjk : j < k.length := by omega
   have hjk1 : j - 1 < k.length := by omega
   refine d_t 4 rfl rfl (by kernel_rfl) rfl (fun _ m => m.keeps (.refl _)) (y_yes rfl rfl h19 (v_move rfl)) ?_
   refine d_t 5 rfl rfl (by kernel_rfl) rfl (fun _ m => m.keeps (.refl _)) (y_yes rfl rfl h19 (v_move rfl)) ?_
   refine d_t 6 rfl rfl (by kernel_rfl) rfl (fun _ m => m.keeps (.refl _)) (y_yes rfl rfl h19 (v_idx he rfl rfl rfl (j) (by omega) (by omega))) ?_
   refine d_t 7 rfl rfl (by kernel_rfl) rfl (fun _ m => m.keeps (.refl _)) (y_yes rfl rfl h19 (v_lds m0 (Uk.append (str_uk _) rest.uk) he rfl (j) (by omega) (str_at hjk))) ?_
   refine d_t 8 rfl rfl (by kernel_rfl) rfl (fun _ m => m.keeps (.refl _)) (y_yes rfl rfl h19 (v_move rfl)) ?_
   refine d_t 9 rfl rfl (by kernel_rfl) rfl (fun _ m => m.keeps (.refl _)) (y_yes rfl rfl h19 (v_move rfl)) ?_
   refine d_t 10 rfl rfl (by kernel_rfl) rfl (fun _ m => m.keeps (.refl _)) (y_yes rfl rfl h19 (OV.cast (u := .int .i64 ((j - 1 : Nat) : Int)) (v_sub rfl rfl ⟨by omega, by omega⟩) (congrArg (Value.int .i64) (by omega)))) ?_
   refine d_t 11 rfl rfl (by kernel_rfl) rfl (fun _ m => m.keeps (.refl _)) (y_yes rfl rfl h19 (v_idx he rfl rfl rfl (j - 1) (by omega) (by omega))) ?_
   refine d_t 12 rfl rfl (by kernel_rfl) rfl (fun _ m => m.keeps (.refl _)) (y_yes rfl rfl h19 (v_lds m0 (Uk.append (str_uk _) rest.uk) he rfl (j - 1) (by omega) (str_at hjk1))) ?_
   refine d_one 13 (by kernel_rfl) rfl ?_
   refine o_yes rfl rfl h19 (o_callV (lessS _ _ _) rfl rfl ?_)
   refine d_on (fun _ m => m.keeps (.refl _)) ?_
   refine d_tv 14 rfl rfl (by kernel_rfl) rfl (.refl _) rfl (v_and_t h19 rfl rfl) ?_
   refine d_done (by kernel_rfl) ?_
   refine go 1 ?_
   refine cb rfl (fun h30 p30 => ?_) (fun h30 p30 => ?_)
   ·refine go 4 ?_
    refine d_start1 T.mixed ?_
    refine d_tv 0 rfl rfl (by kernel_rfl) rfl (.cons _ .slnil) rfl (v_move rfl) ?_
    refine d_tv 1 rfl rfl (by kernel_rfl) rfl (.cons _ .slnil) rfl (v_move rfl) ?_
    refine d_tv 2 rfl rfl (by kernel_rfl) rfl (.cons _ .slnil) rfl (v_move rfl) ?_
    refine d_tv 3 rfl rfl (by kernel_rfl) rfl (.cons _ .slnil) rfl (v_move rfl) ?_
    refine d_tv 4 rfl rfl (by kernel_rfl) rfl (.cons _ .slnil) rfl (OV.cast (u := .int .i64 ((j - 1 : Nat) : Int)) (v_sub rfl rfl ⟨by omega, by omega⟩) (congrArg (Value.int .i64) (by omega))) ?_
    refine d_tv 5 rfl rfl (by kernel_rfl) rfl (.cons _ .slnil) rfl (v_move rfl) ?_
    refine d_tv 6 rfl rfl (by kernel_rfl) rfl (.cons _ .slnil) rfl (v_move rfl) ?_
    refine d_tv 7 rfl rfl (by kernel_rfl) rfl (.cons _ .slnil) rfl (OV.cast (u := .int .i64 ((j - 1 : Nat) : Int)) (v_sub rfl rfl ⟨by omega, by omega⟩) (congrArg (Value.int .i64) (by omega))) ?_
    refine d_tv 8 rfl rfl (by kernel_rfl) rfl (.cons _ .slnil) rfl (v_idx he rfl rfl rfl (j - 1) (by omega) (by omega)) ?_
    refine d_tv 10 rfl rfl (by kernel_rfl) rfl (.cons _ .slnil) rfl (v_move rfl) ?_
    refine d_tv 11 rfl rfl (by kernel_rfl) rfl (.cons _ .slnil) rfl (v_move rfl) ?_
    refine d_tv 12 rfl rfl (by kernel_rfl) rfl (.cons _ .slnil) rfl (v_idx he rfl rfl rfl (j) (by omega) (by omega)) ?_
    refine d_two 9 13 (by kernel_rfl) rfl rfl ?_ ?_
    ·refine o_val rfl (v_lds m0 (Uk.append (str_uk _) rest.uk) he rfl (j - 1) (by omega) (str_at hjk1)) ?_
     refine d_on (fun _ m => m.keeps (.cons _ .slnil)) ?_
     refine d_one 13 (by kernel_rfl) rfl ?_
     refine o_val rfl (v_lds m0 (Uk.append (str_uk _) rest.uk) he rfl (j) (by omega) (str_at hjk)) ?_
     refine d_on (fun _ m => m.keeps (.cons _ .slnil)) ?_
     refine d_tv 14 rfl rfl (by kernel_rfl) rfl (.cons _ .slnil) rfl (v_idx he rfl rfl rfl (j) (by omega) (by omega)) ?_
     refine d_one 15 (by kernel_rfl) rfl ?_
     refine o_stc _ (j) (by first | exact Uk.append (str_uk _) rest.uk | exact (Uk.append (str_uk _) rest.uk).set rfl _) he rfl rfl rfl rfl rfl (by omega) (by simp [str_len]; omega) ?_
     refine d_on (fun _ m => m.keeps (.cons _ .slnil)) ?_
     refine d_tv 16 rfl rfl (by kernel_rfl) rfl (.cons _ .slnil) rfl (v_idx he rfl rfl rfl (j - 1) (by omega) (by omega)) ?_
     refine d_one 17 (by kernel_rfl) rfl ?_
     refine o_stc _ (j - 1) (by first | exact Uk.append (str_uk _) rest.uk | exact (Uk.append (str_uk _) rest.uk).set rfl _) he rfl rfl rfl rfl rfl (by omega) (by simp [str_len]; omega) ?_
     refine d_on (fun _ m => m.keeps (.cons _ .slnil)) ?_
     refine d_done (by kernel_rfl) ?_
     refine go 4 ?_
     refine o_v rfl (OV.cast (u := .int .i64 ((j - 1 : Nat) : Int)) (v_sub rfl rfl ⟨by omega, by omega⟩) (congrArg (Value.int .i64) (by omega))) ?_
     refine go 3 ?_
     exact q_next2 (j - 1) ((k.set j k[j - 1]).set (j - 1) k[j]) ⟨by omega, hpk.swap hjk hjk1⟩ (by omega) rfl sb (by first | rw [← str_swp hjk hjk1] | rw [← str_swp' hjk hjk1 (by omega)])
    ·refine o_val rfl (v_lds m0 (Uk.append (str_uk _) rest.uk) he rfl (j) (by omega) (str_at hjk)) ?_
     refine d_on (fun _ m => m.keeps (.cons _ .slnil)) ?_
     refine d_one 9 (by kernel_rfl) rfl ?_
     refine o_val rfl (v_lds m0 (Uk.append (str_uk _) rest.uk) he rfl (j - 1) (by omega) (str_at hjk1)) ?_
     refine d_on (fun _ m => m.keeps (.cons _ .slnil)) ?_
     refine d_tv 14 rfl rfl (by kernel_rfl) rfl (.cons _ .slnil) rfl (v_idx he rfl rfl rfl (j) (by omega) (by omega)) ?_
     refine d_one 15 (by kernel_rfl) rfl ?_
     refine o_stc _ (j) (by first | exact Uk.append (str_uk _) rest.uk | exact (Uk.append (str_uk _) rest.uk).set rfl _) he rfl rfl rfl rfl rfl (by omega) (by simp [str_len]; omega) ?_
     refine d_on (fun _ m => m.keeps (.cons _ .slnil)) ?_
     refine d_tv 16 rfl rfl (by kernel_rfl) rfl (.cons _ .slnil) rfl (v_idx he rfl rfl rfl (j - 1) (by omega) (by omega)) ?_
     refine d_one 17 (by kernel_rfl) rfl ?_
     refine o_stc _ (j - 1) (by first | exact Uk.append (str_uk _) rest.uk | exact (Uk.append (str_uk _) rest.uk).set rfl _) he rfl rfl rfl rfl rfl (by omega) (by simp [str_len]; omega) ?_
     refine d_on (fun _ m => m.keeps (.cons _ .slnil)) ?_
     refine d_done (by kernel_rfl) ?_
     refine go 4 ?_
     refine o_v rfl (OV.cast (u := .int .i64 ((j - 1 : Nat) : Int)) (v_sub rfl rfl ⟨by omega, by omega⟩) (congrArg (Value.int .i64) (by omega))) ?_
     refine go 3 ?_
     exact q_next2 (j - 1) ((k.set j k[j - 1]).set (j - 1) k[j]) ⟨by omega, hpk.swap hjk hjk1⟩ (by omega) rfl sb (by first | rw [← str_swp hjk hjk1] | rw [← str_swp' hjk hjk1 (by omega)])
   ·refine go 12 ?_
    exact q_next2 (i + 1) (k) ⟨by omega, hpk⟩ (by omega) rfl sb rfl
  ·refine d_t 4 rfl rfl (by kernel_rfl) rfl (fun _ m => m.keeps (.refl _)) (y_no rfl rfl h19) ?_
   refine d_t 5 rfl rfl (by kernel_rfl) rfl (fun _ m => m.keeps (.refl _)) (y_no rfl rfl h19) ?_
   refine d_t 6 rfl rfl (by kernel_rfl) rfl (fun _ m => m.keeps (.refl _)) (y_no rfl rfl h19) ?_
   refine d_t 7 rfl rfl (by kernel_rfl) rfl (fun _ m => m.keeps (.refl _)) (y_no rfl rfl h19) ?_
   refine d_t 8 rfl rfl (by kernel_rfl) rfl (fun _ m => m.keeps (.refl _)) (y_no rfl rfl h19) ?_
   refine d_t 9 rfl rfl (by kernel_rfl) rfl (fun _ m => m.keeps (.refl _)) (y_no rfl rfl h19) ?_
   refine d_t 10 rfl rfl (by kernel_rfl) rfl (fun _ m => m.keeps (.refl _)) (y_no rfl rfl h19) ?_
   refine d_t 11 rfl rfl (by kernel_rfl) rfl (fun _ m => m.keeps (.refl _)) (y_no rfl rfl h19) ?_
   refine d_t 12 rfl rfl (by kernel_rfl) rfl (fun _ m => m.keeps (.refl _)) (y_no rfl rfl h19) ?_
   refine d_t 13 rfl rfl (by kernel_rfl) rfl (fun _ m => m.keeps (.refl _)) (y_no rfl rfl h19) ?_
   refine d_tv 14 rfl rfl (by kernel_rfl) rfl (.refl _) rfl (v_and_f h19 rfl) ?_
   refine d_done (by kernel_rfl) ?_
   refine go 1 ?_
   refine c_false rfl ?_
   refine go 12 ?_
   exact q_next2 (i + 1) (k) ⟨by omega, hpk⟩ (by omega) rfl sb rfl
 ·refine go 4 ?_
  refine end0 rfl ?_
  exact q_x ⟨rfl, m, hpm, rfl⟩

theorem pdqStr (I : IMap) {rest : Rst 1} {cap : Nat} (g : Nat) (l : List ByteArray) (hl : 0 < l.length) (hl2 : l.length ≤ 12) (hc : l.length + rest.l.length = cap) (hcm : cap ≤ maxLen) (z : Int) :
    FnX Tryz.prog 116 #[.slice (some ⟨g, 0, none⟩) l.length cap, .int .i64 0, .int .i64 ((l.length : Nat) : Int), .int .i64 z] I [.blk g 9 (strCh l ++ rest.l).flatten] (fun u r => u = .tuple #[] ∧ ∃ m, Pm l m ∧ r = .blk g 9 (strCh m ++ rest.l).flatten) := by
 refine enter Tryz.func116 Tryz.call116 rfl Tryz.ntmps116 rfl (fun w0 => ?_)
 refine go 11 ?_
 refine c_loop (α := Nat) 0 (fun i => I)
  (fun i => [(0, .slice (some ⟨g, 0, none⟩) l.length cap), (1, .int .i64 0), (2, .int .i64 ((l.length : Nat) : Int))])
  (fun i => [.blk g 9 (strCh l ++ rest.l).flatten])
  (fun i => True)
  (fun i => 0) trivial rfl sb rfl ?_
 intro i _
 refine go 5 ?_
 refine o_v rfl (OV.cast (u := .int .i64 ((l.length : Nat) : Int)) (v_sub rfl rfl ⟨by omega, by omega⟩) (congrArg (Value.int .i64) (by omega))) ?_
 refine go 7 ?_
 refine o_v rfl (OV.cast (u := .bool true) (v_leq rfl rfl) (congrArg Value.bool (decide_eq_true (by omega)))) ?_
 refine go 2 ?_
 refine c_true rfl ?_
 refine go 6 ?_
 refine o_callX1 (insStr _ g l hl hl2 hc hcm) rfl rfl (fun v27 s27 q27 => ?_)
 obtain ⟨rfl, m, hpm, rfl⟩ := q27
 refine go 7 ?_
 refine fin0 rfl ?_
 exact q_x ⟨rfl, m, hpm, rfl⟩

theorem len64 (I : IMap) (n : Nat) (hn : n < 200) :
    FnE Tryz.prog 154 #[.int .u64 ((n : Nat) : Int)] I (fun u => ∃ k : Nat, u = .int .i64 (k : Int)) := by
 refine enter Tryz.func154 Tryz.call154 rfl Tryz.ntmps154 rfl (fun w0 => ?_)
 refine go 9 ?_
 refine o_v rfl (OV.cast (u := .bool false) (v_geq rfl rfl) (congrArg Value.bool (decide_eq_false (by omega)))) ?_
 refine go 2 ?_
 refine c_false rfl ?_
 refine go 6 ?_
 refine o_v rfl (OV.cast (u := .bool false) (v_geq rfl rfl) (congrArg Value.bool (decide_eq_false (by omega)))) ?_
 refine go 2 ?_
 refine c_false rfl ?_
 refine go 6 ?_
 refine o_v rfl (OV.cast (u := .bool false) (v_geq rfl rfl) (congrArg Value.bool (decide_eq_false (by omega)))) ?_
 refine go 2 ?_
 refine c_false rfl ?_
 refine go 6 ?_
 refine o_v rfl (v_conv he he rfl (m := ((n : Nat) : Int)) (wrap_u8 n (by omega))) ?_
 refine o_v rfl (v_sidxK he rfl rfl n rfl (Nat.lt_of_lt_of_le hn (by decide +kernel))) ?_
 refine o_v rfl (v_conv he he rfl (conv_u8 _)) ?_
 refine o_v rfl (v_add rfl rfl (conv_add _)) ?_
 refine go 4 ?_
 refine fin1 rfl rfl ?_
 exact q_e ⟨_, by rw [Int.zero_add]⟩

theorem bitsLen (I : IMap) (n : Nat) (hn : n < 200) :
    FnE Tryz.prog 117 #[.int .u64 ((n : Nat) : Int)] I (fun u => ∃ k : Nat, u = .int .i64 (k : Int)) := by
 refine enter Tryz.func117 Tryz.call117 rfl Tryz.ntmps117 rfl (fun w0 => ?_)
 refine go 6 ?_
 refine c_false rfl ?_
 refine go 6 ?_
 refine o_callE (len64 _ n hn) rfl rfl (fun v7 q7 => ?_)
 obtain ⟨k, rfl⟩ := q7
 refine go 4 ?_
 refine fin1 rfl rfl ?_
 exact q_e ⟨_, rfl⟩

theorem sortStr (I : IMap) {rest : Rst 1} {cap : Nat} (g : Nat) (l : List ByteArray) (hl : 0 < l.length) (hl2 : l.length ≤ 12) (hc : l.length + rest.l.length = cap) (hcm : cap ≤ maxLen) :
    FnX Tryz.prog 94 #[.slice (some ⟨g, 0, none⟩) l.length cap] I [.blk g 9 (strCh l ++ rest.l).flatten] (fun u r => u = .tuple #[] ∧ ∃ m, Pm l m ∧ r = .blk g 9 (strCh m ++ rest.l).flatten) := by
 refine enter Tryz.func94 Tryz.call94 rfl Tryz.ntmps94 rfl (fun w0 => ?_)
 refine go 11 ?_
 refine o_v rfl (v_conv he he rfl (m := ((l.length : Nat) : Int)) (wrap_u64 _ (by omega) (by omega))) ?_
 refine go 1 ?_
 refine o_callE (bitsLen _ l.length (by omega)) rfl rfl (fun v9 q9 => ?_)
 obtain ⟨z, rfl⟩ := q9
 refine go 1 ?_
 refine o_callX1 (pdqStr _ g l hl hl2 hc hcm z) rfl rfl (fun v10 s10 q10 => ?_)
 obtain ⟨rfl, m, hpm, rfl⟩ := q10
 refine go 1 ?_
 refine end0 rfl ?_
 exact q_x ⟨rfl, m, hpm, rfl⟩

theorem compactStr (I : IMap) {rest : Rst 1} {cap : Nat} (g : Nat) (l : List ByteArray) (hl : 0 < l.length) (hl2 : l.length ≤ 12) (hc : l.length + rest.l.length = cap) (hcm : cap ≤ maxLen) :
    FnX Tryz.prog 95 #[.slice (some ⟨g, 0, none⟩) l.length cap] I [.blk g 9 (strCh l ++ rest.l).flatten] (fun u r => ∃ m rest2, (∀ x, x ∈ m ↔ x ∈ l) ∧ m.length ≤ l.length ∧ u = .slice (some ⟨g, 0, none⟩) m.length cap ∧ r = .blk g 9 (strCh m ++ rest2).flatten ∧ Uk 1 rest2 ∧ m.length + rest2.length = cap) := by
 refine enter Tryz.func95 Tryz.call95 rfl Tryz.ntmps95 rfl (fun w0 => ?_)
 refine go 13 ?_
 refine cb rfl (fun h8 p8 => ?_) (fun h8 p8 => ?_)
 ·refine go 8 ?_
  refine fin1 rfl rfl ?_
  exact q_x ⟨l, rest.l, fun _ => Iff.rfl, Nat.le_refl _, rfl, rfl, rest.uk, hc⟩
 ·refine go 9 ?_
  refine c_loop (α := Nat) 1 (fun k0 => I)
   (fun k0 => [(0, .slice (some ⟨g, 0, none⟩) l.length cap), (3, .int .i64 ((k0 : Nat) : Int))])
   (fun k0 => [.blk g 9 (strCh l ++ rest.l).flatten])
   (fun k0 => 1 ≤ k0 ∧ k0 ≤ l.length)
   (fun k0 => l.length - k0) ⟨Nat.le_refl _, hl⟩ rfl sb rfl ?_
  intro k0 ⟨hk1, hk2⟩
  refine go 9 ?_
  refine cb rfl (fun h13 p13 => ?_) (fun h13 p13 => ?_)
  ·have hkl : k0 < l.length := by omega
   have hkm : k0 - 1 < l.length := by omega
   refine go 5 ?_
   refine d_startH T.mixed ?_
   refine d_tv 0 rfl rfl (by kernel_rfl) rfl (.refl _) rfl (v_move rfl) ?_
   refine d_tv 1 rfl rfl (by kernel_rfl) rfl (.refl _) rfl (v_move rfl) ?_
   refine d_tv 2 rfl rfl (by kernel_rfl) rfl (.refl _) rfl (v_idx he rfl rfl rfl (k0) (by omega) (by omega)) ?_
   refine d_tv 3 rfl rfl (by kernel_rfl) rfl (.refl _) rfl (v_lds m0 (Uk.append (str_uk _) rest.uk) he rfl (k0) (by omega) (str_at hkl)) ?_
   refine d_tv 4 rfl rfl (by kernel_rfl) rfl (.refl _) rfl (v_move rfl) ?_
   refine d_tv 5 rfl rfl (by kernel_rfl) rfl (.refl _) rfl (v_move rfl) ?_
   refine d_tv 6 rfl rfl (by kernel_rfl) rfl (.refl _) rfl (OV.cast (u := .int .i64 ((k0 - 1 : Nat) : Int)) (v_sub rfl rfl ⟨by omega, by omega⟩) (congrArg (Value.int .i64) (by omega))) ?_
   refine d_tv 7 rfl rfl (by kernel_rfl) rfl (.refl _) rfl (v_idx he rfl rfl rfl (k0 - 1) (by omega) (by omega)) ?_
   refine d_tv 8 rfl rfl (by kernel_rfl) rfl (.refl _) rfl (v_lds m0 (Uk.append (str_uk _) rest.uk) he rfl (k0 - 1) (by omega) (str_at hkm)) ?_
   refine d_tv 9 rfl rfl (by kernel_rfl) rfl (.refl _) rfl (v_seql rfl rfl) ?_
   refine d_done (by kernel_rfl) ?_
   refine go 1 ?_
   refine cb rfl (fun h25 p25 => ?_) (fun h25 p25 => ?_)
   ·have hst : Cpt l l k0 (k0 + 1) := Cpt.start hk1 hkl p25
    refine go 4 ?_
    refine o_v rfl (OV.cast (u := .slice (some ⟨g, k0, none⟩) (l.length - k0) (cap - k0)) (v_slice_lo he rfl rfl k0 (by omega) (by omega)) (by rw [cutA, if_neg (by omega)]; simp [add_lit])) ?_
    refine go 10 ?_
    refine c_loop3 (1) (k0) (l) (fun q k B => I)
     (fun q k B => [(0, .slice (some ⟨g, 0, none⟩) l.length cap), (3, .int .i64 ((k : Nat) : Int)), (4, .slice (some ⟨g, k0, none⟩) (l.length - k0) (cap - k0)), (5, .int .i64 ((q : Nat) : Int))])
     (fun q k B => [.blk g 9 (strCh B ++ rest.l).flatten])
     (fun q k B => 1 ≤ q ∧ 1 ≤ k ∧ Cpt l B k (k0 + q))
     (fun q k B => l.length - (k0 + q)) ⟨Nat.le_refl _, hk1, hst⟩ rfl sb rfl ?_
    intro q k B ⟨hq, hk, hB⟩
    have hBl := hB.len
    have hkp := hB.kp
    have hpl := hB.pl
    refine go 5 ?_
    refine o_v rfl (OV.cast (u := .int .i64 ((l.length - k0 : Nat) : Int)) (v_len_slice he rfl) rfl) ?_
    refine go 3 ?_
    refine cb rfl (fun h32 p32 => ?_) (fun h32 p32 => ?_)
    ·have hpq : k0 + q < l.length := by omega
     have hpB : k0 + q < B.length := by omega
     have hpm : k0 + q - 1 < B.length := by omega
     have hg1 := hB.get (j := k0 + q) (by omega) hpq hpB
     have hg2 := hB.get (j := k0 + q - 1) (by omega) (by omega) hpm
     refine go 5 ?_
     refine d_startH T.mixed ?_
     refine d_tv 0 rfl rfl (by kernel_rfl) rfl (.refl _) rfl (v_move rfl) ?_
     refine d_tv 1 rfl rfl (by kernel_rfl) rfl (.refl _) rfl (v_move rfl) ?_
     refine d_tv 2 rfl rfl (by kernel_rfl) rfl (.refl _) rfl (v_idx he rfl rfl rfl (q) (by omega) (by omega)) ?_
     refine d_tv 3 rfl rfl (by kernel_rfl) rfl (.refl _) rfl (v_lds m0 (Uk.append (str_uk _) rest.uk) he rfl (k0 + q) (by omega) (str_at hpB)) ?_
     refine d_tv 4 rfl rfl (by kernel_rfl) rfl (.refl _) rfl (v_move rfl) ?_
     refine d_tv 5 rfl rfl (by kernel_rfl) rfl (.refl _) rfl (v_move rfl) ?_
     refine d_tv 6 rfl rfl (by kernel_rfl) rfl (.refl _) rfl (OV.cast (u := .int .i64 ((q - 1 : Nat) : Int)) (v_sub rfl rfl ⟨by omega, by omega⟩) (congrArg (Value.int .i64) (by omega))) ?_
     refine d_tv 7 rfl rfl (by kernel_rfl) rfl (.refl _) rfl (v_idx he rfl rfl rfl (q - 1) (by omega) (by omega)) ?_
     refine d_tv 8 rfl rfl (by kernel_rfl) rfl (.refl _) rfl (v_lds m0 (Uk.append (str_uk _) rest.uk) he rfl (k0 + q - 1) (by omega) (str_at hpm)) ?_
     refine d_tv 9 rfl rfl (by kernel_rfl) rfl (.refl _) rfl (v_sneq rfl rfl) ?_
     refine d_done (by kernel_rfl) ?_
     refine go 1 ?_
     refine cb rfl (fun h44 p44 => ?_) (fun h44 p44 => ?_)
     ·refine go 6 ?_
      refine o_v rfl (v_idx he rfl rfl rfl (q) (by omega) (by omega)) ?_
      refine o_v rfl (v_lds m0 (Uk.append (str_uk _) rest.uk) he rfl (k0 + q) (by omega) (str_at hpB)) ?_
      refine o_v rfl (v_idx he rfl rfl rfl (k) (by omega) (by omega)) ?_
      refine go 1 ?_
      refine o_stc _ (k) (Uk.append (str_uk _) rest.uk) he rfl rfl rfl rfl rfl (by omega) (by simp [str_len]; omega) ?_
      refine go 15 ?_
      exact q_next3 (q + 1) (k + 1) (B.set k l[k0 + q]) ⟨by omega, by omega, hB.keep hpq⟩ (by omega) rfl sb (by rw [← hg1, ← str_set (by omega)])
     ·refine go 9 ?_
      exact q_next3 (q + 1) (k) (B) ⟨by omega, hk, hB.skip hpq (by rw [← hg1, ← hg2]; simpa using h44) (by omega)⟩ (by omega) rfl sb rfl
    ·have hend : k0 + q = l.length := by omega
     have hdone := fun x => (hend ▸ hB).done x
     refine go 9 ?_
     refine o_v rfl (OV.cast (u := .slice (some ⟨g, k, none⟩) (l.length - k) (cap - k)) (v_slice_lo he rfl rfl k (by omega) (by omega)) (by rw [cutA, if_neg (by omega)]; simp [add_lit])) ?_
     refine go 1 ?_
     refine o_clear k he he rfl rfl rfl rfl (Uk.append (str_uk _) rest.uk) (fun _ => by rw [Nat.mul_one]) (by simp [str_len]; omega) ?_
     rw [str_clear (by omega)]
     refine go 6 ?_
     refine o_v rfl (v_slice_hi he rfl rfl k (by omega) (by omega)) ?_
     refine go 9 ?_
     refine fin1 rfl rfl ?_
     refine q_x ⟨B.take k, List.replicate (l.length - k) [.string ⟨#[]⟩] ++ rest.l, hdone, by rw [List.length_take]; omega, ?_, rfl, (Uk.rep rfl _).append rest.uk, by rw [List.length_take, List.length_append, List.length_replicate]; omega⟩
     rw [List.length_take, Nat.min_eq_left (by omega)]
   ·refine go 9 ?_
    exact q_next (k0 + 1) ⟨by omega, by omega⟩ (by omega) rfl sb rfl
  ·refine go 12 ?_
   refine fin1 rfl rfl ?_
   exact q_x ⟨l, rest.l, fun _ => Iff.rfl, Nat.le_refl _, rfl, rfl, rest.uk, hc⟩

theorem sortRow (I : IMap) (v : Value) (l : List ByteArray) (xs : List Value) (hF : Flat I xs l) (hl : 0 < l.length) (hl2 : l.length ≤ 12) :
    FnX Tryz.prog 94 #[v] I [.row v 9 1 l.length xs] (fun u r => u = .tuple #[] ∧ ∃ m ys, Pm l m ∧ Flat I ys m ∧ r = .row v 9 1 l.length ys) :=
  FnX.of_rowF (args := fun v => [v]) hF rfl rfl hl fun g cap rest xss hv hC hR hc hcm => by
    subst hv
    obtain rfl := str_of hC
    refine FnX.backE (k := 1) ((sortStr I (rest := ⟨rest, hR⟩) g l hl hl2 hc hcm).weak ?_)
    rintro u r ⟨rfl, m, hpm, rfl⟩
    exact ⟨strCh m, rest, l.length, cap, str_uk m, hR, by rw [str_len, hpm.1], hc, hcm, rfl, rfl, m, _, hpm, (str_flat I m).flat, rfl⟩
theorem compactRow (I : IMap) (v : Value) (l : List ByteArray) (xs : List Value) (hF : Flat I xs l) (hl : 0 < l.length) (hl2 : l.length ≤ 12) :
    FnX Tryz.prog 95 #[v] I [.row v 9 1 l.length xs] (fun u r => ∃ m ys, (∀ x, x ∈ m ↔ x ∈ l) ∧ m.length ≤ l.length ∧ Flat I ys m ∧ r = .row u 9 1 m.length ys) :=
  FnX.of_rowF (args := fun v => [v]) hF rfl rfl hl fun g cap rest xss hv hC hR hc hcm => by
    subst hv
    obtain rfl := str_of hC
    refine FnX.backE (k := 1) ((compactStr I (rest := ⟨rest, hR⟩) g l hl hl2 hc hcm).weak ?_)
    rintro u r ⟨m, rest2, hm, hml, rfl, rfl, hR2, hc2⟩
    exact ⟨strCh m, rest2, m.length, cap, str_uk m, hR2, str_len m, hc2, hcm, rfl, m, _, hm, hml, (str_flat I m).flat, rfl⟩

theorem joinedS (I : IMap) (v : Value) (ls : List (List ByteArray)) (hv : RdS I v ls) (hl : ls.length ≤ 1000000) (h1 : 0 < ls.flatten.length) (h2 : ls.flatten.length ≤ 12) :
    FnX Tryz.prog 57 #[v] I [] (fun u r => ∃ m ys, (∀ x, x ∈ m ↔ x ∈ ls.flatten) ∧ m.length ≤ ls.flatten.length ∧ Flat I ys m ∧ r = .row u 9 1 m.length ys) := by
 refine enter Tryz.func57 Tryz.call57 rfl Tryz.ntmps57 rfl (fun w0 => ?_)
 refine go 9 ?_
 refine o_callX0 (concatS _ v ls hv (by omega) hl) rfl rfl (fun v5 s5 q5 => ?_)
 obtain ⟨xs5, rfl, hF5⟩ := q5
 refine go 7 ?_
 refine o_callX1 (sortRow _ _ ls.flatten xs5 hF5 h1 h2) rfl rfl (fun v7 s7 q7 => ?_)
 obtain ⟨rfl, m, ys, hpm, hFm, rfl⟩ := q7
 rw [← hpm.1]
 refine go 6 ?_
 refine o_callX1 (compactRow _ _ m ys hFm (by rw [hpm.1]; exact h1) (by rw [hpm.1]; exact h2)) rfl rfl (fun v9 s9 q9 => ?_)
 obtain ⟨m2, zs, hm2, hl2, hFz, rfl⟩ := q9
 refine go 4 ?_
 refine fin1 rfl rfl ?_
 exact q_x ⟨m2, zs, fun x => (hm2 x).trans (hpm.2 x), by have := hpm.1; omega, hFz, rfl⟩

theorem repNames (I : IMap) (r : Rep) (S : Option Addr) (d : Nat) (hr : RdS I (.slice S r.options.length d) r.options) (hs : ∀ e ∈ r.options, SmE e) :
    FnI Tryz.prog 34 #[.agg (r.cells (.slice S r.options.length d)).toArray] I (fun u J => ∃ ns, RdS J u ns ∧ NamesOf r ns) := by
 have hSA : RdA I S r.options := hr.toA
 have hl5 := hr.lenLe
 refine enter Tryz.func34 Tryz.call34 rfl Tryz.ntmps34 rfl (fun w0 => ?_)
 refine go 3 ?_
 refine o_box _ rfl rfl rfl (fun g1 => ?_)
 refine go 8 ?_
 refine o_callV (repValid _ r S d hr hs) rfl rfl ?_
 refine go 3 ?_
 refine cb rfl (fun h8 p8 => ?_) (fun h8 p8 => ?_)
 ·refine go 7 ?_
  refine fin1 rfl rfl ?_
  exact q_i ⟨[], RdS.nil', names_none (by simpa using h8)⟩
 ·have hvr : validRep r = true := by simpa using h8
  have hvl := validRep_len hvr
  refine go 4 ?_
  refine sx_nilrow 61 1 ?_
  refine go 13 ?_
  refine bring1 ?_
  refine sx_drop ?_
  refine c_loop4 ((0 : Nat)) (_) ([]) (I) (fun i v3 xs J => J)
   (fun i v3 xs J => [(3, v3), (10, .slice S r.options.length d), (11, .int .i64 ((r.options.length : Nat) : Int)), (12, .int .i64 ((i : Nat) : Int))])
   (fun i v3 xs J => [.row v3 61 1 i xs])
   (fun i v3 xs J => i ≤ r.options.length ∧ ILe I J ∧ Flat J xs ((r.options.take i).map namesE))
   (fun i v3 xs J => r.options.length - i) ⟨Nat.zero_le _, ILe.refl _, .nil⟩ rfl sb rfl ?_
  intro i v3 xs J ⟨hi, hJ, hF⟩
  have hSA := hSA.le hJ
  refine go 6 ?_
  refine cb rfl (fun h13 p13 => ?_) (fun h13 p13 => ?_)
  ·have hlt : i < r.options.length := by omega
   refine go 6 ?_
   obtain ⟨b14, o14, w14, e14, c14, r14⟩ := RdA.at_ hSA (i := i) (by omega)
   obtain rfl := r14
   refine o_v rfl (v_idx he rfl rfl e14 (i) (by omega) (by omega)) ?_
   refine o_v rfl (v_ldIa he rfl c14 rfl) ?_
   refine go 1 ?_
   refine o_alloc he rfl (fun g5 => ?_)
   refine go 1 ?_
   refine o_stw _ he rfl rfl rfl rfl rfl rfl ?_
   refine go 6 ?_
   refine o_call (evNames _ r.options[i] (hs _ (List.getElem_mem hlt))) rfl rfl (fun v18 I18 j18 q18 => ?_)
   have q18s := q18
   obtain ⟨A18, c18, rfl, _, _, _⟩ := q18
   refine go 1 ?_
   refine o_buildSlice he he rfl rfl rfl rfl rfl rfl rfl (fun v19 => ?_)
   refine go 1 ?_
   refine bring2 ?_
   refine o_appendO he he rfl rfl rfl rfl rfl (by omega) (by omega) rfl (fun v20 => ?_)
   refine go 9 ?_
   refine bring1 ?_
   refine sx_drop ?_
   refine bring1 ?_
   refine sx_drop ?_
   exact q_next4 (i + 1) (_) (_) (_) ⟨by omega, hJ.trans j18, by rw [← take_succ_of hlt, List.map_append]; exact (hF.le j18).append (.one ⟨_, rfl, q18s⟩)⟩ (by omega) rfl sb rfl
  ·have e : i = r.options.length := by omega
   subst e
   rw [List.take_length] at hF
   have hnf := names_flat r.options (validRep_e hvr)
   refine go 7 ?_
   refine sx_pubrow (l := (r.options.map namesE)) rfl (by rw [List.length_map]) (hF) (fun Ip jp Rp => ?_)
   refine go 2 ?_
   refine o_callX0 (joinedS _ _ (r.options.map namesE) Rp (by rw [List.length_map]; omega) (by omega) (by omega)) rfl rfl (fun v23 s23 q23 => ?_)
   obtain ⟨m, ys, hm, hml, hFm, rfl⟩ := q23
   refine sx_pubrow (l := m) rfl rfl (hFm) (fun Iq jq Rq => ?_)
   refine go 4 ?_
   refine fin1 rfl rfl ?_
   exact q_i ⟨m, Rq, names_of_rep hvr hm hml⟩

end Go.Proofs.YtoadjlmbdliceaaGreat

/- The plain law of HistoryFalse: fewer open choices are false, too. -/
set_option linter.all false
namespace Go.Sx
open Go
theorem chs_pos {r : Rep} (h : validRep r = true) : 1 ≤ chs r := by
  have := validRep_len h
  simp only [chs, h, Bool.true_eq_false, if_false]
  split <;> omega
theorem allTo_of {f : Rep → Int → Bool} {l : List Rep} {ch : List Int} (h : ∀ i (h1 : i < l.length) (h2 : i < ch.length), f l[i] ch[i] = true) (hl : ch.length = l.length) : allTo f l ch l.length = true := by
  rw [allTo, List.all_eq_true]
  intro i hi
  have hi := List.mem_range.1 hi
  rw [at2_eq hi (by omega)]
  exact h i hi (by omega)
theorem given_mk {c : List Kind} {l : List Rep} {ch : List Int} {n : Int} (hc : validC c = true) (hl : ch.length = l.length) (h : ∀ i (h1 : i < l.length) (h2 : i < ch.length), chs l[i] ≠ 0 ∧ n ≤ ch[i] ∧ ch[i] < chs l[i]) : givenF c l ch n = true := by
  simp only [givenF, hc, Bool.and_eq_true]
  refine ⟨by simp [hl], allTo_of (fun i h1 h2 => ?_) hl⟩
  obtain ⟨a, b, d⟩ := h i h1 h2
  simp only [chFine, Bool.not_eq_true', Bool.or_eq_false_iff, decide_eq_false_iff_not]
  omega
theorem given_at {c : List Kind} {l : List Rep} {ch : List Int} {n : Int} (h : givenF c l ch n = true) {i : Nat} (h1 : i < l.length) (h2 : i < ch.length) : chs l[i] ≠ 0 ∧ n ≤ ch[i] ∧ ch[i] < chs l[i] := by
  simp only [givenF, Bool.and_eq_true] at h
  have := allTo_at h.2 h1 h1 h2
  simp only [chFine, Bool.not_eq_true', Bool.or_eq_false_iff, decide_eq_false_iff_not] at this
  omega
theorem given_cat {c : List Kind} {l : List Rep} {ch : List Int} {n : Int} (h : givenF c l ch n = true) : validC c = true := by
  simp only [givenF, Bool.and_eq_true, Bool.not_eq_true', Bool.or_eq_false_iff, Bool.not_eq_false'] at h
  exact h.1.1
theorem open_at {ch : List Int} {a i : Nat} (h : i < (openF ch a).length) : (openF ch a)[i] = if a.testBit i = true then -1 else ch[i]'(by simpa [openF] using h) := by simp [openF]
theorem given_open {c : List Kind} {l : List Rep} {ch : List Int} (h : givenF c l ch 0 = true) (a : Nat) : givenF c l (openF ch a) (-1) = true := by
  have hl := (given_all h).1
  refine given_mk (given_cat h) (by rw [openF_len, hl]) fun i h1 h2 => ?_
  have := given_at h h1 (by rw [openF_len] at h2; exact h2)
  rw [open_at]
  split <;> omega
theorem given_less {c : List Kind} {l : List Rep} {ch : List Int} (h : givenF c l ch 0 = true) : givenF c l ch (-1) = true := by
  refine given_mk (given_cat h) (given_all h).1 fun i h1 h2 => ?_
  have := given_at h h1 h2
  omega
/-! the least day -/
theorem least_le : ∀ (l : List Int) (a : Int), l.foldl (fun a d => if d < a then d else a) a ≤ a ∧ ∀ d ∈ l, l.foldl (fun a d => if d < a then d else a) a ≤ d
  | [], a => ⟨Int.le_refl _, fun d h => by cases h⟩
  | x :: r, a => by
    obtain ⟨h1, h2⟩ := least_le r (if x < a then x else a)
    rw [List.foldl_cons]
    refine ⟨Int.le_trans h1 (by split <;> omega), fun d hd => ?_⟩
    rcases List.mem_cons.1 hd with rfl | hd
    · exact Int.le_trans h1 (by split <;> omega)
    · exact h2 d hd
theorem least_ge : ∀ (l : List Int) (a m : Int), m ≤ a → (∀ d ∈ l, m ≤ d) → m ≤ l.foldl (fun a d => if d < a then d else a) a
  | [], a, m, h, _ => h
  | x :: r, a, m, h, hl => by
    rw [List.foldl_cons]
    exact least_ge r _ m (by have := hl x (by simp); split <;> omega) fun d hd => hl d (by simp [hd])
theorem mem_open {l : List Rep} {ch : List Int} (hl : ch.length = l.length) {d : Int} : d ∈ openDays l ch l.length ↔ ∃ i, ∃ (h1 : i < l.length), ∃ (h2 : i < ch.length), ch[i] < 0 ∧ ∃ e ∈ l[i].options, e.day = d := by
  rw [openDays, List.mem_flatMap]
  constructor
  · rintro ⟨i, hi, hd⟩
    have hi := List.mem_range.1 hi
    rw [at2_eq hi (by omega)] at hd
    simp only [Option.getD_some] at hd
    split at hd
    · rename_i hc
      obtain ⟨e, he, rfl⟩ := List.mem_map.1 hd
      exact ⟨i, hi, by omega, hc, e, he, rfl⟩
    · cases hd
  · rintro ⟨i, h1, h2, hc, e, he, rfl⟩
    refine ⟨i, List.mem_range.2 h1, ?_⟩
    rw [at2_eq h1 h2]
    simp only [Option.getD_some, if_pos hc]
    exact List.mem_map.2 ⟨e, he, rfl⟩
    
/-! picks before a day -/
theorem pkd_filt {L1 L2 : Int} {l : List Rep} {ch1 ch2 : List Int} {i : Nat} (h1 : i < l.length) (h2 : i < ch1.length) (h3 : i < ch2.length) (h : optAt L1 l[i] ch1[i] = (optAt L2 l[i] ch2[i]).filter fun e => decide (e.day < L1)) :
    pkd L1 l ch1 i = (pkd L2 l ch2 i).filter fun p => decide (p.e.day < L1) := by
  unfold pkd
  rw [at2_eq h1 h2, at2_eq h1 h3, h]
  cases hq : optAt L2 l[i] ch2[i] with
  | none => rfl
  | some e =>
    simp only [Option.join_some, Option.filter_some]
    by_cases hd : e.day < L1
    · simp only [hd, decide_true, if_true]
      split
      · simp [Option.filter, hd]
      · rfl
    · simp only [hd, decide_false, Bool.false_eq_true, if_false]
      split
      · simp [Option.filter, hd]
      · rfl
theorem pick_filt {L1 L2 : Int} {l : List Rep} {ch1 ch2 : List Int} (hl1 : ch1.length = l.length) (hl2 : ch2.length = l.length) (h : ∀ i (h1 : i < l.length) (h2 : i < ch1.length) (h3 : i < ch2.length), optAt L1 l[i] ch1[i] = (optAt L2 l[i] ch2[i]).filter fun e => decide (e.day < L1)) :
    ∀ n, n ≤ l.length → pickF L1 l ch1 n = (pickF L2 l ch2 n).filter fun p => decide (p.e.day < L1) := by
  intro n
  induction n with
  | zero => intro _; rfl
  | succ n ih =>
    intro hn
    rw [pick_succ, pick_succ, List.filter_append, ← ih (by omega), pkd_filt (by omega) (by omega) (by omega) (h n (by omega) (by omega) (by omega))]
    congr 1
    cases pkd L2 l ch2 n with
    | none => rfl
    | some p => by_cases hp : p.e.day < L1 <;> simp [Option.filter, hp]
theorem srt_split {α : Type} [Day α] (L : Int) : ∀ {l : List α}, Srtd l → l = l.filter (fun x => decide (Day.day x < L)) ++ l.filter (fun x => !decide (Day.day x < L))
  | [], _ => rfl
  | x :: r, h => by
    have h' := List.pairwise_cons.1 h
    by_cases hx : Day.day x < L
    · simp only [List.filter_cons, hx, decide_true, if_true, Bool.not_true, Bool.false_eq_true, if_false, List.cons_append]
      rw [← srt_split L h'.2]
    · have h0 : r.filter (fun x => decide (Day.day x < L)) = [] := by
        rw [List.filter_eq_nil_iff]
        intro y hy
        have := h'.1 y hy
        simp; omega
      have h1 : r.filter (fun x => !decide (Day.day x < L)) = r := by
        rw [List.filter_eq_self]
        intro y hy
        have := h'.1 y hy
        simp; omega
      simp [List.filter_cons, hx, h0, h1]
theorem follow_less {c : List Kind} {l : List Rep} {ch1 ch2 : List Int} {L1 L2 : Int} (h : pickF L1 l ch1 l.length = (pickF L2 l ch2 l.length).filter fun p => decide (p.e.day < L1)) (hf : (followF c l ch1 L1).2 ≠ 0) : (followF c l ch2 L2).2 ≠ 0 := by
  unfold followF at hf ⊢
  have e1 : sortF (pickF L1 l ch1 l.length) = (sortF (pickF L2 l ch2 l.length)).filter (fun p => decide (Day.day p < L1)) := by
    rw [h, sortF_filt]; rfl
  have e2 := srt_split L1 (sortF_srt (pickF L2 l ch2 l.length))
  rw [e2, ← e1, follow_app]
  have e3 : runsTo c [] ((sortF (pickF L1 l ch1 l.length)).map Pkd.e) = none := by
    have := follow_ok c (sortF (pickF L1 l ch1 l.length)) []
    rw [decide_eq_false hf] at this
    cases hr : runsTo c [] ((sortF (pickF L1 l ch1 l.length)).map Pkd.e) with
    | none => rfl
    | some s => rw [hr] at this; cases this
  rw [e3]
  exact hf
theorem opt_some {L : Int} {r : Rep} {k : Int} {e : Evt} (h : optAt L r k = some e) : e ∈ r.options := by
  unfold optAt at h
  split at h
  · split at h
    · rename_i x hx
      split at h
      · cases h; exact List.mem_of_getElem? hx
      · cases h
    · cases h
  · cases h
theorem opt_less {L1 L2 : Int} (hL : L1 ≤ L2) (r : Rep) (k : Int) : optAt L1 r k = (optAt L2 r k).filter fun e => decide (e.day < L1) := by
  unfold optAt
  split
  · cases r.options[k.toNat]? with
    | none => rfl
    | some e =>
      simp only
      by_cases h : e.day < L1
      · rw [if_pos h, if_pos (by omega)]; simp [Option.filter, h]
      · rw [if_neg h]
        split
        · simp [Option.filter, h]
        · rfl
  · rfl
theorem false_is {c : List Kind} {l : List Rep} {ch : List Int} (hg : givenF c l ch 0 = true) : falseF c l ch = !isF c l ch := by
  have hl := (given_all hg).1
  have h0 : openDays l ch l.length = [] := by
    rw [List.eq_nil_iff_forall_not_mem]
    intro d hd
    obtain ⟨i, h1, h2, hc, _⟩ := (mem_open hl).1 hd
    have := given_at hg h1 h2
    omega
  rw [falseF, if_neg (by rw [given_less hg]; decide), isF, failsF, if_neg (by rw [hg]; decide), h0]
  rfl
end Go.Sx

/- The events that are picked, without the reports' places. -/
set_option linter.all false
namespace Go.Sx
open Go
/-- the events that are picked before a day -/
def pickE (day : Int) (l : List Rep) (ch : List Int) : List Evt := (l.zip ch).filterMap fun p => optAt day p.1 p.2
theorem pickE_take (day : Int) (l : List Rep) (ch : List Int) (hl : ch.length = l.length) (hv : ∀ r ∈ l, validRep r = true) : ∀ n, n ≤ l.length → (pickF day l ch n).map Pkd.e = ((l.zip ch).take n).filterMap fun p => optAt day p.1 p.2 := by
  intro n
  induction n with
  | zero => intro _; rfl
  | succ n ih =>
    intro hn
    have h1 : n < l.length := by omega
    have h2 : n < ch.length := by omega
    have h3 : n < (l.zip ch).length := by simp; omega
    rw [pick_succ, List.map_append, ih (by omega), ← take_succ_of h3, List.filterMap_append]
    congr 1
    have e : (l.zip ch)[n] = (l[n], ch[n]) := by simp
    rw [e, pkd, at2_eq h1 h2]
    cases hq : optAt day l[n] ch[n] with
    | none => simp [hq]
    | some x =>
      have hd := validE_day (validRep_e (hv _ (List.getElem_mem h1)) x (opt_some hq))
      simp [hq, hd]
theorem pickE_eq {day : Int} {l : List Rep} {ch : List Int} (hl : ch.length = l.length) (hv : ∀ r ∈ l, validRep r = true) : (pickF day l ch l.length).map Pkd.e = pickE day l ch := by
  rw [pickE_take day l ch hl hv l.length (Nat.le_refl _), pickE, List.take_of_length_le (by simp; omega)]
/-- whether it is possible depends on the events alone -/
theorem follow_ev {c : List Kind} {l : List Rep} {ch : List Int} {day : Int} (hl : ch.length = l.length) (hv : ∀ r ∈ l, validRep r = true) : decide ((followF c l ch day).2 = 0) = (runsTo c [] (sortF (pickE day l ch))).isSome := by
  rw [followF, follow_ok, sortF_map Pkd.e (fun _ => rfl), pickE_eq hl hv]
/-- without the element at an index -/
def cutAt {α : Type} (l : List α) (k : Nat) : List α := l.take k ++ l.drop (k + 1)
theorem cutAt_len {α : Type} {l : List α} {k : Nat} (h : k < l.length) : (cutAt l k).length + 1 = l.length := by
  simp only [cutAt, List.length_append, List.length_take, List.length_drop]; omega
theorem cut_whole {α : Type} {l : List α} {k : Nat} (h : k < l.length) : l = l.take k ++ l[k] :: l.drop (k + 1) := by
  rw [← List.drop_eq_getElem_cons h, List.take_append_drop]
theorem zip_cut {day : Int} {l : List Rep} {ch : List Int} {k : Nat} (hl : ch.length = l.length) (h1 : k < l.length) (h2 : k < ch.length) (h : optAt day l[k] ch[k] = none) : pickE day (cutAt l k) (cutAt ch k) = pickE day l ch := by
  have e1 : (l.take k).length = (ch.take k).length := by simp; omega
  conv => rhs; rw [cut_whole h1, cut_whole h2]
  unfold pickE cutAt
  rw [List.zip_append e1, List.zip_append e1, List.filterMap_append, List.filterMap_append, List.zip_cons_cons, List.filterMap_cons, h]
theorem allTo_zip {f : Rep → Int → Bool} {l : List Rep} {ch : List Int} (hl : ch.length = l.length) : allTo f l ch l.length = (l.zip ch).all fun p => f p.1 p.2 := by
  rw [Bool.eq_iff_iff, List.all_eq_true]
  constructor
  · intro h p hp
    obtain ⟨i, hi, rfl⟩ := List.getElem_of_mem hp
    have hi' : i < l.length := by simp at hi; omega
    have := allTo_at h hi' hi' (by omega)
    simpa using this
  · intro h
    refine allTo_of (fun i h1 h2 => ?_) hl
    have h3 : i < (l.zip ch).length := by simp; omega
    have := h _ (List.getElem_mem h3)
    simpa using this
theorem all_cut {f : Rep → Int → Bool} {l : List Rep} {ch : List Int} {k : Nat} (hl : ch.length = l.length) (h1 : k < l.length) (h2 : k < ch.length) (h : f l[k] ch[k] = true) : ((cutAt l k).zip (cutAt ch k)).all (fun p => f p.1 p.2) = (l.zip ch).all fun p => f p.1 p.2 := by
  have e1 : (l.take k).length = (ch.take k).length := by simp; omega
  conv => rhs; rw [cut_whole h1, cut_whole h2]
  unfold cutAt
  rw [List.zip_append e1, List.zip_append e1, List.all_append, List.all_append, List.zip_cons_cons, List.all_cons, h, Bool.true_and]
theorem given_cut {c : List Kind} {l : List Rep} {ch : List Int} {k : Nat} {n : Int} (hl : ch.length = l.length) (h1 : k < l.length) (h2 : k < ch.length) (h : chFine n l[k] ch[k] = true) : givenF c (cutAt l k) (cutAt ch k) n = givenF c l ch n := by
  have e1 := cutAt_len h1
  have e2 := cutAt_len h2
  have e3 : (cutAt ch k).length = (cutAt l k).length := by omega
  simp only [givenF]
  rw [allTo_zip e3, allTo_zip hl, all_cut hl h1 h2 h]
  simp [hl, e3]
theorem is_ev {c : List Kind} {l : List Rep} {ch : List Int} (hg : givenF c l ch 0 = true) : isF c l ch = (runsTo c [] (sortF (pickE 40001 l ch))).isSome := by
  obtain ⟨hl, hv⟩ := given_all hg
  rw [isF, failsF, if_neg (by rw [hg]; decide), follow_ev hl hv]
theorem is_no {c : List Kind} {l : List Rep} {ch : List Int} (hg : givenF c l ch 0 = false) : isF c l ch = false := by
  rw [isF, failsF, if_pos hg]; rfl
theorem is_cut {c : List Kind} {l : List Rep} {ch : List Int} {k : Nat} (hl : ch.length = l.length) (h1 : k < l.length) (h2 : k < ch.length) (hf : chFine 0 l[k] ch[k] = true) (hn : ∀ day, optAt day l[k] ch[k] = none) : isF c (cutAt l k) (cutAt ch k) = isF c l ch := by
  have e := given_cut (c := c) hl h1 h2 hf
  cases hg : givenF c l ch 0 with
  | false => rw [is_no hg, is_no (by rw [e, hg])]
  | true => rw [is_ev hg, is_ev (by rw [e, hg]), zip_cut hl h1 h2 (hn _)]
/-! the law -/
theorem none_opt (r : Rep) (day : Int) : optAt day r ((r.options.length : Nat) : Int) = none := by
  unfold optAt
  rw [if_pos (by omega), Int.toNat_natCast, List.getElem?_eq_none (Nat.le_refl _)]
theorem none_fine {r : Rep} (hv : validRep r = true) (hd : r.doubtful = true) {n : Int} (hn : n ≤ 0) : chFine n r ((r.options.length : Nat) : Int) = true := by
  simp only [chFine, chs, hv, hd, Bool.true_eq_false, if_true, if_false, Bool.not_eq_true', Bool.or_eq_false_iff, decide_eq_false_iff_not]
  omega
end Go.Sx

/- Searching: all choices, in order; what is false has no history. -/
set_option linter.all false
namespace Go.Sx
open Go
/-- the choices of a list of reports, in order -/
def allCh : List Rep → List (List Int)
  | [] => [[]]
  | r :: l => (List.range (chs r).toNat).flatMap fun (k : Nat) => (allCh l).map fun t => (k : Int) :: t
/-- the histories -/
def histF (c : List Kind) (l : List Rep) : List (List Int) := (allCh l).filter (isF c l)
theorem all_mem : ∀ {l : List Rep} {t : List Int}, t ∈ allCh l ↔ t.length = l.length ∧ ∀ i (h1 : i < l.length) (h2 : i < t.length), 0 ≤ t[i] ∧ t[i] < chs l[i]
  | [], t => by
    simp only [allCh, List.mem_singleton, List.length_nil]
    constructor
    · rintro rfl; exact ⟨rfl, fun i h => absurd h (Nat.not_lt_zero i)⟩
    · rintro ⟨h, _⟩; exact List.eq_nil_of_length_eq_zero h
  | r :: l, t => by
    simp only [allCh, List.mem_flatMap, List.mem_range, List.mem_map]
    constructor
    · rintro ⟨k, hk, s, hs, rfl⟩
      obtain ⟨h1, h2⟩ := all_mem.1 hs
      refine ⟨by simp [h1], fun i h3 h4 => ?_⟩
      cases i with
      | zero => simp only [List.getElem_cons_zero]; omega
      | succ i => simpa using h2 i (by simpa using h3) (by simpa using h4)
    · rintro ⟨h1, h2⟩
      cases t with
      | nil => simp at h1
      | cons x s =>
        have h0 := h2 0 (by simp) (by simp)
        simp only [List.getElem_cons_zero] at h0
        refine ⟨x.toNat, by omega, s, all_mem.2 ⟨by simpa using h1, fun i h3 h4 => ?_⟩, by rw [Int.toNat_of_nonneg h0.1]⟩
        exact h2 (i + 1) (by simpa using h3) (by simpa using h4)
/-- choices that open ones stand for are no more open -/
theorem false_more {c : List Kind} {l : List Rep} {ch1 ch2 : List Int} (g1 : givenF c l ch1 (-1) = true) (g2 : givenF c l ch2 (-1) = true) (hs : ∀ i (h1 : i < ch1.length) (h2 : i < ch2.length), ch1[i] = ch2[i] ∨ ch1[i] < 0) (h : falseF c l ch1 = true) : falseF c l ch2 = true := by
  have la := (given_all g1).1
  have lb := (given_all g2).1
  unfold falseF at h ⊢
  rw [if_neg (by rw [g1]; decide)] at h
  rw [if_neg (by rw [g2]; decide)]
  simp only [Bool.not_eq_true', decide_eq_false_iff_not] at h ⊢
  have hL : leastF (openDays l ch1 l.length) ≤ leastF (openDays l ch2 l.length) := by
    refine least_ge _ _ _ (least_le _ _).1 fun d hd => ?_
    refine (least_le _ _).2 d ?_
    rw [mem_open lb] at hd
    obtain ⟨i, h1, h2, hc, e, he, rfl⟩ := hd
    refine (mem_open la).2 ⟨i, h1, by omega, ?_, e, he, rfl⟩
    rcases hs i (by omega) h2 with h3 | h3
    · rw [h3]; exact hc
    · exact h3
  refine follow_less (pick_filt la lb (fun i h1 h2 h3 => ?_) _ (Nat.le_refl _)) h
  rcases hs i h2 h3 with h4 | h4
  · rw [h4]; exact opt_less hL _ _
  · have e1 : optAt (leastF (openDays l ch1 l.length)) l[i] ch1[i] = none := by unfold optAt; rw [if_neg (by omega)]
    rw [e1]
    cases hq : optAt (leastF (openDays l ch2 l.length)) l[i] ch2[i] with
    | none => rfl
    | some e =>
      have h5 : leastF (openDays l ch1 l.length) ≤ e.day := (least_le _ _).2 _ ((mem_open la).2 ⟨i, h1, h2, h4, e, opt_some hq, rfl⟩)
      have h6 : ¬ e.day < leastF (openDays l ch1 l.length) := by omega
      simp [Option.filter, h6]
/-- what is not decided yet -/
def openT (rs : List Rep) : List Int := rs.map fun r => if 1 < chs r then -1 else 0
/-- the histories that begin with some choices -/
def resF (c : List Kind) (l : List Rep) (pre : List Int) (rs : List Rep) : List (List Int) := ((allCh rs).map (pre ++ ·)).filter (isF c l)
theorem res_nil (c : List Kind) (l : List Rep) (pre : List Int) : resF c l pre [] = if isF c l pre = true then [pre] else [] := by
  simp only [resF, allCh, List.map_cons, List.map_nil, List.append_nil, List.filter_cons, List.filter_nil]
theorem res_cons (c : List Kind) (l : List Rep) (pre : List Int) (r : Rep) (rs : List Rep) : resF c l pre (r :: rs) = (List.range (chs r).toNat).flatMap fun (k : Nat) => resF c l (pre ++ [(k : Int)]) rs := by
  simp only [resF, allCh, List.map_flatMap, List.filter_flatMap, List.map_map]
  congr 1
  funext k
  congr 2
  funext t
  simp
theorem res_one {c : List Kind} {l : List Rep} {pre : List Int} {r : Rep} {rs : List Rep} (h : chs r = 1) : resF c l pre (r :: rs) = resF c l (pre ++ [0]) rs := by
  rw [res_cons, h]; simp
theorem hist_res (c : List Kind) (l : List Rep) : histF c l = resF c l [] l := by
  simp [histF, resF]
/-- choices that are decided, and open ones behind them -/
structure Mid (c : List Kind) (l : List Rep) (pre : List Int) (rs : List Rep) : Prop where
  cat : validC c = true
  pos : ∀ r ∈ l, chs r ≠ 0
  is : ∃ a, l = a ++ rs ∧ pre.length = a.length ∧ ∀ i (h1 : i < a.length) (h2 : i < pre.length), 0 ≤ pre[i] ∧ pre[i] < chs a[i]
theorem chs_nn (r : Rep) : 0 ≤ chs r := by
  unfold chs; split
  · omega
  · split <;> omega
theorem mid_start {c : List Kind} {l : List Rep} (hc : validC c = true) (hp : ∀ r ∈ l, chs r ≠ 0) : Mid c l [] l := ⟨hc, hp, [], rfl, rfl, fun i h => absurd h (Nat.not_lt_zero i)⟩
theorem Mid.next {c : List Kind} {l : List Rep} {pre : List Int} {r : Rep} {rs : List Rep} (h : Mid c l pre (r :: rs)) {k : Int} (h0 : 0 ≤ k) (hk : k < chs r) : Mid c l (pre ++ [k]) rs := by
  obtain ⟨a, e1, e2, e3⟩ := h.is
  refine ⟨h.cat, h.pos, a ++ [r], by rw [e1]; simp, by simp [e2], fun i h1 h2 => ?_⟩
  by_cases hi : i < a.length
  · rw [List.getElem_append_left hi, List.getElem_append_left (by omega)]
    exact e3 i hi (by omega)
  · have : i = a.length := by simp at h1; omega
    subst this
    simp [← e2, h0, hk]
theorem Mid.len {c : List Kind} {l : List Rep} {pre : List Int} {rs : List Rep} (h : Mid c l pre rs) : pre.length + rs.length = l.length := by
  obtain ⟨a, e1, e2, _⟩ := h.is
  rw [e1, List.length_append, e2]
theorem Mid.given {c : List Kind} {l : List Rep} {pre : List Int} {rs : List Rep} (h : Mid c l pre rs) {t : List Int} (ht : t.length = rs.length) {n : Int} (hn : n ≤ 0) (hb : ∀ i (h1 : i < rs.length) (h2 : i < t.length), n ≤ t[i] ∧ t[i] < chs rs[i]) : givenF c l (pre ++ t) n = true := by
  obtain ⟨a, e1, e2, e3⟩ := h.is
  refine given_mk h.cat (by rw [List.length_append, ht]; exact h.len) fun i h1 h2 => ?_
  refine ⟨h.pos _ (List.getElem_mem h1), ?_⟩
  subst e1
  by_cases hi : i < a.length
  · rw [List.getElem_append_left hi, List.getElem_append_left (by omega)]
    have := e3 i hi (by omega)
    omega
  · rw [List.length_append] at h1
    rw [List.getElem_append_right (by omega), List.getElem_append_right (by omega)]
    have := hb (i - a.length) (by omega) (by omega)
    simpa [e2] using this
theorem Mid.given_open {c : List Kind} {l : List Rep} {pre : List Int} {rs : List Rep} (h : Mid c l pre rs) : givenF c l (pre ++ openT rs) (-1) = true := by
  refine h.given (by simp [openT]) (by omega) fun i h1 h2 => ?_
  have hp := h.pos rs[i] (by obtain ⟨a, e1, _⟩ := h.is; rw [e1]; exact List.mem_append_right _ (List.getElem_mem h1))
  have := chs_nn rs[i]
  simp only [openT, List.getElem_map]
  split <;> omega
theorem res_prune {c : List Kind} {l : List Rep} {pre : List Int} {rs : List Rep} (h : Mid c l pre rs) (hf : falseF c l (pre ++ openT rs) = true) : resF c l pre rs = [] := by
  rw [resF, List.filter_eq_nil_iff]
  intro x hx
  obtain ⟨t, ht, rfl⟩ := List.mem_map.1 hx
  obtain ⟨h1, h2⟩ := all_mem.1 ht
  have g0 : givenF c l (pre ++ t) 0 = true := h.given h1 (Int.le_refl _) h2
  have g1 := given_less g0
  have hl := (given_all h.given_open).1
  have := false_more h.given_open g1 (fun i h3 h4 => by
    by_cases hi : i < pre.length
    · left; rw [List.getElem_append_left hi, List.getElem_append_left hi]
    · rw [List.getElem_append_right (by omega), List.getElem_append_right (by omega)]
      have h5 : i - pre.length < rs.length := by simp [openT] at h3; omega
      have := h2 (i - pre.length) h5 (by omega)
      simp only [openT, List.getElem_map]
      split
      · right; omega
      · left; omega) hf
  rw [false_is g0] at this
  simpa using this
end Go.Sx

/- Searching: what the functions answer, and the plain laws of them. -/
set_option linter.all false
namespace Go.Sx
open Go
def dbtF (l : List Rep) : Nat := (l.filter fun r => decide (1 < chs r)).length
/-- the error of a catalog and reports -/
def errF (c : List Kind) (l : List Rep) : Int := if validC c = false then 1 else if l.any (fun r => decide (chs r = 0)) = true then 1 else if (30 : Int) < (dbtF l : Nat) then 7 else 0
def allF (c : List Kind) (l : List Rep) (most : Int) : List (List Int) × Int :=
  if (decide (most < 1) || decide (4096 < most)) = true then ([], 1) else if errF c l ≠ 0 then ([], errF c l) else if (histF c l).take most.toNat = [] then ([], 21) else ((histF c l).take most.toNat, 0)
def firstF (c : List Kind) (l : List Rep) : List Int × Int := if (allF c l 1).2 ≠ 0 then ([], (allF c l 1).2) else ((allF c l 1).1.headD [], 0)
theorem err_zero {c : List Kind} {l : List Rep} (h : errF c l = 0) : validC c = true ∧ ∀ r ∈ l, chs r ≠ 0 := by
  unfold errF at h
  split at h
  · cases h
  · rename_i hc
    split at h
    · cases h
    · rename_i ha
      exact ⟨by simpa using hc, fun r hr h0 => ha (List.any_eq_true.2 ⟨r, hr, by simp [h0]⟩)⟩
theorem all_given {c : List Kind} {l : List Rep} (hc : validC c = true) (hp : ∀ r ∈ l, chs r ≠ 0) (t : List Int) : givenF c l t 0 = true ↔ t ∈ allCh l := by
  rw [all_mem]
  constructor
  · intro h
    exact ⟨(given_all h).1, fun i h1 h2 => by have := given_at h h1 h2; omega⟩
  · rintro ⟨h1, h2⟩
    exact given_mk hc h1 fun i h3 h4 => ⟨hp _ (List.getElem_mem h3), h2 i h3 h4⟩
theorem is_given {c : List Kind} {l : List Rep} {t : List Int} (h : isF c l t = true) : givenF c l t 0 = true := by
  cases hg : givenF c l t 0 with
  | true => rfl
  | false => rw [is_no hg] at h; cases h
theorem hist_mem {c : List Kind} {l : List Rep} (t : List Int) : t ∈ histF c l ↔ isF c l t = true := by
  rw [histF, List.mem_filter]
  constructor
  · exact fun h => h.2
  · intro h
    have hg := is_given h
    refine ⟨?_, h⟩
    exact (all_given (given_cat hg) (fun r hr h0 => by
      obtain ⟨i, hi, rfl⟩ := List.getElem_of_mem hr
      exact (given_at hg hi (by have := (given_all hg).1; omega)).1 h0) t).1 hg
/-! the order -/
/-! how many -/
def waysN : List Rep → Nat
  | [] => 1
  | r :: l => (chs r).toNat * waysN l
theorem all_len : ∀ l : List Rep, (allCh l).length = waysN l
  | [] => rfl
  | r :: l => by
    rw [allCh, List.length_flatMap, waysN]
    simp only [List.length_map, all_len l]
    rw [List.map_const', List.sum_replicate_nat, List.length_range]
theorem hist_len (c : List Kind) (l : List Rep) : (histF c l).length ≤ waysN l := by
  rw [← all_len]; exact List.length_filter_le _ _
theorem take_all {α : Type} {l : List α} {n : Nat} (h : l.length ≤ n) : l.take n = l := List.take_of_length_le h
/-- the answer of All where it is none of the limits -/
theorem all_is {c : List Kind} {l : List Rep} {most : Int} (h1 : 1 ≤ most) (h2 : most ≤ 4096) (he : errF c l = 0) : allF c l most = if (histF c l).take most.toNat = [] then ([], 21) else ((histF c l).take most.toNat, 0) := by
  unfold allF
  rw [if_neg (by simp; omega), if_neg (by simp [he])]
theorem all_err {c : List Kind} {l : List Rep} {most : Int} (h1 : 1 ≤ most) (h2 : most ≤ 4096) (he : errF c l ≠ 0) : allF c l most = ([], errF c l) := by
  unfold allF
  rw [if_neg (by simp; omega), if_pos he]
theorem all_code {c : List Kind} {l : List Rep} {most : Int} (h1 : 1 ≤ most) (h2 : most ≤ 4096) : (allF c l most).2 = if errF c l ≠ 0 then errF c l else if histF c l = [] then 21 else 0 := by
  by_cases he : errF c l = 0
  · rw [all_is h1 h2 he, if_neg (show ¬ (errF c l ≠ 0) by simp [he])]
    have : (histF c l).take most.toNat = [] ↔ histF c l = [] := by
      rw [List.take_eq_nil_iff]
      constructor
      · rintro (h | h)
        · omega
        · exact h
      · exact .inr
    by_cases hh : histF c l = []
    · rw [if_pos (this.2 hh), if_pos hh]
    · rw [if_neg (fun h => hh (this.1 h)), if_neg hh]
  · rw [all_err h1 h2 he, if_pos he]
theorem all_list {c : List Kind} {l : List Rep} {most : Int} (h1 : 1 ≤ most) (h2 : most ≤ 4096) (he : errF c l = 0) : (allF c l most).1 = (histF c l).take most.toNat := by
  rw [all_is h1 h2 he]
  split
  · rename_i h; exact h.symm
  · rfl
end Go.Sx

/- Deferred calls of closures. -/
set_option linter.all false
namespace Go.Sx
open Go
/-- behind a region whose last operation defers a call -/
def DefN (P : Program) (o : Oper) (Q : Exit → Act → World → Prop) : Exit → Act → World → Prop
  | .normal, a, w => ∃ d, (execOp a.eval o).run P w = .ok (.defer d) w ∧ Q .normal { a with defers := d :: a.defers } w
  | e, a, w => Q e a w
theorem wpL_inD {P : Program} {ops : Array Oper} {Q : Exit → Act → World → Prop} {o : Oper} (hn : o.dst = none) (hg : o.guard = none) : ∀ (l : List Oper) (a : Act) (w : World), wpL P ops (DefN P o Q) l a w → wpListIn (fen none) 0 P ops Q (l ++ [o]) a w
  | [], a, w, h => by
    obtain ⟨d, h1, h2⟩ : ∃ d, (execOp a.eval o).run P w = .ok (.defer d) w ∧ Q .normal { a with defers := d :: a.defers } w := h
    show wpListIn (fen none) 0 P ops Q [o] a w
    unfold wpListIn
    rw [if_pos (by simp [Region.wanted, hg])]
    refine ⟨fun _ _ => trivial, ?_⟩
    have e : Oper.semAt (fen none).round a.eval o = execOp a.eval o := rfl
    rw [e, h1]
    show wpListIn (fen none) 0 P ops Q [] (Act.put { a with defers := d :: a.defers } o.dst undef) w
    rw [hn]
    exact h2
  | o' :: rest, a, w, h => by
    have h : one P ops (DefN P o Q) o' (wpL P ops (DefN P o Q) rest) a w := h
    have h : one P ops Q o' (wpListIn (fen none) 0 P ops Q (rest ++ [o])) a w := one_mono (fun a w h => wpL_inD hn hg rest a w h) h
    unfold one at h
    show wpListIn (fen none) 0 P ops Q (o' :: (rest ++ [o])) a w
    unfold wpListIn
    split
    · rename_i hw; rw [if_pos hw] at h; exact wq_wpIn h
    · rename_i hw; rw [if_neg hw] at h; exact ⟨fun _ _ => trivial, h⟩
/-- the contract of a closure that is called on the way out -/
structure FnDf (P : Program) (f : FuncId) (args : Array Value) (I : IMap) (H : List Res) (post : IMap → List Res → Prop) : Prop where
  go : ∀ w, Mem ⟨foots H, I, w⟩ I H w → CallsDIn Fence.wide 0 P f args .returning w fun e u w' => u = .returning ∧ ∃ v I' H', e = .returned v ∧ Mem ⟨foots H, I, w⟩ I' H' w' ∧ post I' H'
section
variable {P : Program} {ρ : Option Nat} {n : Sz} {E : Ent} {I : IMap} {L : LL} {H : List Res} {Q : Exit → Act → World → Prop} {ops : Array Oper}
variable {ty : Nat} {pos : String} {af : Array Edge} {fo : Operand} {as_ : List Operand} {ats : Array TypeId} {f : FuncId}
theorem c_region2D {id : Nat} {o1 o2 : Oper} (hn : o2.dst = none) (hg : o2.guard = none) (h : SX n E I L H (wpL P [o1, o2].toArray (DefN P o2 Q) [o1])) : SX n E I L H ((Code.region id [o1, o2].toArray false).wq none P Q) :=
  fun a w s m => wpIn_region_lit (wpL_inD (l := [o1]) hn hg _ _ (h a w s m))
theorem q_defn {fs cs : Array Value} {vs : List Value} (hf : ev L fo = some (.func (.func f) fs cs)) (ha : evs L as_ = some vs)
    (h : SX ⟨n.sz, .f { target := .fn (.func f) cs, args := fs ++ vs.toArray } :: n.D⟩ E I L H (Q .normal)) : SX n E I L H (DefN P ⟨none, .defer { callee := .value fo, args := as_.toArray, argTypes := ats }, ty, pos, af, none⟩ Q .normal) := fun a w s m => by
  refine ⟨_, ?_, h { a with defers := _ } w ⟨s.size, by show _ :: a.defers = _; rw [s.defers]; rfl, s.get⟩ m⟩
  have e := evs_spec s as_ vs ha
  simp only [execOp, resolve, s.ev hf]
  simp [Deferred.ofValue, e, go_sem]
  rfl
theorem q_fdefer {k : Nat} {D : List Mk} {fn : Func} {R : Ending → World → Prop} {Hc H0 : List Res} {args cap : Array Value} {post : IMap → List Res → Prop} (hcall : ∀ (args : Array Value) (w : World), (callFunc f args).run P w = .ok (.enter f args) w)
    (hc : FnDf P f (args ++ cap) I Hc post) (kk : ∀ I' H', ILe I I' → post I' H' → SX ⟨k, D⟩ E I' L (H' ++ H0) (FinQ P fn R .ret)) :
    SX ⟨k, .f { target := .fn (.func f) cap, args := args } :: D⟩ E I L (Hc ++ H0) (FinQ P fn R .ret) := fun a w s m => by
  show LeavesInM Fence.wide 0 P fn a.tmps R a.defers .returning w
  rw [s.defers]
  refine ⟨by simp, .inr ⟨fun h => by simp [Fence.wide] at h, .func f, cap, f, args ++ cap, rfl, ?_, fun _ _ => trivial, CallsDIn.mono (hc.go w m.call) ?_⟩⟩
  · simp [invoke, go_sem, hcall, Mk.of]
  · rintro e u w' ⟨rfl, v, I', H', rfl, hm, hp⟩
    have := kk I' H' hm.mono hp { a with defers := (Sz.mk k D).marks } w' ⟨s.size, rfl, s.get⟩ (m.back hm)
    exact this
/-- its body -/
def FinD (P : Program) (fn : Func) (R : Ending → World → Prop) : Exit → Act → World → Prop := bodyPost P fn R
theorem enterD {fn : Func} {c : Code} {args : List Value} {k : Nat} {post : IMap → List Res → Prop} (hf : P.funcs[f]? = some fn) (hb : fn.body = some c) (hn : fn.ntmps = k)
    (hl : Nat.ble args.length k = true) (h : ∀ w, SX ⟨k, []⟩ ⟨foots H, I, w⟩ I (argsL args 0) H (c.wq none P (FinD P fn (Post ⟨foots H, I, w⟩ fun _ I' H' => post I' H')))) : FnDf P f args.toArray I H post := by
  refine ⟨fun w m => ?_⟩
  refine CallsDIn.mono (callsDIn_of_wp (F := Fence.wide) hf hb trivial (h w _ _ ⟨?_, rfl, ?_⟩ m)) ?_
  · simp only [List.size_toArray, Array.size_append, Array.size_replicate, hn]
    have : args.length ≤ k := by simpa using hl
    omega
  · intro i v hv
    obtain ⟨_, h2⟩ := look_argsL args 0 i v hv
    have hlt : i < args.length := by
      rcases Nat.lt_or_ge i args.length with h | h
      · exact h
      · simp [List.getElem?_eq_none h] at h2
    rw [Array.getElem?_append_left (by simpa using hlt)]
    simpa using h2
  · rintro e u w' ⟨rfl, v, I', H', rfl, hm, hp⟩
    exact ⟨rfl, v, I', H', rfl, hm, hp⟩
theorem endD0 {k : Nat} {fn : Func} {R : Ending → World → Prop} (hf : fn.results = #[]) (h : SX ⟨k, []⟩ E I L H fun _ w => R (.returned (.tuple #[])) w) : SX ⟨k, []⟩ E I L H (FinD P fn R .normal) := fun a w s m =>
  ⟨by rw [s.defers]; rfl, _, run0 hf a w, h a w s m⟩
end
end Go.Sx

/- A block that is lent to a callee that makes memory of its own; calls with a tail of resources. -/
set_option linter.all false
namespace Go.Sx
open Go
section
variable {P : Program} {ρ : Option Nat} {n : Sz} {E : Ent} {I : IMap} {L : LL} {H : List Res} {Q : Exit → Act → World → Prop} {ops : Array Oper} {K : Act → World → Prop}
variable {d ty : Nat} {pos : String} {af : Array Edge} {fo : Operand} {as_ : List Operand} {ats : Array TypeId} {f : FuncId} {args : List Value} {g t : Nat} {cs : List Value} {w : World}
theorem lend_ile (mm : Mem E I H w) (hm : Res.blk g t cs ∈ H) : ILe I (I.pub g (.cells cs.toArray t (0, 0))) := IMap.pub_le _ (mm.priv _ hm g rfl).1
theorem lend_cells : ICells (I.pub g (.cells cs.toArray t (0, 0))) g 0 cs := fun j u hu => ⟨_, t, (0, 0), IMap.pub_same _ _ _, by rw [Nat.zero_add]; simpa using hu⟩
theorem lend_mem (mm : Mem E I H w) (hm : Res.blk g t cs ∈ H) : Mem ⟨[], I.pub g (.cells cs.toArray t (0, 0)), w⟩ (I.pub g (.cells cs.toArray t (0, 0))) [] w :=
  ⟨Upd.refl _ _, fun b o hb => by
    have hg : w.heap[g]? = some (.cells cs.toArray t (0, 0)) := mm.holds _ hm
    unfold IMap.pub at hb
    split at hb
    · rename_i e; subst e; cases hb; exact hg
    · exact mm.con b o hb, ILe.refl _, fun b hb => .inl hb, fun _ h => (by cases h), fun _ h => (by cases h), List.nodup_nil⟩
/-- the callee reads the block, and makes memory that nobody keeps -/
theorem o_lendI {v : Value} (hm : Res.blk g t cs ∈ H) (hc : ∀ I2, ILe I I2 → ICells I2 g 0 cs → FnI P f args.toArray I2 fun u _ => u = v) (h : callArgs L fo as_ = some (f, args)) (hd : Nat.blt d n.sz = true)
    (kk : SX n E I ((d, v) :: L) H K) : SX n E I L H (one P ops Q ⟨some d, .call { callee := .value fo, args := as_.toArray, argTypes := ats }, ty, pos, af, none⟩ K) := by
  intro a w s mm
  have h1 := (hc _ (lend_ile mm hm) lend_cells).go w (lend_mem mm hm)
  unfold one
  rw [if_pos (by rfl)]
  refine wq_after ?_
  unfold After at h1 ⊢
  rw [run_call s h ⟨some d, .call { callee := .value fo, args := as_.toArray, argTypes := ats }, ty, pos, af, none⟩ rfl (ats := ats)]
  have key : ∀ e w'', Post ⟨[], (I.pub g (.cells cs.toArray t (0, 0))), w⟩ (fun u I' H' => u = v ∧ H' = []) e w'' → (match e with | .returned v => K (a.put (some d) v) w'' | _ => False) := by
    rintro e w'' ⟨u, I', H', rfl, hm', rfl, rfl⟩
    exact kk _ _ (s.put hd) (mm.other hm'.upd.os hm'.upd.tape hm'.upd.output hm'.upd.size (fun k hk => hm'.upd.block k hk (by simp)))
  split at h1
  · rename_i v w' hr; exact key _ _ h1
  · rename_i f' args' w' hr; exact Calls.mono h1 key
  · rename_i l f' tmps assign body w' hr; exact RoundIn.mono h1 key
  · exact h1.elim
/-- the callee reads the block, and gives something new -/
theorem o_lendX {p : Value → Res → Prop} (hm : Res.blk g t cs ∈ H) (hc : ∀ I2, ILe I I2 → ICells I2 g 0 cs → FnX P f args.toArray I2 [] p) (h : callArgs L fo as_ = some (f, args)) (hd : Nat.blt d n.sz = true)
    (kk : ∀ u r, p u r → SX n E I ((d, u) :: L) (r :: H) K) : SX n E I L H (one P ops Q ⟨some d, .call { callee := .value fo, args := as_.toArray, argTypes := ats }, ty, pos, af, none⟩ K) := by
  intro a w s mm
  have h1 := (hc _ (lend_ile mm hm) lend_cells).go w (lend_mem mm hm)
  unfold one
  rw [if_pos (by rfl)]
  refine wq_after ?_
  unfold After at h1 ⊢
  rw [run_call s h ⟨some d, .call { callee := .value fo, args := as_.toArray, argTypes := ats }, ty, pos, af, none⟩ rfl (ats := ats)]
  have key : ∀ e w'', Post ⟨[], (I.pub g (.cells cs.toArray t (0, 0))), w⟩ (fun u I' H' => I' = (I.pub g (.cells cs.toArray t (0, 0))) ∧ ∃ r, H' = [r] ∧ p u r) e w'' → (match e with | .returned v => K (a.put (some d) v) w'' | _ => False) := by
    rintro e w'' ⟨u, I', H', rfl, hm', rfl, r, rfl, hp⟩
    refine kk u r hp _ _ (s.put hd) (mm.new hm'.upd.os hm'.upd.tape hm'.upd.output hm'.upd.size (fun k hk => hm'.upd.block k hk (by simp)) (hm'.holds r (List.mem_cons_self ..)) fun b hb => ?_)
    rcases (hm'.priv r (List.mem_cons_self ..) b hb).2 with h | h
    · exact h
    · cases h
  split at h1
  · rename_i v w' hr; exact key _ _ h1
  · rename_i f' args' w' hr; exact Calls.mono h1 key
  · rename_i l f' tmps assign body w' hr; exact RoundIn.mono h1 key
  · exact h1.elim
/-- the callee takes all resources but the first one -/
theorem o_callT {r0 : Res} {Hc : List Res} {post : Value → IMap → List Res → Prop} (hc : FnH P f args.toArray I Hc post) (h : callArgs L fo as_ = some (f, args)) (hd : Nat.blt d n.sz = true)
    (k : ∀ u I' H', ILe I I' → post u I' H' → SX n E I' ((d, u) :: L) (r0 :: H') K) :
    SX n E I L (r0 :: Hc) (one P ops Q ⟨some d, .call { callee := .value fo, args := as_.toArray, argTypes := ats }, ty, pos, af, none⟩ K) := by
  refine sx_perm (H' := Hc ++ [r0]) (by simpa using List.perm_append_comm (l₁ := [r0]) (l₂ := Hc)) ?_
  refine o_callH (Hc := Hc) (H0 := [r0]) hc h hd fun u I' H' hI hp => ?_
  exact sx_perm (H' := r0 :: H') (by simpa using List.perm_append_comm (l₁ := H') (l₂ := [r0])) (k u I' H' hI hp)
/-- all resources -/
theorem o_callA {Hc : List Res} {post : Value → IMap → List Res → Prop} (hc : FnH P f args.toArray I Hc post) (h : callArgs L fo as_ = some (f, args)) (hd : Nat.blt d n.sz = true)
    (k : ∀ u I' H', ILe I I' → post u I' H' → SX n E I' ((d, u) :: L) H' K) :
    SX n E I L Hc (one P ops Q ⟨some d, .call { callee := .value fo, args := as_.toArray, argTypes := ats }, ty, pos, af, none⟩ K) := by
  refine sx_perm (H' := Hc ++ []) (by simp) ?_
  refine o_callH (Hc := Hc) (H0 := []) hc h hd fun u I' H' hI hp => ?_
  exact sx_perm (H' := H') (by simp) (k u I' H' hI hp)
end
section
variable {P : Program} {n : Sz} {E : Ent} {I : IMap} {L : LL} {H : List Res} {K : Act → World → Prop}
theorem d_startT2 {ρ : Option Nat} {Q : Exit → Act → World → Prop} {l : List Oper} {r1 r2 : Res} {id : Nat} (hm : P.follows .mixedOrders = true)
    (h : SX n E I L (r1 :: r2 :: H) (wpAnyC P l.toArray (NQ Q) (Keeps E I [r1, r2]) l.length (Array.replicate l.length false))) : SX n E I L (r1 :: r2 :: H) ((Code.region id l.toArray true).wq ρ P Q) := d_start [r1, r2] hm h
theorem sx_blkeq {g t : Nat} {cs : List Value} (cs2 : List Value) (e : cs = cs2) (h : SX n E I L (.blk g t cs2 :: H) K) : SX n E I L (.blk g t cs :: H) K := e ▸ h
theorem sx_app2' {a b : Res} (h : SX n E I L (a :: b :: H) K) : SX n E I L ([a, b] ++ H) K := h
end
/-- numbers in a block of their own -/
def intCs (ch : List Int) : List Value := ch.map ci
theorem intCs_len (ch : List Int) : (intCs ch).length = ch.length := by simp [intCs]
theorem intCs_at {ch : List Int} {i : Nat} (h : i < ch.length) : (intCs ch)[i]? = some (ci ch[i]) := by simp [intCs, h]
theorem intCs_set (ch : List Int) (i : Nat) (x : Int) : (intCs ch).set i (ci x) = intCs (ch.set i x) := by simp [intCs, List.map_set]
theorem intCs_rd {I : IMap} {g : Nat} {ch : List Int} (h : ICells I g 0 (intCs ch)) (hl : ch.length ≤ 9223372036854775807) : RdS I (.slice (some ⟨g, 0, none⟩) ch.length ch.length) ch := by
  refine ⟨some ⟨g, 0, none⟩, ch.length, rfl, fun hp => ⟨g, 0, rfl, fun i x hi => ⟨[ci x], fun j u hu => ?_, rfl⟩⟩, Nat.le_refl _, hl⟩
  have h1 : (intCs ch)[i]? = some (ci x) := by simp [intCs, hi]
  cases j with
  | zero =>
    have e : u = ci x := by simpa using hu.symm
    subst e
    have := h i _ h1
    have e2 : 0 + i * Enc.k Int + 0 = 0 + i := by show 0 + i * 1 + 0 = 0 + i; omega
    rw [e2]; exact this
  | succ j => simp at hu
theorem intCs_rep (n : Nat) : (List.replicate n [ci 0]).flatten = intCs (List.replicate n 0) := by
  induction n with
  | zero => rfl
  | succ n ih => rw [List.replicate_succ, List.flatten_cons, ih]; rfl
theorem intCs_flat {I : IMap} (ch : List Int) : Flat I (intCs ch) ch := by
  induction ch with
  | nil => exact .nil
  | cons x r ih => exact .cons rfl ih
theorem flat_ints {I : IMap} {xs : List Value} {l : List Int} (h : Flat I xs l) : xs = intCs l := by
  induction h with
  | nil => rfl
  | cons h1 _ ih => rw [ih]; rw [show _ = _ from h1]; rfl
end Go.Sx

/- Steps of the search. -/
set_option linter.all false
namespace Go.Sx
open Go
theorem intCs_rdn {I : IMap} {g n : Nat} {ch : List Int} (h : ICells I g 0 (intCs ch)) (e : ch.length = n) (hl : n ≤ 1000000) : RdS I (.slice (some ⟨g, 0, none⟩) n n) ch := by
  subst e; exact intCs_rd h (by omega)
section
variable {c : List Kind} {l : List Rep} {pre : List Int} {r : Rep} {rs : List Rep}
theorem Mid.get (h : Mid c l pre (r :: rs)) : ∃ hp : pre.length < l.length, l[pre.length] = r := by
  obtain ⟨a, e1, e2, _⟩ := h.is
  refine ⟨by rw [e1, e2]; simp, ?_⟩
  subst e1
  simp [e2]
theorem Mid.more (h : Mid c l pre rs) (hp : pre.length < l.length) : ∃ r rs', rs = r :: rs' := by
  cases rs with
  | nil => have := h.len; simp at this; omega
  | cons r rs' => exact ⟨r, rs', rfl⟩
theorem Mid.full (h : Mid c l pre rs) (hp : ¬ pre.length < l.length) : rs = [] := by
  have := h.len
  exact List.eq_nil_of_length_eq_zero (by omega)
theorem Mid.pos1 (h : Mid c l pre (r :: rs)) : chs r ≠ 0 := h.pos r (by obtain ⟨a, e1, _⟩ := h.is; rw [e1]; simp)
theorem open_at1 {ch : List Int} (he : pre ++ openT (r :: rs) = ch) (hp : pre.length < ch.length) : ch[pre.length] = if 1 < chs r then -1 else 0 := by
  subst he; simp [openT]
theorem open_len : (openT rs).length = rs.length := by simp [openT]
theorem Mid.chlen (h : Mid c l pre rs) {ch : List Int} (he : pre ++ openT rs = ch) : ch.length = l.length := by
  rw [← he, List.length_append, open_len]; exact h.len
theorem open_zero (h1 : ¬ 1 < chs r) : (pre ++ [0]) ++ openT rs = pre ++ openT (r :: rs) := by
  simp [openT, h1]
theorem open_set {ch : List Int} (he : pre ++ openT (r :: rs) = ch) (k : Int) : ch.set pre.length k = (pre ++ [k]) ++ openT rs := by
  subst he
  rw [List.set_append_right _ _ (Nat.le_refl _), Nat.sub_self]
  simp [openT]
theorem set_back {ch : List Int} {p : Nat} (hp : p < ch.length) (h : ch[p] = -1) (z : Int) : (ch.set p z).set p (-1) = ch := by
  rw [List.set_set, ← h, List.set_getElem_self]
theorem set_self {ch : List Int} {p : Nat} (hp : p < ch.length) : ch = ch.set p ch[p] := by rw [List.set_getElem_self]
theorem flat_pre {α : Type} (f : Nat → List α) (done : List α) {k K : Nat} (h : k < K) {x : List α} (hx : x <+: (done ++ (List.range k).flatMap f) ++ f k) : x <+: done ++ (List.range K).flatMap f := by
  refine hx.trans ?_
  have e : (done ++ (List.range k).flatMap f) ++ f k = done ++ (List.range (k + 1)).flatMap f := by rw [List.range_succ, List.flatMap_append]; simp
  rw [e]
  refine (List.prefix_append_right_inj _).2 ?_
  have e2 : List.range K = List.range (k + 1) ++ (List.range (K - (k + 1))).map (k + 1 + ·) := by
    rw [← List.range_add]; congr 1; omega
  rw [e2, List.flatMap_append]
  exact List.prefix_append _ _
theorem flat_next {α : Type} (f : Nat → List α) (done : List α) (k : Nat) : (done ++ (List.range k).flatMap f) ++ f k = done ++ (List.range (k + 1)).flatMap f := by
  rw [List.range_succ, List.flatMap_append]; simp
end
theorem chs_five (r : Rep) : chs r ≤ 5 := by
  unfold chs
  split
  · omega
  · rename_i h
    have := validRep_len (r := r) (by simpa using h)
    split <;> omega
/-- what the search leaves behind -/
def FromPost (c : List Kind) (l : List Rep) (J : Bool → List (List Int) → IMap → List Res → Prop) (g t : Nat) (ch : List Int) (pre : List Int) (rs : List Rep) (done : List (List Int)) (u : Value) (I : IMap) (H : List Res) : Prop :=
  ∃ b dn Hc, u = .bool b ∧ H = .blk g t (intCs ch) :: Hc ∧ J b dn I Hc ∧ (b = true → dn = done ++ resF c l pre rs) ∧ (b = false → dn <+: done ++ resF c l pre rs)
/-- what begins with some choices is in order -/
theorem dbt_take {l : List Rep} {i : Nat} (h : i < l.length) : dbtF (l.take (i + 1)) = dbtF (l.take i) + if 1 < chs l[i] then 1 else 0 := by
  rw [← take_succ_of h, dbtF, List.filter_append, List.length_append, dbtF]
  by_cases hc : 1 < chs l[i] <;> simp [hc]
theorem err_any {c : List Kind} {l : List Rep} {i : Nat} (hc : validC c = true) (h : i < l.length) (h0 : chs l[i] = 0) : errF c l = 1 := by
  unfold errF
  rw [if_neg (by rw [hc]; decide), if_pos (List.any_eq_true.2 ⟨_, List.getElem_mem h, by simp [h0]⟩)]
theorem err_cat {c : List Kind} {l : List Rep} (hc : validC c = false) : errF c l = 1 := by unfold errF; rw [if_pos hc]
theorem err_end {c : List Kind} {l : List Rep} (hc : validC c = true) (hp : ∀ r ∈ l, chs r ≠ 0) : errF c l = if (30 : Int) < (dbtF l : Nat) then 7 else 0 := by
  unfold errF
  rw [if_neg (by rw [hc]; decide), if_neg (by rw [List.any_eq_true]; rintro ⟨r, hr, h0⟩; exact hp r hr (by simpa using h0))]
theorem pos_take {l : List Rep} {i : Nat} (h : i < l.length) (hp : ∀ r ∈ l.take i, chs r ≠ 0) (h0 : chs l[i] ≠ 0) : ∀ r ∈ l.take (i + 1), chs r ≠ 0 := fun r hr => by
  rw [← take_succ_of h] at hr
  rcases List.mem_append.1 hr with hr | hr
  · exact hp r hr
  · obtain rfl := List.mem_singleton.1 hr; exact h0
/-- the start of the choices -/
def openTo' (l : List Rep) (i : Nat) : List Int := openT (l.take i) ++ List.replicate (l.length - i) 0
theorem openTo_len (l : List Rep) {i : Nat} (h : i ≤ l.length) : (openTo' l i).length = l.length := by
  simp [openTo', open_len]; omega
theorem openTo_next {l : List Rep} {i : Nat} (h : i < l.length) : openTo' l (i + 1) = if 1 < chs l[i] then (openTo' l i).set i (-1) else openTo' l i := by
  have e : (openT (l.take i)).length = i := by rw [open_len, List.length_take]; omega
  have e2 : List.replicate (l.length - i) (0 : Int) = 0 :: List.replicate (l.length - (i + 1)) 0 := by
    rw [show l.length - i = (l.length - (i + 1)) + 1 by omega, List.replicate_succ]
  have e3 : openT (l.take i ++ [l[i]]) = openT (l.take i) ++ [if 1 < chs l[i] then -1 else 0] := by simp only [openT, List.map_append, List.map_cons, List.map_nil]
  unfold openTo'
  rw [← take_succ_of h, e3, List.append_assoc]
  by_cases hc : 1 < chs l[i]
  · rw [if_pos hc, if_pos hc, List.set_append_right _ _ (by omega), e, Nat.sub_self, e2]; rfl
  · rw [if_neg hc, if_neg hc, e2]; rfl
theorem openTo_done (l : List Rep) : openTo' l l.length = openT l := by simp [openTo']
end Go.Sx

