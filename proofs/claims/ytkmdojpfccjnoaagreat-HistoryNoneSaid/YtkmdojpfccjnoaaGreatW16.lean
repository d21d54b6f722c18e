/- Walks, printed by a program out of the code of the functions: each theorem is a contract of one function. -/
import Derived.Test.YtkmdojpfccjnoaaGreatW10
import Derived.Test.YtkmdojpfccjnoaaGreatM16
namespace Go.Proofs.YtkmdojpfccjnoaaGreat
open Go Go.Sx
set_option linter.all false
set_option maxRecDepth 20000
set_option maxHeartbeats 4000000
instance T.pl_122 : Has (plK Tryz.prog 122) [(0, 2), (2, 2), (4, 2)] := ⟨by kernel_rfl⟩
instance T.pl_137 : Has (plK Tryz.prog 137) [(0, 1), (1, 1)] := ⟨by kernel_rfl⟩
instance T.pl_69 : Has (plK Tryz.prog 69) [(0, 1)] := ⟨by kernel_rfl⟩
instance T.ty_122 : Has (tyK Tryz.prog 122) (true, 6) := ⟨by kernel_rfl⟩
instance T.zero_122 : Has (zeroK Tryz.prog 122) [.int .i64 0, .int .i64 0, .int .i64 0, .int .i64 0, .int .i64 0, .int .i64 0] := ⟨by kernel_rfl⟩
instance T.zero_69 : Has (zeroK Tryz.prog 69) [.slice none 0 0] := ⟨by kernel_rfl⟩
theorem apply1 (I : IMap) (v : Value) (l : List Part) (hv : RdS I v l) (hl : l.length ≤ 1000000) (x : Part) (B : Option Addr) (d : Nat) (hr : Enc.rd I (x.cells (.slice B x.props.length d)) x) (g4 : Nat) (c4 : ICells I g4 0 [v]) (hs : Srt Part.name l) :
    FnI Tryz.prog 71 #[.agg (x.cells (.slice B x.props.length d)).toArray, .pointer (some ⟨g4, 0, none⟩)] I (fun u J => ∃ w, u = .tuple #[.agg #[w], .int .i64 0] ∧ RdS J w (putL Part.name l x)) := by
 refine enter Tryz.func71 Tryz.call71 rfl Tryz.ntmps71 rfl (fun w0 => ?_)
 refine go 3 ?_
 refine o_box _ rfl rfl rfl (fun g2 => ?_)
 refine go 1 ?_
 refine o_alloc he rfl (fun g3 => ?_)
 refine go 6 ?_
 refine o_v rfl (v_ldI he rfl (c4 0 _ rfl)) ?_
 refine go 2 ?_
 refine o_call (put_Part _ v l hv hl x B d hr _ Part.name (fun J hJ y vs hr => apply11 J y vs hr) hs) rfl rfl (fun v8 I8 j8 q8 => ?_)
 obtain ⟨B8, d8, rfl, h8⟩ := q8
 refine go 1 ?_
 refine o_val rfl (v_build (pl := [(0, 1)]) he he rfl rfl) ?_
 refine go 1 ?_
 refine o_stw _ he rfl rfl rfl rfl rfl rfl ?_
 refine go 4 ?_
 refine fin2 rfl ⟨_, _, _, rfl, m0, .inr ⟨_, he, rfl, rfl⟩⟩ rfl ?_
 exact q_i ⟨_, rfl, B8, d8, rfl, h8⟩

theorem apply2 (I : IMap) (n : Int) :
    FnV Tryz.prog 74 #[.int .i64 n] I (.tuple #[.agg #[.slice none 0 0], .int .i64 n]) := by
 refine enter Tryz.func74 Tryz.call74 rfl Tryz.ntmps74 rfl (fun w0 => ?_)
 refine go 3 ?_
 refine o_alloc he rfl (fun g2 => ?_)
 refine go 6 ?_
 refine o_val rfl (v_build (pl := [(0, 1)]) he he rfl rfl) ?_
 refine go 2 ?_
 refine o_stw _ he rfl rfl rfl rfl rfl rfl ?_
 refine go 4 ?_
 refine fin2 rfl ⟨_, _, _, rfl, m0, .inr ⟨_, he, rfl, rfl⟩⟩ rfl ?_
 exact q_v rfl

theorem apply3 (I : IMap) (v : Value) (l : List Part) (hv : RdS I v l) (g4 : Nat) (c4 : ICells I g4 0 [v]) (f : FuncId) (cs : List Value) (p : Part → Bool) (hp : ∀ x ∈ l, ∀ vs, Enc.rd I vs x → FnV Tryz.prog f ([Value.agg vs.toArray] ++ cs).toArray I (.bool (p x))) :
    FnV Tryz.prog 77 #[.func (.func f) #[] cs.toArray, .pointer (some ⟨g4, 0, none⟩)] I (.bool (l.any p)) := by
 refine enter Tryz.func77 Tryz.call77 rfl Tryz.ntmps77 rfl (fun w0 => ?_)
 refine go 8 ?_
 refine o_v rfl (v_ldI he rfl (c4 0 _ rfl)) ?_
 refine go 2 ?_
 refine o_callV (containsFunc_Part _ v l hv f cs p hp) rfl rfl ?_
 refine go 4 ?_
 refine fin1 rfl rfl ?_
 exact q_v rfl

theorem apply4 (I : IMap) (x : Part) (vs : List Value) (h : Enc.rd I vs x) (g : Nat) (e : Evt) (cg : ICells I g 0 e.cells) :
    FnV Tryz.prog 80 #[.agg vs.toArray, .pointer (some ⟨g, 0, none⟩)] I (.bool (decide (x.into = e.into) && decide (x.slot = e.slot))) := by
 obtain ⟨ps, rfl, hps⟩ := h
 refine enter Tryz.func80 Tryz.call80 rfl Tryz.ntmps80 rfl (fun w0 => ?_)
 refine go 3 ?_
 refine o_box _ rfl rfl rfl (fun g2 => ?_)
 refine go 8 ?_
 refine o_v rfl (v_ldI he rfl (cg 4 _ rfl)) ?_
 refine go 2 ?_
 refine sxb 9 rfl (fun h9 p9 => ?_) (fun h9 p9 => ?_)
 ·refine go 3 ?_
  refine o_cons (o_yes rfl rfl h9 (o_val rfl (v_ldI he rfl (cg 5 _ rfl)) ?_))
  refine go 6 ?_
  refine fin1 rfl rfl ?_
  exact q_v (congrArg Value.bool (by simp only [h9, bS]))
 ·refine go 10 ?_
  refine fin1 rfl rfl ?_
  exact q_v (congrArg Value.bool (by simp only [h9, bS]))

theorem apply6 (I : IMap) (x : Part) (vs : List Value) (h : Enc.rd I vs x) (g : Nat) (q : Part) (s : Value) (cg : ICells I g 0 (q.cells s)) :
    FnV Tryz.prog 83 #[.agg vs.toArray, .pointer (some ⟨g, 0, none⟩)] I (.bool (decide (x.into = q.name))) := by
 obtain ⟨ps, rfl, hps⟩ := h
 refine enter Tryz.func83 Tryz.call83 rfl Tryz.ntmps83 rfl (fun w0 => ?_)
 refine go 3 ?_
 refine o_box _ rfl rfl rfl (fun g2 => ?_)
 refine go 8 ?_
 refine o_v rfl (v_ldI he rfl (cg 0 _ rfl)) ?_
 refine go 5 ?_
 refine fin1 rfl rfl ?_
 exact q_v rfl

theorem flApply (I : IMap) (vc : Value) (c : List Kind) (hvc : RdS I vc c) (hsc : SmC c) (v : Value) (l : List Part) (hv : RdS I v l) (hsf : SmF l) (e : Evt) (hse : SmE e) :
    FnI Tryz.prog 51 #[.agg #[vc], .agg #[v], .agg e.cells.toArray] I (fun u J => StIs J (applyF c l e) u) := by
 have hv0 := hv
 obtain ⟨A, c0, rfl, hA, hc, hm⟩ := hv
 refine enter Tryz.func51 Tryz.call51 rfl Tryz.ntmps51 rfl (fun w0 => ?_)
 refine go 3 ?_
 refine o_box _ rfl rfl rfl (fun g3 => ?_)
 refine go 1 ?_
 refine o_box _ rfl rfl rfl (fun g4 => ?_)
 refine go 1 ?_
 refine o_box _ rfl rfl rfl (fun g5 => ?_)
 refine go 1 ?_
 refine o_alloc he rfl (fun g6 => ?_)
 refine go 5 ?_
 refine c_cut (I' := I) (L' := [(3, .pointer (some ⟨g3, 0, none⟩)), (4, .pointer (some ⟨g4, 0, none⟩)), (5, .pointer (some ⟨g5, 0, none⟩)), (6, .pointer (some ⟨g6, 0, none⟩)), (28, .bool (!validS c l || !validE e))]) (H' := [.blk g6 69 [.slice none 0 0], .blk g5 53 e.cells, .blk g4 69 [.slice A l.length c0], .blk g3 24 [vc]]) ?_ ?_
 ·refine go 4 ?_
  refine o_callV (flValid _ vc c hvc hsc _ l hv0 hsf) rfl rfl ?_
  refine go 2 ?_
  refine sxb 24 rfl (fun h24 p24 => ?_) (fun h24 p24 => ?_)
  ·refine go 6 ?_
   exact q_cut ⟨rfl, rfl, rfl, rfl, (congrArg (fun b => some (Value.bool b)) (by simp only [h24, bS])), trivial⟩ rfl rfl
  ·refine go 2 ?_
   refine o_yes rfl rfl h24 (o_callV (evValid _ e hse) rfl rfl ?_)
   refine go 4 ?_
   exact q_cut ⟨rfl, rfl, rfl, rfl, (congrArg (fun b => some (Value.bool b)) (by simp only [h24, bS])), trivial⟩ rfl rfl
 ·refine cb rfl (fun h28 p28 => ?_) (fun h28 p28 => ?_)
  ·refine go 3 ?_
   refine o_val rfl (v_build (pl := [(0, 1)]) he he rfl rfl) ?_
   refine go 1 ?_
   refine o_stw _ he rfl rfl rfl rfl rfl rfl ?_
   refine go 5 ?_
   refine fin2 rfl ⟨_, _, _, rfl, m0, .inr ⟨_, he, rfl, rfl⟩⟩ rfl ?_
   exact q_i (StIs.fail (by simp only [applyF, h28, if_true]))
  ·have hV : validS c l = true ∧ validE e = true := by revert h28; simp
   obtain ⟨hsrt, hlen⟩ := validS_ord hV.1
   have hl6 : l.length ≤ 1000000 := by omega
   refine go 6 ?_
   refine o_callX0 (flOf _ _ l hv0) rfl rfl (fun v31 s31 q31 => ?_)
   obtain ⟨m31, kvs, rfl, rfl, hIx⟩ := q31
   refine go 1 ?_
   refine o_alloc he rfl (fun g8 => ?_)
   refine go 1 ?_
   refine o_stw _ he rfl rfl rfl rfl rfl rfl ?_
   refine go 4 ?_
   refine bring4 ?_
   refine sx_pub (fun Ig4 jg4 cg4 => ?_)
   have hvc := hvc.le jg4
   have hv0 := hv0.le jg4
   refine o_v rfl (v_makeFunc rfl rfl) ?_
   refine go 14 ?_
   refine bring1 ?_
   refine o_callK (flGet _ _ l hv0 m31 kvs hIx e.part) rfl rfl (fun v37 q37 => ?_)
   obtain ⟨vs11, rfl, s11, rfl, hs11⟩ := q37
   refine go 4 ?_
   refine o_alloc he rfl (fun g11 => ?_)
   refine go 1 ?_
   refine o_stw _ he rfl rfl rfl rfl rfl (Enc.one (α := Part) (I := Ig4) (x := partP l e) ⟨s11, rfl, hs11⟩) ?_
   refine go 11 ?_
   refine cb rfl (fun h42 p42 => ?_) (fun h42 p42 => ?_)
   ·refine go 6 ?_
    refine cb rfl (fun h43 p43 => ?_) (fun h43 p43 => ?_)
    ·refine go 4 ?_
     refine o_callV (apply2 _ 3) rfl rfl ?_
     refine go 3 ?_
     refine bring3 ?_
     refine o_stw _ he rfl rfl rfl rfl rfl rfl ?_
     refine go 6 ?_
     refine fin2 rfl ⟨_, _, _, rfl, m0, .inr ⟨_, he, rfl, rfl⟩⟩ rfl ?_
     exact q_i (StIs.fail (by simp only [applyF, h28, p42, applyMake, h43, Bool.true_eq_false, decide_true, decide_false, Int.reduceEq, reduceIte, if_true, if_false, Bool.false_eq_true, not_true, not_false_eq_true, bS]))
    ·refine go 9 ?_
     refine o_callE (catFind _ vc c hvc e.kind) rfl rfl (fun v52 q52 => ?_)
     obtain ⟨vs13, rfl, s13, rfl, hs13⟩ := q52
     refine go 4 ?_
     refine o_alloc he rfl (fun g13 => ?_)
     refine go 1 ?_
     refine o_stw _ he rfl rfl rfl rfl rfl (Enc.one (α := Kind) (I := Ig4) (x := (findK c e.kind).getD zKind) ⟨s13, rfl, hs13⟩) ?_
     refine go 9 ?_
     refine cb rfl (fun h56 p56 => ?_) (fun h56 p56 => ?_)
     ·refine go 4 ?_
      refine o_callV (apply2 _ 4) rfl rfl ?_
      refine go 3 ?_
      refine bring4 ?_
      refine o_stw _ he rfl rfl rfl rfl rfl rfl ?_
      refine go 6 ?_
      refine fin2 rfl ⟨_, _, _, rfl, m0, .inr ⟨_, he, rfl, rfl⟩⟩ rfl ?_
      exact q_i (StIs.fail (by simp only [applyF, h28, p42, applyMake, h43, p56, Bool.true_eq_false, decide_true, decide_false, Int.reduceEq, reduceIte, if_true, if_false, Bool.false_eq_true, not_true, not_false_eq_true, bS]))
     ·refine go 6 ?_
      refine o_v rfl (v_ldI he rfl (cg4 0 _ rfl)) ?_
      refine go 4 ?_
      refine cb rfl (fun h64 p64 => ?_) (fun h64 p64 => ?_)
      ·refine go 4 ?_
       refine o_callV (apply2 _ 7) rfl rfl ?_
       refine go 3 ?_
       refine bring4 ?_
       refine o_stw _ he rfl rfl rfl rfl rfl rfl ?_
       refine go 6 ?_
       refine fin2 rfl ⟨_, _, _, rfl, m0, .inr ⟨_, he, rfl, rfl⟩⟩ rfl ?_
       exact q_i (StIs.fail (by simp only [applyF, h28, p42, applyMake, h43, p56, p64, Bool.true_eq_false, Bool.true_eq_false, decide_true, decide_false, Int.reduceEq, reduceIte, if_true, if_false, Bool.false_eq_true, not_true, not_false_eq_true, bS]))
      ·refine go 14 ?_
       refine o_val rfl (v_build (pl := [(0, 1), (1, 1), (2, 1), (3, 1), (4, 1), (5, 1), (6, 1), (7, 1), (8, 6)]) he he rfl rfl) ?_
       refine go 1 ?_
       refine o_call (apply1 _ _ l hv0 hl6 (newP e) none 0 ⟨_, rfl, RdS.nil'⟩ g4 cg4 hsrt) rfl rfl (fun v79 I79 j79 q79 => ?_)
       obtain ⟨w79, rfl, ⟨B79, d79, rfl, hw79⟩⟩ := q79
       refine go 3 ?_
       refine bring4 ?_
       refine o_stw _ he rfl rfl rfl rfl rfl rfl ?_
       refine go 5 ?_
       refine fin2 rfl ⟨_, _, _, rfl, m0, .inr ⟨_, he, rfl, rfl⟩⟩ rfl ?_
       exact q_i (StIs.put (by simp only [applyF, h28, p42, applyMake, h43, p56, p64, Bool.true_eq_false, Bool.true_eq_false, decide_true, decide_false, Int.reduceEq, reduceIte, if_true, if_false, Bool.false_eq_true, not_true, not_false_eq_true, bS]) ⟨B79, d79, rfl, hw79⟩)
   ·refine go 7 ?_
    refine o_alloc he rfl (fun g15 => ?_)
    refine go 1 ?_
    refine o_stw _ he rfl rfl rfl rfl rfl (Enc.one (α := Part) (I := Ig4) (x := partP l e) ⟨s11, rfl, hs11⟩) ?_
    refine go 4 ?_
    refine c_cutx (α := Value) (Ix := (fun s15 => Ig4)) (Lx := (fun s15 => [(3, .pointer (some ⟨g3, 0, none⟩)), (4, .pointer (some ⟨g4, 0, none⟩)), (5, .pointer (some ⟨g5, 0, none⟩)), (6, .pointer (some ⟨g6, 0, none⟩)), (9, .func (.func 71) #[] #[.pointer (some ⟨g4, 0, none⟩)]), (10, .func (.func 74) #[] #[]), (11, .pointer (some ⟨g11, 0, none⟩)), (12, .bool (findP l e.part).isSome), (15, .pointer (some ⟨g15, 0, none⟩)), (16, .bool (otherO l e).isSome)])) (Hx := (fun s15 => [.blk g15 124 ((otherP l e).cells s15), .blk g11 124 ((partP l e).cells s11), .blk g6 69 [.slice none 0 0], .blk g5 53 e.cells, .blk g3 24 [vc]])) (p := (fun s15 => RdS Ig4 s15 (otherP l e).props)) ?_ ?_
    ·refine go 7 ?_
     refine cb rfl (fun h86 p86 => ?_) (fun h86 p86 => ?_)
     ·refine go 5 ?_
      refine bring2 ?_
      refine o_callK (flGet _ _ l hv0 m31 kvs hIx e.into) rfl rfl (fun v91 q91 => ?_)
      obtain ⟨vs15, rfl, s15, rfl, hs15⟩ := q91
      refine go 4 ?_
      refine bring1 ?_
      refine o_stw _ he rfl rfl rfl rfl rfl (Enc.one (α := Part) (I := Ig4) (x := (findP l e.into).getD zPart) ⟨s15, rfl, hs15⟩) ?_
      refine go 3 ?_
      refine bring1 ?_
      refine sx_drop ?_
      refine bring2 ?_
      refine sx_drop ?_
      exact q_cutx s15 (by simp only [otherP, otherO, p86, if_true]; exact hs15) ⟨rfl, rfl, rfl, rfl, rfl, rfl, rfl, rfl, rfl, (by simp only [otherO, p86, if_true, if_false]; rfl), trivial⟩ (by simp only [otherP, otherO, p86, if_true, if_false]; rfl) rfl
     ·refine go 2 ?_
      refine bring2 ?_
      refine sx_drop ?_
      refine bring2 ?_
      refine sx_drop ?_
      exact q_cutx s11 (by simp only [otherP, otherO, p86, if_false]; exact hs11) ⟨rfl, rfl, rfl, rfl, rfl, rfl, rfl, rfl, rfl, (by simp only [otherO, p86, if_true, if_false]; rfl), trivial⟩ (by simp only [otherP, otherO, p86, if_true, if_false]; rfl) rfl
    ·intro s15 hs15
     refine go 6 ?_
     refine sxb 96 rfl (fun h96 p96 => ?_) (fun h96 p96 => ?_)
     ·refine go 5 ?_
      refine c_true rfl ?_
      refine go 4 ?_
      refine o_callV (apply2 _ 2) rfl rfl ?_
      refine go 3 ?_
      refine bring2 ?_
      refine o_stw _ he rfl rfl rfl rfl rfl rfl ?_
      refine go 5 ?_
      refine fin2 rfl ⟨_, _, _, rfl, m0, .inr ⟨_, he, rfl, rfl⟩⟩ rfl ?_
      exact q_i (StIs.fail (by simp only [applyF, h28, p42, applyRest, h96, Bool.true_eq_false, decide_true, decide_false, Int.reduceEq, reduceIte, if_true, if_false, Bool.false_eq_true, not_true, not_false_eq_true, bS]))
     ·refine go 5 ?_
      refine cb rfl (fun h99 p99 => ?_) (fun h99 p99 => ?_)
      ·refine go 4 ?_
       refine o_callV (apply2 _ 2) rfl rfl ?_
       refine go 3 ?_
       refine bring2 ?_
       refine o_stw _ he rfl rfl rfl rfl rfl rfl ?_
       refine go 5 ?_
       refine fin2 rfl ⟨_, _, _, rfl, m0, .inr ⟨_, he, rfl, rfl⟩⟩ rfl ?_
       exact q_i (StIs.fail (by simp only [applyF, h28, p42, applyRest, h96, h99, Bool.true_eq_false, decide_true, decide_false, Int.reduceEq, reduceIte, if_true, if_false, Bool.false_eq_true, not_true, not_false_eq_true, bS]))
      ·have hmem : partP l e ∈ l := partP_mem (by simpa using h96)
       refine go 8 ?_
       refine sxb 106 rfl (fun h106 p106 => ?_) (fun h106 p106 => ?_)
       ·refine go 5 ?_
        refine c_true rfl ?_
        refine go 4 ?_
        refine o_callV (apply2 _ 5) rfl rfl ?_
        refine go 3 ?_
        refine bring2 ?_
        refine o_stw _ he rfl rfl rfl rfl rfl rfl ?_
        refine go 5 ?_
        refine fin2 rfl ⟨_, _, _, rfl, m0, .inr ⟨_, he, rfl, rfl⟩⟩ rfl ?_
        exact q_i (StIs.fail (by simp only [applyF, h28, p42, applyRest, h96, h99, h106, Bool.true_eq_false, decide_true, decide_false, Int.reduceEq, reduceIte, if_true, if_false, Bool.false_eq_true, not_true, not_false_eq_true, bS]))
       ·refine go 5 ?_
        refine cb rfl (fun h109 p109 => ?_) (fun h109 p109 => ?_)
        ·refine go 4 ?_
         refine o_callV (apply2 _ 5) rfl rfl ?_
         refine go 3 ?_
         refine bring2 ?_
         refine o_stw _ he rfl rfl rfl rfl rfl rfl ?_
         refine go 5 ?_
         refine fin2 rfl ⟨_, _, _, rfl, m0, .inr ⟨_, he, rfl, rfl⟩⟩ rfl ?_
         exact q_i (StIs.fail (by simp only [applyF, h28, p42, applyRest, h96, h99, h106, h109, Bool.true_eq_false, decide_true, decide_false, Int.reduceEq, reduceIte, if_true, if_false, Bool.false_eq_true, not_true, not_false_eq_true, bS]))
        ·refine go 4 ?_
         refine o_v rfl (v_makeFunc rfl rfl) ?_
         refine go 9 ?_
         refine o_callE (catFind _ vc c hvc (partP l e).kind) rfl rfl (fun v119 q119 => ?_)
         obtain ⟨vs18, rfl, s18, rfl, hs18⟩ := q119
         refine go 4 ?_
         refine o_alloc he rfl (fun g18 => ?_)
         refine go 1 ?_
         refine o_stw _ he rfl rfl rfl rfl rfl (Enc.one (α := Kind) (I := Ig4) (x := kindP c l e) ⟨s18, rfl, hs18⟩) ?_
         refine go 4 ?_
         refine c_cutx3 (Ix := (fun J p2 s2 => J)) (Lx := (fun J p2 s2 => [(6, .pointer (some ⟨g6, 0, none⟩)), (9, .func (.func 71) #[] #[.pointer (some ⟨g4, 0, none⟩)]), (11, .pointer (some ⟨g11, 0, none⟩))])) (Hx := (fun J p2 s2 => [.blk g11 124 (p2.cells s2), .blk g6 69 [.slice none 0 0]])) (p := (fun J p2 s2 => ILe Ig4 J ∧ RdS J s2 p2.props ∧ applyF c l e = putR l p2)) ?_ ?_
         ·refine go 13 ?_
          refine cb rfl (fun h124 p124 => ?_) (fun h124 p124 => ?_)
          ·refine go 7 ?_
           refine sxb 129 rfl (fun h129 p129 => ?_) (fun h129 p129 => ?_)
           ·refine go 13 ?_
            refine c_true rfl ?_
            refine go 4 ?_
            refine o_callV (apply2 _ 4) rfl rfl ?_
            refine go 3 ?_
            refine bring3 ?_
            refine o_stw _ he rfl rfl rfl rfl rfl rfl ?_
            refine go 8 ?_
            refine fin2 rfl ⟨_, _, _, rfl, m0, .inr ⟨_, he, rfl, rfl⟩⟩ rfl ?_
            exact q_i (StIs.fail (by simp only [applyF, h28, p42, applyRest, applyOp, applyFit, applyRemove, applyRun, applyNote, applyScrap, seatTaken, holdsAny, kindP, noted, p28, p42, p96, p99, p106, p109, p124, p129, h96, h99, h106, h109, h124, h129, Bool.true_eq_false, decide_true, decide_false, Int.reduceEq, reduceIte, if_true, if_false, Bool.false_eq_true, not_true, not_false_eq_true, bS]))
           ·refine go 8 ?_
            refine o_yes rfl rfl h129 (o_callV (catTakes _ vc c hvc (otherP l e).kind e.slot (partP l e).kind) rfl rfl ?_)
            refine go 5 ?_
            refine cb rfl (fun h126 p126 => ?_) (fun h126 p126 => ?_)
            ·refine go 4 ?_
             refine o_callV (apply2 _ 4) rfl rfl ?_
             refine go 3 ?_
             refine bring3 ?_
             refine o_stw _ he rfl rfl rfl rfl rfl rfl ?_
             refine go 8 ?_
             refine fin2 rfl ⟨_, _, _, rfl, m0, .inr ⟨_, he, rfl, rfl⟩⟩ rfl ?_
             exact q_i (StIs.fail (by simp only [applyF, h28, p42, applyRest, applyOp, applyFit, applyRemove, applyRun, applyNote, applyScrap, seatTaken, holdsAny, kindP, noted, p28, p42, p96, p99, p106, p109, p124, p129, p126, h96, h99, h106, h109, h124, h129, h126, Bool.true_eq_false, decide_true, decide_false, Int.reduceEq, reduceIte, if_true, if_false, Bool.false_eq_true, not_true, not_false_eq_true, bS]))
            ·refine go 8 ?_
             refine cb rfl (fun h144 p144 => ?_) (fun h144 p144 => ?_)
             ·refine go 4 ?_
              refine o_callV (apply2 _ 5) rfl rfl ?_
              refine go 3 ?_
              refine bring3 ?_
              refine o_stw _ he rfl rfl rfl rfl rfl rfl ?_
              refine go 8 ?_
              refine fin2 rfl ⟨_, _, _, rfl, m0, .inr ⟨_, he, rfl, rfl⟩⟩ rfl ?_
              exact q_i (StIs.fail (by simp only [applyF, h28, p42, applyRest, applyOp, applyFit, applyRemove, applyRun, applyNote, applyScrap, seatTaken, holdsAny, kindP, noted, p28, p42, p96, p99, p106, p109, p124, p129, p126, p144, h96, h99, h106, h109, h124, h129, h126, h144, Bool.true_eq_false, decide_true, decide_false, Int.reduceEq, reduceIte, if_true, if_false, Bool.false_eq_true, not_true, not_false_eq_true, bS]))
             ·refine go 3 ?_
              refine bring4 ?_
              refine sx_pub (fun Ig5 jg5 cg5 => ?_)
              have hvc := hvc.le jg5
              have hv0 := hv0.le jg5
              have cg4 := cg4.le jg5
              have hs11 := hs11.le jg5
              have hs18 := hs18.le jg5
              refine o_v rfl (v_makeFunc rfl rfl) ?_
              refine go 1 ?_
              refine o_callV (apply3 _ _ l hv0 g4 cg4 _ [.pointer (some ⟨g5, 0, none⟩)] (fun x => decide (x.into = e.into) && decide (x.slot = e.slot)) (fun x hx vs hr => apply4 _ x vs hr g5 e cg5)) rfl rfl ?_
              refine go 3 ?_
              refine cb rfl (fun h152 p152 => ?_) (fun h152 p152 => ?_)
              ·refine go 4 ?_
               refine o_callV (apply2 _ 6) rfl rfl ?_
               refine go 3 ?_
               refine bring3 ?_
               refine o_stw _ he rfl rfl rfl rfl rfl rfl ?_
               refine go 8 ?_
               refine fin2 rfl ⟨_, _, _, rfl, m0, .inr ⟨_, he, rfl, rfl⟩⟩ rfl ?_
               exact q_i (StIs.fail (by simp only [applyF, h28, p42, applyRest, applyOp, applyFit, applyRemove, applyRun, applyNote, applyScrap, seatTaken, holdsAny, kindP, noted, p28, p42, p96, p99, p106, p109, p124, p129, p126, p144, p152, h96, h99, h106, h109, h124, h129, h126, h144, h152, Bool.true_eq_false, decide_true, decide_false, Int.reduceEq, reduceIte, if_true, if_false, Bool.false_eq_true, not_true, not_false_eq_true, bS]))
              ·refine go 3 ?_
               refine bring2 ?_
               refine d_start1 T.mixed ?_
               refine d_tv 0 rfl rfl (by kernel_rfl) rfl (.cons _ (.refl _)) rfl (v_fieldAddr he rfl) ?_
               refine d_tv 1 rfl rfl (by kernel_rfl) rfl (.cons _ (.refl _)) rfl (v_ldI he rfl (cg5 4 _ rfl)) ?_
               refine d_tv 2 rfl rfl (by kernel_rfl) rfl (.cons _ (.refl _)) rfl (v_fieldAddr he rfl) ?_
               refine d_tv 3 rfl rfl (by kernel_rfl) rfl (.cons _ (.refl _)) rfl (v_ldI he rfl (cg5 5 _ rfl)) ?_
               refine d_tv 4 rfl rfl (by kernel_rfl) rfl (.cons _ (.refl _)) rfl (v_fieldAddr he rfl) ?_
               refine d_one 5 (by kernel_rfl) rfl ?_
               refine o_st1 he rfl rfl rfl rfl ?_
               refine d_on (fun _ m => m.keeps (.cons _ (.refl _))) ?_
               refine d_tv 6 rfl rfl (by kernel_rfl) rfl (.cons _ (.refl _)) rfl (v_fieldAddr he rfl) ?_
               refine d_one 7 (by kernel_rfl) rfl ?_
               refine o_st1 he rfl rfl rfl rfl ?_
               refine d_on (fun _ m => m.keeps (.cons _ (.refl _))) ?_
               refine d_done (by kernel_rfl) ?_
               refine go 2 ?_
               refine bring1 ?_
               refine sx_drop ?_
               refine bring1 ?_
               refine sx_drop ?_
               refine bring2 ?_
               refine sx_drop ?_
               exact q_cutx3 (_) ({ partP l e with into := e.into, slot := e.slot }) (_) ⟨jg5, hs11, by simp only [applyF, h28, p42, applyRest, h96, h99, h106, h109, applyOp, applyFit, applyRemove, applyRun, applyNote, applyScrap, seatTaken, holdsAny, kindP, noted, overhauled, p28, p42, p96, p99, p106, p109, p124, p129, p126, p144, p152, h96, h99, h106, h109, h124, h129, h126, h144, h152, Bool.true_eq_false, decide_true, decide_false, Int.reduceEq, reduceIte, if_true, if_false, Bool.false_eq_true, not_true, not_false_eq_true, bS]⟩ sb rfl rfl
          ·refine go 6 ?_
           refine cb rfl (fun h166 p166 => ?_) (fun h166 p166 => ?_)
           ·refine go 8 ?_
            refine cb rfl (fun h170 p170 => ?_) (fun h170 p170 => ?_)
            ·refine go 4 ?_
             refine o_callV (apply2 _ 5) rfl rfl ?_
             refine go 3 ?_
             refine bring3 ?_
             refine o_stw _ he rfl rfl rfl rfl rfl rfl ?_
             refine go 7 ?_
             refine fin2 rfl ⟨_, _, _, rfl, m0, .inr ⟨_, he, rfl, rfl⟩⟩ rfl ?_
             exact q_i (StIs.fail (by simp only [applyF, h28, p42, applyRest, applyOp, applyFit, applyRemove, applyRun, applyNote, applyScrap, seatTaken, holdsAny, kindP, noted, p28, p42, p96, p99, p106, p109, p124, p166, p170, h96, h99, h106, h109, h124, h166, h170, Bool.true_eq_false, decide_true, decide_false, Int.reduceEq, reduceIte, if_true, if_false, Bool.false_eq_true, not_true, not_false_eq_true, bS]))
            ·refine go 5 ?_
             refine bring2 ?_
             refine o_st1 he rfl rfl rfl rfl ?_
             refine go 2 ?_
             refine o_st1 he rfl rfl rfl rfl ?_
             refine go 3 ?_
             refine bring1 ?_
             refine sx_drop ?_
             refine bring1 ?_
             refine sx_drop ?_
             refine bring2 ?_
             refine sx_drop ?_
             refine bring2 ?_
             refine sx_drop ?_
             exact q_cutx3 (_) ({ partP l e with into := nil8, slot := nil8 }) (_) ⟨ILe.refl _, hs11, by simp only [applyF, h28, p42, applyRest, h96, h99, h106, h109, applyOp, applyFit, applyRemove, applyRun, applyNote, applyScrap, seatTaken, holdsAny, kindP, noted, overhauled, p28, p42, p96, p99, p106, p109, p124, p166, p170, h96, h99, h106, h109, h124, h166, h170, Bool.true_eq_false, decide_true, decide_false, Int.reduceEq, reduceIte, if_true, if_false, Bool.false_eq_true, not_true, not_false_eq_true, bS]⟩ sb rfl rfl
           ·refine go 6 ?_
            refine cb rfl (fun h177 p177 => ?_) (fun h177 p177 => ?_)
            ·refine go 7 ?_
             refine cb rfl (fun h181 p181 => ?_) (fun h181 p181 => ?_)
             ·refine go 4 ?_
              refine o_callV (apply2 _ 4) rfl rfl ?_
              refine go 3 ?_
              refine bring3 ?_
              refine o_stw _ he rfl rfl rfl rfl rfl rfl ?_
              refine go 6 ?_
              refine fin2 rfl ⟨_, _, _, rfl, m0, .inr ⟨_, he, rfl, rfl⟩⟩ rfl ?_
              exact q_i (StIs.fail (by simp only [applyF, h28, p42, applyRest, applyOp, applyFit, applyRemove, applyRun, applyNote, applyScrap, seatTaken, holdsAny, kindP, noted, p28, p42, p96, p99, p106, p109, p124, p166, p177, p181, h96, h99, h106, h109, h124, h166, h177, h181, Bool.true_eq_false, decide_true, decide_false, Int.reduceEq, reduceIte, if_true, if_false, Bool.false_eq_true, not_true, not_false_eq_true, bS]))
             ·refine go 3 ?_
              refine sx_drop ?_
              refine sx_drop ?_
              refine bring2 ?_
              refine sx_drop ?_
              refine bring2 ?_
              refine sx_drop ?_
              exact q_cutx3 (_) (partP l e) (_) ⟨ILe.refl _, hs11, by simp only [applyF, h28, p42, applyRest, h96, h99, h106, h109, applyOp, applyFit, applyRemove, applyRun, applyNote, applyScrap, seatTaken, holdsAny, kindP, noted, overhauled, p28, p42, p96, p99, p106, p109, p124, p166, p177, p181, h96, h99, h106, h109, h124, h166, h177, h181, Bool.true_eq_false, decide_true, decide_false, Int.reduceEq, reduceIte, if_true, if_false, Bool.false_eq_true, not_true, not_false_eq_true, bS]⟩ sb rfl rfl
            ·refine go 6 ?_
             refine cb rfl (fun h186 p186 => ?_) (fun h186 p186 => ?_)
             ·refine go 5 ?_
              refine o_v rfl (v_imax rfl rfl) ?_
              refine go 1 ?_
              refine o_val rfl (v_build (pl := [(0, 2), (2, 2), (4, 2)]) he he rfl rfl) ?_
              refine go 2 ?_
              refine bring2 ?_
              refine o_st1 he rfl rfl rfl rfl ?_
              refine go 2 ?_
              refine o_st _ _ he rfl rfl rfl rfl rfl rfl rfl ?_
              refine go 3 ?_
              refine bring1 ?_
              refine sx_drop ?_
              refine bring1 ?_
              refine sx_drop ?_
              refine bring2 ?_
              refine sx_drop ?_
              refine bring2 ?_
              refine sx_drop ?_
              exact q_cutx3 (_) (overhauled e (partP l e)) (_) ⟨ILe.refl _, hs11, by simp only [applyF, h28, p42, applyRest, h96, h99, h106, h109, applyOp, applyFit, applyRemove, applyRun, applyNote, applyScrap, seatTaken, holdsAny, kindP, noted, overhauled, p28, p42, p96, p99, p106, p109, p124, p166, p177, p186, h96, h99, h106, h109, h124, h166, h177, h186, Bool.true_eq_false, decide_true, decide_false, Int.reduceEq, reduceIte, if_true, if_false, Bool.false_eq_true, not_true, not_false_eq_true, bS]⟩ sb rfl rfl
             ·refine go 6 ?_
              refine cb rfl (fun h196 p196 => ?_) (fun h196 p196 => ?_)
              ·refine go 9 ?_
               refine o_val rfl (v_build (pl := [(0, 1), (1, 1)]) he he rfl rfl) ?_
               refine go 1 ?_
               refine o_call (put_Prp _ s11 (partP l e).props hs11 (by have := (validS_part hV.1 hmem).2; omega) ⟨e.key, e.value⟩ rfl _ Prp.key (fun J hJ y vs hr => apply5 J y vs hr) (validS_part hV.1 hmem).1) rfl rfl (fun v205 I205 j205 q205 => ?_)
               obtain ⟨B205, d205, rfl, h205⟩ := q205
               refine go 2 ?_
               refine bring2 ?_
               refine o_st1 he rfl rfl rfl rfl ?_
               refine go 10 ?_
               refine cb rfl (fun h210 p210 => ?_) (fun h210 p210 => ?_)
               ·refine go 4 ?_
                refine o_callV (apply2 _ 7) rfl rfl ?_
                refine go 3 ?_
                refine bring3 ?_
                refine o_stw _ he rfl rfl rfl rfl rfl rfl ?_
                refine go 6 ?_
                refine fin2 rfl ⟨_, _, _, rfl, m0, .inr ⟨_, he, rfl, rfl⟩⟩ rfl ?_
                exact q_i (StIs.fail (by simp only [applyF, h28, p42, applyRest, applyOp, applyFit, applyRemove, applyRun, applyNote, applyScrap, seatTaken, holdsAny, kindP, noted, p28, p42, p96, p99, p106, p109, p124, p166, p177, p186, p196, p210, h96, h99, h106, h109, h124, h166, h177, h186, h196, h210, Bool.true_eq_false, decide_true, decide_false, Int.reduceEq, reduceIte, if_true, if_false, Bool.false_eq_true, not_true, not_false_eq_true, bS]))
               ·refine go 3 ?_
                refine bring1 ?_
                refine sx_drop ?_
                refine bring1 ?_
                refine sx_drop ?_
                refine bring2 ?_
                refine sx_drop ?_
                refine bring2 ?_
                refine sx_drop ?_
                exact q_cutx3 (_) (noted e (partP l e)) (_) ⟨j205, ⟨B205, d205, rfl, h205⟩, by simp only [applyF, h28, p42, applyRest, h96, h99, h106, h109, applyOp, applyFit, applyRemove, applyRun, applyNote, applyScrap, seatTaken, holdsAny, kindP, noted, overhauled, p28, p42, p96, p99, p106, p109, p124, p166, p177, p186, p196, p210, h96, h99, h106, h109, h124, h166, h177, h186, h196, h210, Bool.true_eq_false, decide_true, decide_false, Int.reduceEq, reduceIte, if_true, if_false, Bool.false_eq_true, not_true, not_false_eq_true, bS]⟩ sb rfl rfl
              ·refine go 6 ?_
               refine cb rfl (fun h215 p215 => ?_) (fun h215 p215 => ?_)
               ·refine go 7 ?_
                refine sxb 220 rfl (fun h220 p220 => ?_) (fun h220 p220 => ?_)
                ·refine go 6 ?_
                 refine c_true rfl ?_
                 refine go 4 ?_
                 refine o_callV (apply2 _ 5) rfl rfl ?_
                 refine go 3 ?_
                 refine bring3 ?_
                 refine o_stw _ he rfl rfl rfl rfl rfl rfl ?_
                 refine go 7 ?_
                 refine fin2 rfl ⟨_, _, _, rfl, m0, .inr ⟨_, he, rfl, rfl⟩⟩ rfl ?_
                 exact q_i (StIs.fail (by simp only [applyF, h28, p42, applyRest, applyOp, applyFit, applyRemove, applyRun, applyNote, applyScrap, seatTaken, holdsAny, kindP, noted, p28, p42, p96, p99, p106, p109, p124, p166, p177, p186, p196, p215, p220, h96, h99, h106, h109, h124, h166, h177, h186, h196, h215, h220, Bool.true_eq_false, decide_true, decide_false, Int.reduceEq, reduceIte, if_true, if_false, Bool.false_eq_true, not_true, not_false_eq_true, bS]))
                ·refine go 1 ?_
                 refine o_cons (o_yes rfl rfl h220 (o_val rfl (v_makeFunc rfl rfl) ?_))
                 refine go 1 ?_
                 refine o_yes rfl rfl h220 (o_lendB m2 (fun I2 hI2 c2 => apply3 I2 _ l (hv0.le hI2) g4 (cg4.le hI2) _ [.pointer (some ⟨g11, 0, none⟩)] (fun x => decide (x.into = (partP l e).name)) (fun x hx vs hr => apply6 I2 x vs hr g11 _ _ c2)) rfl rfl ?_)
                 refine go 3 ?_
                 refine cb rfl (fun h224 p224 => ?_) (fun h224 p224 => ?_)
                 ·refine go 4 ?_
                  refine o_callV (apply2 _ 5) rfl rfl ?_
                  refine go 3 ?_
                  refine bring3 ?_
                  refine o_stw _ he rfl rfl rfl rfl rfl rfl ?_
                  refine go 7 ?_
                  refine fin2 rfl ⟨_, _, _, rfl, m0, .inr ⟨_, he, rfl, rfl⟩⟩ rfl ?_
                  exact q_i (StIs.fail (by simp only [applyF, h28, p42, applyRest, applyOp, applyFit, applyRemove, applyRun, applyNote, applyScrap, seatTaken, holdsAny, kindP, noted, p28, p42, p96, p99, p106, p109, p124, p166, p177, p186, p196, p215, p220, p224, h96, h99, h106, h109, h124, h166, h177, h186, h196, h215, h220, h224, Bool.true_eq_false, decide_true, decide_false, Int.reduceEq, reduceIte, if_true, if_false, Bool.false_eq_true, not_true, not_false_eq_true, bS]))
                 ·refine go 5 ?_
                  refine bring2 ?_
                  refine o_st1 he rfl rfl rfl rfl ?_
                  refine go 3 ?_
                  refine bring1 ?_
                  refine sx_drop ?_
                  refine bring1 ?_
                  refine sx_drop ?_
                  refine bring2 ?_
                  refine sx_drop ?_
                  refine bring2 ?_
                  refine sx_drop ?_
                  exact q_cutx3 (_) ({ partP l e with scrapped := true }) (_) ⟨ILe.refl _, hs11, by simp only [applyF, h28, p42, applyRest, h96, h99, h106, h109, applyOp, applyFit, applyRemove, applyRun, applyNote, applyScrap, seatTaken, holdsAny, kindP, noted, overhauled, p28, p42, p96, p99, p106, p109, p124, p166, p177, p186, p196, p215, p220, p224, h96, h99, h106, h109, h124, h166, h177, h186, h196, h215, h220, h224, Bool.true_eq_false, decide_true, decide_false, Int.reduceEq, reduceIte, if_true, if_false, Bool.false_eq_true, not_true, not_false_eq_true, bS]⟩ sb rfl rfl
               ·refine go 3 ?_
                refine sx_drop ?_
                refine sx_drop ?_
                refine bring2 ?_
                refine sx_drop ?_
                refine bring2 ?_
                refine sx_drop ?_
                exact q_cutx3 (_) (partP l e) (_) ⟨ILe.refl _, hs11, by simp only [applyF, h28, p42, applyRest, h96, h99, h106, h109, applyOp, applyFit, applyRemove, applyRun, applyNote, applyScrap, seatTaken, holdsAny, kindP, noted, overhauled, p28, p42, p96, p99, p106, p109, p124, p166, p177, p186, p196, p215, h96, h99, h106, h109, h124, h166, h177, h186, h196, h215, Bool.true_eq_false, decide_true, decide_false, Int.reduceEq, reduceIte, if_true, if_false, Bool.false_eq_true, not_true, not_false_eq_true, bS]⟩ sb rfl rfl
         ·rintro J p2 s2 ⟨hJ, ⟨B2, d2, rfl, hB2⟩, hA⟩
          refine go 5 ?_
          refine o_call (apply1 _ _ l (hv0.le hJ) hl6 p2 B2 d2 ⟨_, rfl, B2, d2, rfl, hB2⟩ g4 (cg4.le hJ) hsrt) rfl rfl (fun v232 I232 j232 q232 => ?_)
          obtain ⟨w232, rfl, ⟨B232, d232, rfl, hw232⟩⟩ := q232
          refine go 3 ?_
          refine bring1 ?_
          refine o_stw _ he rfl rfl rfl rfl rfl rfl ?_
          refine go 4 ?_
          refine fin2 rfl ⟨_, _, _, rfl, m0, .inr ⟨_, he, rfl, rfl⟩⟩ rfl ?_
          exact q_i (StIs.put hA ⟨B232, d232, rfl, hw232⟩)

end Go.Proofs.YtkmdojpfccjnoaaGreat
