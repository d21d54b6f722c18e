/- Walks, printed by a program out of the code of the functions: each theorem is a contract of one function. -/
import Derived.Test.YtkmdojpfccjnoaaGreatW16
import Derived.Test.YtkmdojpfccjnoaaGreatMRef
namespace Go.Proofs.YtkmdojpfccjnoaaGreat
open Go Go.Sx
set_option linter.all false
set_option maxRecDepth 20000
set_option maxHeartbeats 4000000
theorem ref09Ivl (I : IMap) (x : Ivl) :
    FnV Tryz.prog 120 #[.agg x.cells.toArray] I (.bool (ivlR x)) := by
 refine enter Tryz.func120 Tryz.call120 rfl Tryz.ntmps120 rfl (fun w0 => ?_)
 refine go 3 ?_
 refine o_box _ rfl rfl rfl (fun g1 => ?_)
 refine go 9 ?_
 refine sxb 6 rfl (fun h6 p6 => ?_) (fun h6 p6 => ?_)
 ·refine go 7 ?_
  refine sxb 13 rfl (fun h13 p13 => ?_) (fun h13 p13 => ?_)
  ·refine go 8 ?_
   refine fin1 rfl rfl ?_
   exact q_v (congrArg Value.bool (by simp only [ivlR, h6, h13, bS]))
  ·refine go 8 ?_
   refine fin1 rfl rfl ?_
   exact q_v (congrArg Value.bool (by simp only [ivlR, h6, h13, bS]))
 ·refine go 15 ?_
  refine fin1 rfl rfl ?_
  exact q_v (congrArg Value.bool (by simp only [ivlR, h6, bS]))

theorem ref09Use (I : IMap) (x : Use) :
    FnV Tryz.prog 88 #[.agg x.cells.toArray] I (.bool (useR x)) := by
 refine enter Tryz.func88 Tryz.call88 rfl Tryz.ntmps88 rfl (fun w0 => ?_)
 refine go 3 ?_
 refine o_box _ rfl rfl rfl (fun g1 => ?_)
 refine go 6 ?_
 refine o_v rfl (v_ldp (x.km.cells) m0 he rfl rfl rfl) ?_
 refine go 1 ?_
 refine o_callV (ref09Ivl _ x.km) rfl rfl ?_
 refine go 1 ?_
 refine sxb 6 rfl (fun h6 p6 => ?_) (fun h6 p6 => ?_)
 ·refine go 1 ?_
  refine o_cons (o_yes rfl rfl h6 (o_val rfl (v_ldp (x.cycles.cells) m0 he rfl rfl rfl) ?_))
  refine go 1 ?_
  refine o_yes rfl rfl h6 (o_callV (ref09Ivl _ x.cycles) rfl rfl ?_)
  refine go 2 ?_
  refine sxb 11 rfl (fun h11 p11 => ?_) (fun h11 p11 => ?_)
  ·refine go 1 ?_
   refine o_cons (o_yes rfl rfl h11 (o_val rfl (v_ldp (x.load.cells) m0 he rfl rfl rfl) ?_))
   refine go 1 ?_
   refine o_yes rfl rfl h11 (o_callV (ref09Ivl _ x.load) rfl rfl ?_)
   refine go 5 ?_
   refine fin1 rfl rfl ?_
   exact q_v (congrArg Value.bool (by simp only [useR, h6, h11, bS]))
  ·refine go 8 ?_
   refine fin1 rfl rfl ?_
   exact q_v (congrArg Value.bool (by simp only [useR, h6, h11, bS]))
 ·refine go 13 ?_
  refine fin1 rfl rfl ?_
  exact q_v (congrArg Value.bool (by simp only [useR, h6, bS]))

theorem ref09Valid (I : IMap) (e : Evt) (hs : SmE e) :
    FnV Tryz.prog 59 #[.agg e.cells.toArray] I (.bool (validE e)) := by
 refine enter Tryz.func59 Tryz.call59 rfl Tryz.ntmps59 rfl (fun w0 => ?_)
 refine go 3 ?_
 refine o_box _ rfl rfl rfl (fun g1 => ?_)
 refine go 5 ?_
 refine c_cut (I' := I) (L' := [(1, .pointer (some ⟨g1, 0, none⟩)), (28, .bool (evBadR e))]) (H' := [.blk g1 53 e.cells]) ?_ ?_
 ·refine go 5 ?_
  refine sxb 8 rfl (fun h8 p8 => ?_) (fun h8 p8 => ?_)
  ·refine go 22 ?_
   exact q_cut ⟨rfl, (congrArg (fun b => some (Value.bool b)) (by simp only [evBadR, h8, bS])), trivial⟩ rfl rfl
  ·refine go 5 ?_
   refine sxb 13 rfl (fun h13 p13 => ?_) (fun h13 p13 => ?_)
   ·refine go 17 ?_
    exact q_cut ⟨rfl, (congrArg (fun b => some (Value.bool b)) (by simp only [evBadR, h8, h13, bS])), trivial⟩ rfl rfl
   ·refine go 5 ?_
    refine sxb 18 rfl (fun h18 p18 => ?_) (fun h18 p18 => ?_)
    ·refine go 12 ?_
     exact q_cut ⟨rfl, (congrArg (fun b => some (Value.bool b)) (by simp only [evBadR, h8, h13, h18, bS])), trivial⟩ rfl rfl
    ·refine go 5 ?_
     refine sxb 23 rfl (fun h23 p23 => ?_) (fun h23 p23 => ?_)
     ·refine go 7 ?_
      exact q_cut ⟨rfl, (congrArg (fun b => some (Value.bool b)) (by simp only [evBadR, h8, h13, h18, h23, bS])), trivial⟩ rfl rfl
     ·refine go 3 ?_
      refine o_yes rfl rfl h23 (o_callV (name05 _ _ hs.1) rfl rfl ?_)
      refine go 4 ?_
      exact q_cut ⟨rfl, (congrArg (fun b => some (Value.bool b)) (by simp only [evBadR, h8, h13, h18, h23, bS])), trivial⟩ rfl rfl
 ·refine cb rfl (fun h28 p28 => ?_) (fun h28 p28 => ?_)
  ·refine go 7 ?_
   refine fin1 rfl rfl ?_
   exact q_v (congrArg Value.bool (by rw [← validER_eq]; simp only [validER, h28]; rfl))
  ·refine go 11 ?_
   refine o_val rfl (v_build (pl := [(0, 1), (1, 1), (2, 1), (3, 1), (4, 1), (5, 1), (6, 1), (7, 1), (8, 6)]) he he rfl rfl) ?_
   refine go 1 ?_
   refine o_alloc he rfl (fun g3 => ?_)
   refine go 1 ?_
   refine o_stw _ he rfl rfl rfl rfl rfl rfl ?_
   refine go 8 ?_
   refine c_cut (I' := I) (L' := [(1, .pointer (some ⟨g1, 0, none⟩)), (3, .pointer (some ⟨g3, 0, none⟩)), (4, .bool (goodR e))]) (H' := [.blk g3 53 (keepR e).cells, .blk g1 53 e.cells]) ?_ ?_
   ·refine go 13 ?_
    refine cb rfl (fun h38 p38 => ?_) (fun h38 p38 => ?_)
    ·refine go 6 ?_
     refine o_st1 he rfl rfl rfl rfl ?_
     refine go 6 ?_
     refine o_callV (name05 _ _ hs.2.1) rfl rfl ?_
     refine go 4 ?_
     exact q_cut ⟨rfl, rfl, (congrArg (fun b => some (Value.bool b)) (by simp only [goodR, p28, p38, h28, h38, Int.reduceEq, reduceIte, if_true, if_false, decide_true, decide_false, bS])), trivial⟩ (by rw [keepR, if_pos p38]; rfl) rfl
    ·refine go 6 ?_
     refine cb rfl (fun h46 p46 => ?_) (fun h46 p46 => ?_)
     ·refine go 6 ?_
      refine o_st1 he rfl rfl rfl rfl ?_
      refine go 8 ?_
      refine o_st1 he rfl rfl rfl rfl ?_
      refine go 6 ?_
      refine o_callV (name05 _ _ hs.2.2.1) rfl rfl ?_
      refine go 1 ?_
      refine sxb 57 rfl (fun h57 p57 => ?_) (fun h57 p57 => ?_)
      ·refine go 3 ?_
       refine o_yes rfl rfl h57 (o_callV (name05 _ _ hs.2.2.2.1) rfl rfl ?_)
       refine go 2 ?_
       refine sxb 62 rfl (fun h62 p62 => ?_) (fun h62 p62 => ?_)
       ·refine go 10 ?_
        exact q_cut ⟨rfl, rfl, (congrArg (fun b => some (Value.bool b)) (by simp only [goodR, p28, p38, p46, p57, p62, h28, h38, h46, h57, h62, Int.reduceEq, reduceIte, if_true, if_false, decide_true, decide_false, bS])), trivial⟩ (by rw [keepR, if_neg p38, if_pos p46]; rfl) rfl
       ·refine go 10 ?_
        exact q_cut ⟨rfl, rfl, (congrArg (fun b => some (Value.bool b)) (by simp only [goodR, p28, p38, p46, p57, p62, h28, h38, h46, h57, h62, Int.reduceEq, reduceIte, if_true, if_false, decide_true, decide_false, bS])), trivial⟩ (by rw [keepR, if_neg p38, if_pos p46]; rfl) rfl
      ·refine go 15 ?_
       exact q_cut ⟨rfl, rfl, (congrArg (fun b => some (Value.bool b)) (by simp only [goodR, p28, p38, p46, p57, h28, h38, h46, h57, Int.reduceEq, reduceIte, if_true, if_false, decide_true, decide_false, bS])), trivial⟩ (by rw [keepR, if_neg p38, if_pos p46]; rfl) rfl
     ·refine go 6 ?_
      refine cb rfl (fun h69 p69 => ?_) (fun h69 p69 => ?_)
      ·refine go 3 ?_
       refine o_v rfl (v_ldp (e.use.cells) m1 he rfl rfl rfl) ?_
       refine go 2 ?_
       refine o_st _ _ he rfl rfl rfl rfl rfl rfl rfl ?_
       refine go 4 ?_
       refine o_v rfl (v_ldp (e.use.cells) m1 he rfl rfl rfl) ?_
       refine go 1 ?_
       refine o_callV (ref09Use _ e.use) rfl rfl ?_
       refine go 4 ?_
       exact q_cut ⟨rfl, rfl, (congrArg (fun b => some (Value.bool b)) (by simp only [goodR, p28, p38, p46, p69, h28, h38, h46, h69, Int.reduceEq, reduceIte, if_true, if_false, decide_true, decide_false, bS])), trivial⟩ (by rw [keepR, if_neg p38, if_neg p46, if_pos p69]; rfl) rfl
      ·refine go 6 ?_
       refine cb rfl (fun h77 p77 => ?_) (fun h77 p77 => ?_)
       ·refine go 6 ?_
        refine o_st1 he rfl rfl rfl rfl ?_
        refine go 8 ?_
        refine o_st1 he rfl rfl rfl rfl ?_
        refine go 6 ?_
        refine o_callV (name05 _ _ hs.2.2.2.2.1) rfl rfl ?_
        refine go 1 ?_
        refine sxb 88 rfl (fun h88 p88 => ?_) (fun h88 p88 => ?_)
        ·refine go 6 ?_
         refine sxb 94 rfl (fun h94 p94 => ?_) (fun h94 p94 => ?_)
         ·refine go 9 ?_
          exact q_cut ⟨rfl, rfl, (congrArg (fun b => some (Value.bool b)) (by simp only [goodR, p28, p38, p46, p69, p77, p88, p94, h28, h38, h46, h69, h77, h88, h94, Int.reduceEq, reduceIte, if_true, if_false, decide_true, decide_false, bS])), trivial⟩ (by rw [keepR, if_neg p38, if_neg p46, if_neg p69, if_pos p77]; rfl) rfl
         ·refine go 9 ?_
          exact q_cut ⟨rfl, rfl, (congrArg (fun b => some (Value.bool b)) (by simp only [goodR, p28, p38, p46, p69, p77, p88, p94, h28, h38, h46, h69, h77, h88, h94, Int.reduceEq, reduceIte, if_true, if_false, decide_true, decide_false, bS])), trivial⟩ (by rw [keepR, if_neg p38, if_neg p46, if_neg p69, if_pos p77]; rfl) rfl
        ·refine go 15 ?_
         exact q_cut ⟨rfl, rfl, (congrArg (fun b => some (Value.bool b)) (by simp only [goodR, p28, p38, p46, p69, p77, p88, h28, h38, h46, h69, h77, h88, Int.reduceEq, reduceIte, if_true, if_false, decide_true, decide_false, bS])), trivial⟩ (by rw [keepR, if_neg p38, if_neg p46, if_neg p69, if_pos p77]; rfl) rfl
       ·refine go 3 ?_
        exact q_cut ⟨rfl, rfl, (congrArg (fun b => some (Value.bool b)) (by simp only [goodR, p28, p38, p46, p69, p77, h28, h38, h46, h69, h77, Int.reduceEq, reduceIte, if_true, if_false, decide_true, decide_false, bS])), trivial⟩ (by rw [keepR, if_neg p38, if_neg p46, if_neg p69, if_neg p77]; rfl) rfl
   ·refine go 4 ?_
    refine sxb 101 rfl (fun h101 p101 => ?_) (fun h101 p101 => ?_)
    ·refine go 2 ?_
     refine o_cons (o_yes rfl rfl h101 (o_val rfl (v_steql T.eqg_53 (eqS_Evt (keepR e) e) rfl rfl) ?_))
     refine go 5 ?_
     refine fin1 rfl rfl ?_
     exact q_v (congrArg Value.bool (by rw [← validER_eq]; simp only [validER, h28, h101, bS]))
    ·refine go 8 ?_
     refine fin1 rfl rfl ?_
     exact q_v (congrArg Value.bool (by rw [← validER_eq]; simp only [validER, h28, h101, bS]))

theorem ref08get (I : IMap) (v : Value) (l : List Kind) (hv : RdS I v l) (k s : ByteArray) :
    FnE Tryz.prog 149 #[.agg #[v], .string k, .string s] I (SlotIs I (slotF l k s)) := by
 refine enter Tryz.func149 Tryz.call149 rfl Tryz.ntmps149 rfl (fun w0 => ?_)
 refine go 3 ?_
 refine o_box _ rfl rfl rfl (fun g3 => ?_)
 refine go 1 ?_
 refine o_alloc he rfl (fun g6 => ?_)
 refine go 8 ?_
 refine o_callE (refFind I _ l hv k) rfl rfl (fun v14 q14 => ?_)
 obtain ⟨vs, rfl, ss, rfl, hsl⟩ := q14
 obtain ⟨A, c0, rfl, hA, hc, hm⟩ := hsl
 refine go 4 ?_
 refine o_alloc he rfl (fun g8 => ?_)
 refine go 1 ?_
 refine o_stw _ he rfl rfl rfl rfl rfl (by rfl) ?_
 refine go 10 ?_
 refine bring2 ?_
 refine sx_drop ?_
 refine c_loop (α := Nat) 0 (fun i => I)
  (fun i => [(2, .string s), (6, .pointer (some ⟨g6, 0, none⟩)), (8, .pointer (some ⟨g8, 0, none⟩)), (10, .int .i64 ((i : Nat) : Int))])
  (fun i => [.blk g8 87 (((findK l k).getD zKind).cells (.slice A ((findK l k).getD zKind).slots.length c0)), .blk g6 103 [.string ⟨#[]⟩, .slice none 0 0, .int .i64 0]])
  (fun i => i ≤ ((findK l k).getD zKind).slots.length ∧ ∀ j x, j < i → ((findK l k).getD zKind).slots[j]? = some x → (fun x => decide (Slot.name x = s)) x = false)
  (fun i => ((findK l k).getD zKind).slots.length - i) ⟨Nat.zero_le _, fun j x hj => absurd hj (Nat.not_lt_zero j)⟩ rfl sb rfl ?_
 intro i ⟨hi, hn⟩
 refine go 10 ?_
 refine cb rfl (fun h21 p21 => ?_) (fun h21 p21 => ?_)
 ·have hlt : i < ((findK l k).getD zKind).slots.length := by omega
  refine go 9 ?_
  obtain ⟨b27, o27, w27, e27, c27, r27⟩ := RdA.at_ hA (i := i) hlt
  obtain ⟨q27, rfl, B27, d27, rfl, hB27, hd27, hm27⟩ := r27
  refine o_v rfl (v_idx he rfl rfl e27 (i) (by omega) hlt) ?_
  refine go 1 ?_
  refine o_v rfl (v_ldI he rfl (c27 0 _ rfl)) ?_
  refine go 4 ?_
  refine cb rfl (fun h31 p31 => ?_) (fun h31 p31 => ?_)
  ·refine go 5 ?_
   obtain ⟨b35, o35, w35, e35, c35, r35⟩ := RdA.at_ hA (i := i) hlt
   obtain ⟨q35, rfl, B35, d35, rfl, hB35, hd35, hm35⟩ := r35
   refine o_v rfl (v_idx he rfl rfl e35 (i) (by omega) hlt) ?_
   refine o_v rfl (v_ldIa he rfl c35 rfl) ?_
   refine go 1 ?_
   refine bring1 ?_
   refine o_stw _ he rfl rfl rfl rfl rfl rfl ?_
   refine go 9 ?_
   refine fin2 rfl ⟨_, _, _, rfl, m0, .inr ⟨_, he, rfl, rfl⟩⟩ rfl ?_
   exact q_e (SlotIs.of (find_at (p := fun x => decide (Slot.name x = s)) hlt h31 hn) ⟨_, rfl, B35, d35, rfl, hB35, hd35, hm35⟩)
  ·refine go 9 ?_
   exact q_next (i + 1) ⟨by omega, idx_next (p := fun x => decide (Slot.name x = s)) hn hlt h31⟩ (by omega) rfl sb rfl
 ·refine go 8 ?_
  refine o_val rfl (v_build (pl := [(0, 1), (1, 1), (2, 1)]) he he rfl rfl) ?_
  refine go 1 ?_
  refine bring1 ?_
  refine o_stw _ he rfl rfl rfl rfl rfl rfl ?_
  refine go 4 ?_
  refine fin2 rfl ⟨_, _, _, rfl, m0, .inr ⟨_, he, rfl, rfl⟩⟩ rfl ?_
  exact q_e (SlotIs.none (find_no (p := fun x => decide (Slot.name x = s)) (fun j x hj => hn j x (by omega))))

theorem ref08Takes (I : IMap) (v : Value) (l : List Kind) (hv : RdS I v l) (k s p : ByteArray) :
    FnV Tryz.prog 115 #[.agg #[v], .string k, .string s, .string p] I (.bool (takesF l k s p)) := by
 refine enter Tryz.func115 Tryz.call115 rfl Tryz.ntmps115 rfl (fun w0 => ?_)
 refine go 3 ?_
 refine o_box _ rfl rfl rfl (fun g4 => ?_)
 refine go 9 ?_
 refine o_callE (ref08get I _ l hv k s) rfl rfl (fun v15 q15 => ?_)
 obtain ⟨vs, rfl, ss, rfl, hsl⟩ := q15
 refine go 4 ?_
 refine o_alloc he rfl (fun g9 => ?_)
 refine go 1 ?_
 refine o_stw _ he rfl rfl rfl rfl rfl (by simp [Slot.cells, hsl.one]; exact ⟨rfl, rfl⟩) ?_
 refine go 7 ?_
 refine sxb 19 rfl (fun h19 p19 => ?_) (fun h19 p19 => ?_)
 ·refine go 4 ?_
  refine o_yes rfl rfl h19 (o_callV (in08 I _ _ p hsl) rfl rfl ?_)
  refine go 5 ?_
  refine fin1 rfl rfl ?_
  exact q_v (congrArg Value.bool (by revert h19; unfold takesF; cases slotF l k s <;> simp))
 ·refine go 9 ?_
  refine fin1 rfl rfl ?_
  exact q_v (congrArg Value.bool (by revert h19; unfold takesF; cases slotF l k s <;> simp))

theorem ref10amount (I : IMap) (x : Ivl) :
    FnV Tryz.prog 148 #[.agg x.cells.toArray] I (.bool (lifeOk x)) := by
 refine enter Tryz.func148 Tryz.call148 rfl Tryz.ntmps148 rfl (fun w0 => ?_)
 refine go 3 ?_
 refine o_box _ rfl rfl rfl (fun g1 => ?_)
 refine go 9 ?_
 refine sxb 6 rfl (fun h6 p6 => ?_) (fun h6 p6 => ?_)
 ·refine go 7 ?_
  refine sxb 13 rfl (fun h13 p13 => ?_) (fun h13 p13 => ?_)
  ·refine go 8 ?_
   refine fin1 rfl rfl ?_
   exact q_v (congrArg Value.bool (by simp only [lifeOk, h6, h13, bS]))
  ·refine go 8 ?_
   refine fin1 rfl rfl ?_
   exact q_v (congrArg Value.bool (by simp only [lifeOk, h6, h13, bS]))
 ·refine go 15 ?_
  refine fin1 rfl rfl ?_
  exact q_v (congrArg Value.bool (by simp only [lifeOk, h6, bS]))

theorem ref10own (I : IMap) (v : Value) (l : List Kind) (hv : RdS I v l) (p : Part) (D : Option Addr) (d : Nat) (hD : RdS I (.slice D p.props.length d) p.props) (hs : SmP p) :
    FnV Tryz.prog 113 #[.agg #[v], .agg (p.cells (.slice D p.props.length d)).toArray] I (.bool (rightP l p)) := by
 have hDA : RdA I D p.props := (by obtain ⟨_, _, e, h, _⟩ := hD; cases e; exact h)
 have hDl : p.props.length ≤ d ∧ d ≤ 9223372036854775807 := (by obtain ⟨_, _, e, h, h1, h2⟩ := hD; cases e; exact ⟨h1, h2⟩)
 refine enter Tryz.func113 Tryz.call113 rfl Tryz.ntmps113 rfl (fun w0 => ?_)
 refine go 3 ?_
 refine o_box _ rfl rfl rfl (fun g2 => ?_)
 refine go 1 ?_
 refine o_box _ rfl rfl rfl (fun g3 => ?_)
 refine go 9 ?_
 refine o_callE (refFind I _ l hv p.kind) rfl rfl (fun v13 q13 => ?_)
 obtain ⟨vs, rfl, ss, rfl, hsl⟩ := q13
 refine go 4 ?_
 refine o_alloc he rfl (fun g5 => ?_)
 refine go 1 ?_
 refine o_stw _ he rfl rfl rfl rfl rfl (by simp [Kind.cells, hsl.one]; exact ⟨rfl, rfl⟩) ?_
 refine go 5 ?_
 refine c_cut (I' := I) (L' := [(2, .pointer (some ⟨g2, 0, none⟩)), (3, .pointer (some ⟨g3, 0, none⟩)), (46, .bool (ownBadR l p))]) (H' := [.blk g3 124 (p.cells (.slice D p.props.length d)), .blk g2 24 [v]]) ?_ ?_
 ·refine go 4 ?_
  refine sxb 18 rfl (fun h18 p18 => ?_) (fun h18 p18 => ?_)
  ·refine go 30 ?_
   refine sx_drop ?_
   exact q_cut ⟨rfl, rfl, (congrArg (fun b => some (Value.bool b)) (by simp only [ownBadR, h18, bS])), trivial⟩ rfl rfl
  ·refine go 3 ?_
   refine o_yes rfl rfl h18 (o_callV (name05 _ _ hs.1) rfl rfl ?_)
   refine go 3 ?_
   refine sxb 24 rfl (fun h24 p24 => ?_) (fun h24 p24 => ?_)
   ·refine go 24 ?_
    refine sx_drop ?_
    exact q_cut ⟨rfl, rfl, (congrArg (fun b => some (Value.bool b)) (by simp only [ownBadR, h18, h24, bS])), trivial⟩ rfl rfl
   ·refine go 5 ?_
    refine sxb 29 rfl (fun h29 p29 => ?_) (fun h29 p29 => ?_)
    ·refine go 19 ?_
     refine sx_drop ?_
     exact q_cut ⟨rfl, rfl, (congrArg (fun b => some (Value.bool b)) (by simp only [ownBadR, h18, h24, h29, bS])), trivial⟩ rfl rfl
    ·refine go 7 ?_
     refine sxb 36 rfl (fun h36 p36 => ?_) (fun h36 p36 => ?_)
     ·refine go 12 ?_
      refine sx_drop ?_
      exact q_cut ⟨rfl, rfl, (congrArg (fun b => some (Value.bool b)) (by simp only [ownBadR, h18, h24, h29, h36, bS])), trivial⟩ rfl rfl
     ·refine go 5 ?_
      refine sxb 41 rfl (fun h41 p41 => ?_) (fun h41 p41 => ?_)
      ·refine go 7 ?_
       refine sx_drop ?_
       exact q_cut ⟨rfl, rfl, (congrArg (fun b => some (Value.bool b)) (by simp only [ownBadR, h18, h24, h29, h36, h41, bS])), trivial⟩ rfl rfl
      ·refine go 7 ?_
       refine sx_drop ?_
       exact q_cut ⟨rfl, rfl, (congrArg (fun b => some (Value.bool b)) (by simp only [ownBadR, h18, h24, h29, h36, h41, bS])), trivial⟩ rfl rfl
 ·refine cb rfl (fun h46 p46 => ?_) (fun h46 p46 => ?_)
  ·refine go 7 ?_
   refine fin1 rfl rfl ?_
   exact q_v (congrArg Value.bool (by rw [← ownR_eq]; simp only [ownR, h46]; rfl))
  ·refine go 9 ?_
   refine c_loop (α := Nat) 0 (fun i => I)
    (fun i => [(2, .pointer (some ⟨g2, 0, none⟩)), (3, .pointer (some ⟨g3, 0, none⟩)), (7, .int .i64 ((i : Nat) : Int))])
    (fun i => [.blk g3 124 (p.cells (.slice D p.props.length d)), .blk g2 24 [v]])
    (fun i => i ≤ p.props.length ∧ allP propR p.props i = true)
    (fun i => p.props.length - i) ⟨Nat.zero_le _, rfl⟩ rfl sb rfl ?_
   intro i ⟨hi, hn⟩
   refine go 10 ?_
   refine cb rfl (fun h51 p51 => ?_) (fun h51 p51 => ?_)
   ·have hlt : i < p.props.length := by omega
    refine go 9 ?_
    obtain ⟨b57, o57, w57, e57, c57, r57⟩ := RdA.at_ hDA (i := i) hlt
    obtain rfl := r57
    refine o_v rfl (v_idx he rfl rfl e57 (i) (by omega) hlt) ?_
    refine o_v rfl (v_ldIa he rfl c57 rfl) ?_
    refine go 1 ?_
    refine o_alloc he rfl (fun g8 => ?_)
    refine go 1 ?_
    refine o_stw _ he rfl rfl rfl rfl rfl rfl ?_
    refine go 3 ?_
    refine c_cut (I' := I) (L' := [(2, .pointer (some ⟨g2, 0, none⟩)), (3, .pointer (some ⟨g3, 0, none⟩)), (7, .int .i64 ((i : Nat) : Int)), (90, .bool (((!nameRef p.props[i].key || decide (((p.props[i].value.size : Nat) : Int) < 1)) || decide ((200 : Int) < (p.props[i].value.size : Nat))) || notAfter Prp.key (p.props.take i) p.props[i]))]) (H' := [.blk g3 124 (p.cells (.slice D p.props.length d)), .blk g2 24 [v]]) ?_ ?_
    ·refine d_startH T.mixed ?_
     refine d_tv 0 rfl rfl (by kernel_rfl) rfl (.refl _) rfl (v_fieldAddr he rfl) ?_
     refine d_tv 1 rfl rfl (by kernel_rfl) rfl (.refl _) rfl (v_ld m0 he rfl rfl) ?_
     refine d_one 2 (by kernel_rfl) rfl ?_
     refine o_callV (name05 _ _ (hs.2 _ (List.getElem_mem hlt))) rfl rfl ?_
     refine d_on (fun _ m => m.keeps (.refl _)) ?_
     refine d_tv 3 rfl rfl (by kernel_rfl) rfl (.refl _) rfl (v_not rfl) ?_
     refine d_tv 4 rfl rfl (by kernel_rfl) rfl (.refl _) rfl (v_move rfl) ?_
     refine sxb 63 rfl (fun h63 p63 => ?_) (fun h63 p63 => ?_)
     ·refine d_t 5 rfl rfl (by kernel_rfl) rfl (fun _ m => m.keeps (.refl _)) (y_no rfl rfl h63) ?_
      refine d_t 6 rfl rfl (by kernel_rfl) rfl (fun _ m => m.keeps (.refl _)) (y_no rfl rfl h63) ?_
      refine d_t 7 rfl rfl (by kernel_rfl) rfl (fun _ m => m.keeps (.refl _)) (y_no rfl rfl h63) ?_
      refine d_t 8 rfl rfl (by kernel_rfl) rfl (fun _ m => m.keeps (.refl _)) (y_no rfl rfl h63) ?_
      refine d_tv 9 rfl rfl (by kernel_rfl) rfl (.refl _) rfl (v_or_t h63 rfl) ?_
      refine d_tv 10 rfl rfl (by kernel_rfl) rfl (.refl _) rfl (v_move rfl) ?_
      refine d_t 11 rfl rfl (by kernel_rfl) rfl (fun _ m => m.keeps (.refl _)) (y_no rfl rfl rfl) ?_
      refine d_t 12 rfl rfl (by kernel_rfl) rfl (fun _ m => m.keeps (.refl _)) (y_no rfl rfl rfl) ?_
      refine d_t 13 rfl rfl (by kernel_rfl) rfl (fun _ m => m.keeps (.refl _)) (y_no rfl rfl rfl) ?_
      refine d_t 14 rfl rfl (by kernel_rfl) rfl (fun _ m => m.keeps (.refl _)) (y_no rfl rfl rfl) ?_
      refine d_tv 15 rfl rfl (by kernel_rfl) rfl (.refl _) rfl (v_or_t rfl rfl) ?_
      refine d_tv 16 rfl rfl (by kernel_rfl) rfl (.refl _) rfl (v_move rfl) ?_
      refine d_t 17 rfl rfl (by kernel_rfl) rfl (fun _ m => m.keeps (.refl _)) (y_no rfl rfl rfl) ?_
      refine d_t 18 rfl rfl (by kernel_rfl) rfl (fun _ m => m.keeps (.refl _)) (y_no rfl rfl rfl) ?_
      refine d_t 19 rfl rfl (by kernel_rfl) rfl (fun _ m => m.keeps (.refl _)) (y_no rfl rfl rfl) ?_
      refine d_t 20 rfl rfl (by kernel_rfl) rfl (fun _ m => m.keeps (.refl _)) (y_nou rfl rfl) ?_
      refine d_t 21 rfl rfl (by kernel_rfl) rfl (fun _ m => m.keeps (.refl _)) (y_nou rfl rfl) ?_
      refine d_t 22 rfl rfl (by kernel_rfl) rfl (fun _ m => m.keeps (.refl _)) (y_nou rfl rfl) ?_
      refine d_t 23 rfl rfl (by kernel_rfl) rfl (fun _ m => m.keeps (.refl _)) (y_nou rfl rfl) ?_
      refine d_t 24 rfl rfl (by kernel_rfl) rfl (fun _ m => m.keeps (.refl _)) (y_nou rfl rfl) ?_
      refine d_t 25 rfl rfl (by kernel_rfl) rfl (fun _ m => m.keeps (.refl _)) (y_nou rfl rfl) ?_
      refine d_t 26 rfl rfl (by kernel_rfl) rfl (fun _ m => m.keeps (.refl _)) (y_nou rfl rfl) ?_
      refine d_t 27 rfl rfl (by kernel_rfl) rfl (fun _ m => m.keeps (.refl _)) (y_nou rfl rfl) ?_
      refine d_t 28 rfl rfl (by kernel_rfl) rfl (fun _ m => m.keeps (.refl _)) (y_nou rfl rfl) ?_
      refine d_t 29 rfl rfl (by kernel_rfl) rfl (fun _ m => m.keeps (.refl _)) (y_nou rfl rfl) ?_
      refine d_t 30 rfl rfl (by kernel_rfl) rfl (fun _ m => m.keeps (.refl _)) (y_no rfl rfl rfl) ?_
      refine d_tv 31 rfl rfl (by kernel_rfl) rfl (.refl _) rfl (v_or_t rfl rfl) ?_
      refine d_done (by kernel_rfl) ?_
      refine go 1 ?_
      refine sx_drop ?_
      exact q_cut ⟨rfl, rfl, rfl, (congrArg (fun b => some (Value.bool b)) (by first | (simp only [h51, h63, bS]; done) | (simp only [notAfter_at (nm := Prp.key) h0i hlt, h51, h63, bS]; done) | (simp only [notAfter_zero (nm := Prp.key) (l := p.props) h0i, h51, h63, bS]; done))), trivial⟩ rfl rfl
     ·refine d_t 5 rfl rfl (by kernel_rfl) rfl (fun _ m => m.keeps (.refl _)) (y_yes rfl rfl h63 (v_fieldAddr he rfl)) ?_
      refine d_t 6 rfl rfl (by kernel_rfl) rfl (fun _ m => m.keeps (.refl _)) (y_yes rfl rfl h63 (v_ld m0 he rfl rfl)) ?_
      refine d_t 7 rfl rfl (by kernel_rfl) rfl (fun _ m => m.keeps (.refl _)) (y_yes rfl rfl h63 (v_len_str he rfl)) ?_
      refine d_t 8 rfl rfl (by kernel_rfl) rfl (fun _ m => m.keeps (.refl _)) (y_yes rfl rfl h63 (v_lss rfl rfl)) ?_
      refine d_tv 9 rfl rfl (by kernel_rfl) rfl (.refl _) rfl (v_or_f h63 rfl rfl) ?_
      refine d_tv 10 rfl rfl (by kernel_rfl) rfl (.refl _) rfl (v_move rfl) ?_
      refine sxb 69 rfl (fun h69 p69 => ?_) (fun h69 p69 => ?_)
      ·refine d_t 11 rfl rfl (by kernel_rfl) rfl (fun _ m => m.keeps (.refl _)) (y_no rfl rfl h69) ?_
       refine d_t 12 rfl rfl (by kernel_rfl) rfl (fun _ m => m.keeps (.refl _)) (y_no rfl rfl h69) ?_
       refine d_t 13 rfl rfl (by kernel_rfl) rfl (fun _ m => m.keeps (.refl _)) (y_no rfl rfl h69) ?_
       refine d_t 14 rfl rfl (by kernel_rfl) rfl (fun _ m => m.keeps (.refl _)) (y_no rfl rfl h69) ?_
       refine d_tv 15 rfl rfl (by kernel_rfl) rfl (.refl _) rfl (v_or_t h69 rfl) ?_
       refine d_tv 16 rfl rfl (by kernel_rfl) rfl (.refl _) rfl (v_move rfl) ?_
       refine d_t 17 rfl rfl (by kernel_rfl) rfl (fun _ m => m.keeps (.refl _)) (y_no rfl rfl rfl) ?_
       refine d_t 18 rfl rfl (by kernel_rfl) rfl (fun _ m => m.keeps (.refl _)) (y_no rfl rfl rfl) ?_
       refine d_t 19 rfl rfl (by kernel_rfl) rfl (fun _ m => m.keeps (.refl _)) (y_no rfl rfl rfl) ?_
       refine d_t 20 rfl rfl (by kernel_rfl) rfl (fun _ m => m.keeps (.refl _)) (y_nou rfl rfl) ?_
       refine d_t 21 rfl rfl (by kernel_rfl) rfl (fun _ m => m.keeps (.refl _)) (y_nou rfl rfl) ?_
       refine d_t 22 rfl rfl (by kernel_rfl) rfl (fun _ m => m.keeps (.refl _)) (y_nou rfl rfl) ?_
       refine d_t 23 rfl rfl (by kernel_rfl) rfl (fun _ m => m.keeps (.refl _)) (y_nou rfl rfl) ?_
       refine d_t 24 rfl rfl (by kernel_rfl) rfl (fun _ m => m.keeps (.refl _)) (y_nou rfl rfl) ?_
       refine d_t 25 rfl rfl (by kernel_rfl) rfl (fun _ m => m.keeps (.refl _)) (y_nou rfl rfl) ?_
       refine d_t 26 rfl rfl (by kernel_rfl) rfl (fun _ m => m.keeps (.refl _)) (y_nou rfl rfl) ?_
       refine d_t 27 rfl rfl (by kernel_rfl) rfl (fun _ m => m.keeps (.refl _)) (y_nou rfl rfl) ?_
       refine d_t 28 rfl rfl (by kernel_rfl) rfl (fun _ m => m.keeps (.refl _)) (y_nou rfl rfl) ?_
       refine d_t 29 rfl rfl (by kernel_rfl) rfl (fun _ m => m.keeps (.refl _)) (y_nou rfl rfl) ?_
       refine d_t 30 rfl rfl (by kernel_rfl) rfl (fun _ m => m.keeps (.refl _)) (y_no rfl rfl rfl) ?_
       refine d_tv 31 rfl rfl (by kernel_rfl) rfl (.refl _) rfl (v_or_t rfl rfl) ?_
       refine d_done (by kernel_rfl) ?_
       refine go 1 ?_
       refine sx_drop ?_
       exact q_cut ⟨rfl, rfl, rfl, (congrArg (fun b => some (Value.bool b)) (by first | (simp only [h51, h63, h69, bS]; done) | (simp only [notAfter_at (nm := Prp.key) h0i hlt, h51, h63, h69, bS]; done) | (simp only [notAfter_zero (nm := Prp.key) (l := p.props) h0i, h51, h63, h69, bS]; done))), trivial⟩ rfl rfl
      ·refine d_t 11 rfl rfl (by kernel_rfl) rfl (fun _ m => m.keeps (.refl _)) (y_yes rfl rfl h69 (v_fieldAddr he rfl)) ?_
       refine d_t 12 rfl rfl (by kernel_rfl) rfl (fun _ m => m.keeps (.refl _)) (y_yes rfl rfl h69 (v_ld m0 he rfl rfl)) ?_
       refine d_t 13 rfl rfl (by kernel_rfl) rfl (fun _ m => m.keeps (.refl _)) (y_yes rfl rfl h69 (v_len_str he rfl)) ?_
       refine d_t 14 rfl rfl (by kernel_rfl) rfl (fun _ m => m.keeps (.refl _)) (y_yes rfl rfl h69 (v_gtr rfl rfl)) ?_
       refine d_tv 15 rfl rfl (by kernel_rfl) rfl (.refl _) rfl (v_or_f h69 rfl rfl) ?_
       refine d_tv 16 rfl rfl (by kernel_rfl) rfl (.refl _) rfl (v_move rfl) ?_
       refine sxb 75 rfl (fun h75 p75 => ?_) (fun h75 p75 => ?_)
       ·refine d_t 17 rfl rfl (by kernel_rfl) rfl (fun _ m => m.keeps (.refl _)) (y_no rfl rfl h75) ?_
        refine d_t 18 rfl rfl (by kernel_rfl) rfl (fun _ m => m.keeps (.refl _)) (y_no rfl rfl h75) ?_
        refine d_t 19 rfl rfl (by kernel_rfl) rfl (fun _ m => m.keeps (.refl _)) (y_no rfl rfl h75) ?_
        refine d_t 20 rfl rfl (by kernel_rfl) rfl (fun _ m => m.keeps (.refl _)) (y_nou rfl rfl) ?_
        refine d_t 21 rfl rfl (by kernel_rfl) rfl (fun _ m => m.keeps (.refl _)) (y_nou rfl rfl) ?_
        refine d_t 22 rfl rfl (by kernel_rfl) rfl (fun _ m => m.keeps (.refl _)) (y_nou rfl rfl) ?_
        refine d_t 23 rfl rfl (by kernel_rfl) rfl (fun _ m => m.keeps (.refl _)) (y_nou rfl rfl) ?_
        refine d_t 24 rfl rfl (by kernel_rfl) rfl (fun _ m => m.keeps (.refl _)) (y_nou rfl rfl) ?_
        refine d_t 25 rfl rfl (by kernel_rfl) rfl (fun _ m => m.keeps (.refl _)) (y_nou rfl rfl) ?_
        refine d_t 26 rfl rfl (by kernel_rfl) rfl (fun _ m => m.keeps (.refl _)) (y_nou rfl rfl) ?_
        refine d_t 27 rfl rfl (by kernel_rfl) rfl (fun _ m => m.keeps (.refl _)) (y_nou rfl rfl) ?_
        refine d_t 28 rfl rfl (by kernel_rfl) rfl (fun _ m => m.keeps (.refl _)) (y_nou rfl rfl) ?_
        refine d_t 29 rfl rfl (by kernel_rfl) rfl (fun _ m => m.keeps (.refl _)) (y_nou rfl rfl) ?_
        refine d_t 30 rfl rfl (by kernel_rfl) rfl (fun _ m => m.keeps (.refl _)) (y_no rfl rfl h75) ?_
        refine d_tv 31 rfl rfl (by kernel_rfl) rfl (.refl _) rfl (v_or_t h75 rfl) ?_
        refine d_done (by kernel_rfl) ?_
        refine go 1 ?_
        refine sx_drop ?_
        exact q_cut ⟨rfl, rfl, rfl, (congrArg (fun b => some (Value.bool b)) (by first | (simp only [h51, h63, h69, h75, bS]; done) | (simp only [notAfter_at (nm := Prp.key) h0i hlt, h51, h63, h69, h75, bS]; done) | (simp only [notAfter_zero (nm := Prp.key) (l := p.props) h0i, h51, h63, h69, h75, bS]; done))), trivial⟩ rfl rfl
       ·refine d_t 17 rfl rfl (by kernel_rfl) rfl (fun _ m => m.keeps (.refl _)) (y_yes rfl rfl h75 (v_move rfl)) ?_
        refine d_t 18 rfl rfl (by kernel_rfl) rfl (fun _ m => m.keeps (.refl _)) (y_yes rfl rfl h75 (v_gtr rfl rfl)) ?_
        refine d_t 19 rfl rfl (by kernel_rfl) rfl (fun _ m => m.keeps (.refl _)) (y_yes rfl rfl h75 (v_move rfl)) ?_
        refine sxb 78 rfl (fun h78 p78 => ?_) (fun h78 p78 => ?_)
        ·have h0i : 0 < i := by omega
         refine d_t 20 rfl rfl (by kernel_rfl) rfl (fun _ m => m.keeps (.refl _)) (y_yes rfl rfl h78 (v_fieldAddr he rfl)) ?_
         refine d_t 21 rfl rfl (by kernel_rfl) rfl (fun _ m => m.keeps (.refl _)) (y_yes rfl rfl h78 (v_ld m1 he rfl rfl)) ?_
         refine d_t 22 rfl rfl (by kernel_rfl) rfl (fun _ m => m.keeps (.refl _)) (y_yes rfl rfl h78 (v_move rfl)) ?_
         refine d_t 23 rfl rfl (by kernel_rfl) rfl (fun _ m => m.keeps (.refl _)) (y_yes rfl rfl h78 (OV.cast (u := .int .i64 ((i - 1 : Nat) : Int)) (v_sub rfl rfl ⟨by omega, by omega⟩) (congrArg (Value.int .i64) (by omega)))) ?_
         obtain ⟨b83, o83, w83, e83, c83, r83⟩ := RdA.at_ hDA (i := i - 1) (by omega)
         obtain rfl := r83
         refine d_t 24 rfl rfl (by kernel_rfl) rfl (fun _ m => m.keeps (.refl _)) (y_yes rfl rfl h78 (v_idx he rfl rfl e83 (i - 1) (by omega) (by omega))) ?_
         refine d_t 25 rfl rfl (by kernel_rfl) rfl (fun _ m => m.keeps (.refl _)) (y_yes rfl rfl h78 (v_fieldAddr he rfl)) ?_
         refine d_t 26 rfl rfl (by kernel_rfl) rfl (fun _ m => m.keeps (.refl _)) (y_yes rfl rfl h78 (v_ldI he rfl (c83 0 _ rfl))) ?_
         refine d_t 27 rfl rfl (by kernel_rfl) rfl (fun _ m => m.keeps (.refl _)) (y_yes rfl rfl h78 (v_fieldAddr he rfl)) ?_
         refine d_t 28 rfl rfl (by kernel_rfl) rfl (fun _ m => m.keeps (.refl _)) (y_yes rfl rfl h78 (v_ld m0 he rfl rfl)) ?_
         refine d_t 29 rfl rfl (by kernel_rfl) rfl (fun _ m => m.keeps (.refl _)) (y_yes rfl rfl h78 (v_sgeq rfl rfl)) ?_
         refine d_t 30 rfl rfl (by kernel_rfl) rfl (fun _ m => m.keeps (.refl _)) (y_yes rfl rfl h75 (v_and_t h78 rfl rfl)) ?_
         refine d_tv 31 rfl rfl (by kernel_rfl) rfl (.refl _) rfl (v_or_f h75 rfl rfl) ?_
         refine d_done (by kernel_rfl) ?_
         refine go 1 ?_
         refine sx_drop ?_
         exact q_cut ⟨rfl, rfl, rfl, (congrArg (fun b => some (Value.bool b)) (by first | (simp only [h51, h63, h69, h75, h78, bS]; done) | (simp only [notAfter_at (nm := Prp.key) h0i hlt, h51, h63, h69, h75, h78, bS]; done) | (simp only [notAfter_zero (nm := Prp.key) (l := p.props) h0i, h51, h63, h69, h75, h78, bS]; done))), trivial⟩ rfl rfl
        ·have h0i : ¬ 0 < i := by omega
         refine d_t 20 rfl rfl (by kernel_rfl) rfl (fun _ m => m.keeps (.refl _)) (y_no rfl rfl h78) ?_
         refine d_t 21 rfl rfl (by kernel_rfl) rfl (fun _ m => m.keeps (.refl _)) (y_no rfl rfl h78) ?_
         refine d_t 22 rfl rfl (by kernel_rfl) rfl (fun _ m => m.keeps (.refl _)) (y_no rfl rfl h78) ?_
         refine d_t 23 rfl rfl (by kernel_rfl) rfl (fun _ m => m.keeps (.refl _)) (y_no rfl rfl h78) ?_
         refine d_t 24 rfl rfl (by kernel_rfl) rfl (fun _ m => m.keeps (.refl _)) (y_no rfl rfl h78) ?_
         refine d_t 25 rfl rfl (by kernel_rfl) rfl (fun _ m => m.keeps (.refl _)) (y_no rfl rfl h78) ?_
         refine d_t 26 rfl rfl (by kernel_rfl) rfl (fun _ m => m.keeps (.refl _)) (y_no rfl rfl h78) ?_
         refine d_t 27 rfl rfl (by kernel_rfl) rfl (fun _ m => m.keeps (.refl _)) (y_no rfl rfl h78) ?_
         refine d_t 28 rfl rfl (by kernel_rfl) rfl (fun _ m => m.keeps (.refl _)) (y_no rfl rfl h78) ?_
         refine d_t 29 rfl rfl (by kernel_rfl) rfl (fun _ m => m.keeps (.refl _)) (y_no rfl rfl h78) ?_
         refine d_t 30 rfl rfl (by kernel_rfl) rfl (fun _ m => m.keeps (.refl _)) (y_yes rfl rfl h75 (v_and_f h78 rfl)) ?_
         refine d_tv 31 rfl rfl (by kernel_rfl) rfl (.refl _) rfl (v_or_f h75 rfl rfl) ?_
         refine d_done (by kernel_rfl) ?_
         refine go 1 ?_
         refine sx_drop ?_
         exact q_cut ⟨rfl, rfl, rfl, (congrArg (fun b => some (Value.bool b)) (by first | (simp only [h51, h63, h69, h75, h78, bS]; done) | (simp only [notAfter_at (nm := Prp.key) h0i hlt, h51, h63, h69, h75, h78, bS]; done) | (simp only [notAfter_zero (nm := Prp.key) (l := p.props) h0i, h51, h63, h69, h75, h78, bS]; done))), trivial⟩ rfl rfl
    ·refine cb rfl (fun h90 p90 => ?_) (fun h90 p90 => ?_)
     ·refine go 11 ?_
      refine fin1 rfl rfl ?_
      exact q_v (congrArg Value.bool (by rw [← ownR_eq]; simp only [ownR, h46, allP_not hlt (show propR (p.props.take i) p.props[i] = false by simp only [propR, h90]; rfl), bS]))
     ·refine go 9 ?_
      exact q_next (i + 1) ⟨by omega, allP_succ hn hlt (by simp only [propR, h90]; rfl)⟩ (by omega) rfl sb rfl
   ·have hAll : allP propR p.props p.props.length = true := (show i = p.props.length by omega) ▸ hn
    refine go 9 ?_
    refine o_v rfl (v_ldp (p.life.km.cells) m0 he rfl rfl rfl) ?_
    refine go 1 ?_
    refine o_callV (ref10amount _ p.life.km) rfl rfl ?_
    refine go 1 ?_
    refine sxb 95 rfl (fun h95 p95 => ?_) (fun h95 p95 => ?_)
    ·refine go 2 ?_
     refine o_cons (o_yes rfl rfl h95 (o_val rfl (v_ldp (p.life.cycles.cells) m0 he rfl rfl rfl) ?_))
     refine go 1 ?_
     refine o_yes rfl rfl h95 (o_callV (ref10amount _ p.life.cycles) rfl rfl ?_)
     refine go 2 ?_
     refine sxb 101 rfl (fun h101 p101 => ?_) (fun h101 p101 => ?_)
     ·refine go 2 ?_
      refine o_cons (o_yes rfl rfl h101 (o_val rfl (v_ldp (p.life.damage.cells) m0 he rfl rfl rfl) ?_))
      refine go 1 ?_
      refine o_yes rfl rfl h101 (o_callV (ref10amount _ p.life.damage) rfl rfl ?_)
      refine go 5 ?_
      refine fin1 rfl rfl ?_
      exact q_v (congrArg Value.bool (by rw [← ownR_eq]; simp only [ownR, h46, hAll, h51, h95, h101, bS]))
     ·refine go 9 ?_
      refine fin1 rfl rfl ?_
      exact q_v (congrArg Value.bool (by rw [← ownR_eq]; simp only [ownR, h46, hAll, h51, h95, h101, bS]))
    ·refine go 15 ?_
     refine fin1 rfl rfl ?_
     exact q_v (congrArg Value.bool (by rw [← ownR_eq]; simp only [ownR, h46, hAll, h51, h95, bS]))

theorem ref10At (I : IMap) (v : Value) (l : List Part) (hv : RdS I v l) (s : ByteArray) :
    FnV Tryz.prog 114 #[.agg #[v], .string s] I (.int .i64 (idxF (fun p : Part => decide (p.name = s)) l)) := by
 obtain ⟨A, c0, rfl, hA, hc, hm⟩ := hv
 refine enter Tryz.func114 Tryz.call114 rfl Tryz.ntmps114 rfl (fun w0 => ?_)
 refine go 3 ?_
 refine o_box _ rfl rfl rfl (fun g2 => ?_)
 refine go 10 ?_
 refine c_loop (α := Nat) 0 (fun i => I)
  (fun i => [(1, .string s), (2, .pointer (some ⟨g2, 0, none⟩)), (5, .int .i64 ((i : Nat) : Int))])
  (fun i => [.blk g2 69 [.slice A l.length c0]])
  (fun i => i ≤ l.length ∧ ∀ j x, j < i → l[j]? = some x → (fun p : Part => decide (p.name = s)) x = false)
  (fun i => l.length - i) ⟨Nat.zero_le _, fun j x hj => absurd hj (Nat.not_lt_zero j)⟩ rfl sb rfl ?_
 intro i ⟨hi, hn⟩
 refine go 10 ?_
 refine cb rfl (fun h10 p10 => ?_) (fun h10 p10 => ?_)
 ·have hlt : i < l.length := by omega
  refine go 9 ?_
  obtain ⟨b16, o16, w16, e16, c16, r16⟩ := RdA.at_ hA (i := i) hlt
  obtain ⟨q16, rfl, B16, d16, rfl, hB16, hd16, hm16⟩ := r16
  refine o_v rfl (v_idx he rfl rfl e16 (i) (by omega) hlt) ?_
  refine go 1 ?_
  refine o_v rfl (v_ldI he rfl (c16 0 _ rfl)) ?_
  refine go 4 ?_
  refine cb rfl (fun h20 p20 => ?_) (fun h20 p20 => ?_)
  ·refine go 12 ?_
   refine fin1 rfl rfl ?_
   exact q_v (congrArg (Value.int .i64) (idxF_found (p := (fun p : Part => decide (p.name = s))) hlt h20 hn).symm)
  ·refine go 9 ?_
   exact q_next (i + 1) ⟨by omega, idx_next (p := (fun p : Part => decide (p.name = s))) hn hlt h20⟩ (by omega) rfl sb rfl
 ·refine go 11 ?_
  refine fin1 rfl rfl ?_
  exact q_v (congrArg (Value.int .i64) (idxF_none (p := (fun p : Part => decide (p.name = s))) (fun j x hj => hn j x (by omega))).symm)

theorem ref10Valid (I : IMap) (vc : Value) (c : List Kind) (hvc : RdS I vc c) (hsc : SmC c) (v : Value) (l : List Part) (hv : RdS I v l) (hsf : SmF l) :
    FnV Tryz.prog 84 #[.agg #[vc], .agg #[v]] I (.bool (validS c l)) := by
 have hv0 := hv
 obtain ⟨A, c0, rfl, hA, hc, hm⟩ := hv
 refine enter Tryz.func84 Tryz.call84 rfl Tryz.ntmps84 rfl (fun w0 => ?_)
 refine go 3 ?_
 refine o_box _ rfl rfl rfl (fun g2 => ?_)
 refine go 1 ?_
 refine o_box _ rfl rfl rfl (fun g3 => ?_)
 refine go 5 ?_
 refine c_cut (I' := I) (L' := [(2, .pointer (some ⟨g2, 0, none⟩)), (3, .pointer (some ⟨g3, 0, none⟩)), (17, .bool (!validR c || decide ((20000 : Int) < (l.length : Nat))))]) (H' := [.blk g3 69 [.slice A l.length c0], .blk g2 24 [vc]]) ?_ ?_
 ·refine go 3 ?_
  refine o_callV (refValid _ vc c hvc hsc) rfl rfl ?_
  refine go 2 ?_
  refine sxb 12 rfl (fun h12 p12 => ?_) (fun h12 p12 => ?_)
  ·refine go 7 ?_
   exact q_cut ⟨rfl, rfl, (congrArg (fun b => some (Value.bool b)) (by simp only [h12, bS])), trivial⟩ rfl rfl
  ·refine go 7 ?_
   exact q_cut ⟨rfl, rfl, (congrArg (fun b => some (Value.bool b)) (by simp only [h12, bS])), trivial⟩ rfl rfl
 ·refine cb rfl (fun h17 p17 => ?_) (fun h17 p17 => ?_)
  ·refine go 7 ?_
   refine fin1 rfl rfl ?_
   exact q_v (congrArg Value.bool (by rw [← validSR_eq]; simp only [validSR, h17]; rfl))
  ·refine go 9 ?_
   refine c_loop (α := Nat) 0 (fun i => I)
    (fun i => [(2, .pointer (some ⟨g2, 0, none⟩)), (3, .pointer (some ⟨g3, 0, none⟩)), (5, .int .i64 ((i : Nat) : Int))])
    (fun i => [.blk g3 69 [.slice A l.length c0], .blk g2 24 [vc]])
    (fun i => i ≤ l.length ∧ allP (partR c l) l i = true)
    (fun i => l.length - i) ⟨Nat.zero_le _, rfl⟩ rfl sb rfl ?_
   intro i ⟨hi, hn⟩
   refine go 10 ?_
   refine cb rfl (fun h22 p22 => ?_) (fun h22 p22 => ?_)
   ·have hlt : i < l.length := by omega
    refine go 9 ?_
    obtain ⟨b28, o28, w28, e28, c28, r28⟩ := RdA.at_ hA (i := i) hlt
    obtain ⟨q28, rfl, B28, d28, rfl, hB28, hd28, hm28⟩ := r28
    refine o_v rfl (v_idx he rfl rfl e28 (i) (by omega) hlt) ?_
    refine o_v rfl (v_ldIa he rfl c28 rfl) ?_
    refine go 1 ?_
    refine o_alloc he rfl (fun g6 => ?_)
    refine go 1 ?_
    refine o_stw _ he rfl rfl rfl rfl rfl rfl ?_
    refine go 4 ?_
    refine c_cut (I' := I) (L' := [(2, .pointer (some ⟨g2, 0, none⟩)), (3, .pointer (some ⟨g3, 0, none⟩)), (5, .int .i64 ((i : Nat) : Int)), (6, .pointer (some ⟨g6, 0, none⟩)), (58, .bool (bad1R c (l.take i) l[i]))]) (H' := [.blk g6 124 (l[i].cells (.slice B28 l[i].props.length d28)), .blk g3 69 [.slice A l.length c0], .blk g2 24 [vc]]) ?_ ?_
    ·refine d_startH T.mixed ?_
     refine d_tv 0 rfl rfl (by kernel_rfl) rfl (.refl _) rfl (v_ldw m2 he rfl rfl) ?_
     refine d_tv 1 rfl rfl (by kernel_rfl) rfl (.refl _) rfl (v_ldw m0 he rfl rfl) ?_
     refine d_one 2 (by kernel_rfl) rfl ?_
     refine o_callV (ref10own _ vc c hvc l[i] B28 d28 ⟨_, _, rfl, hB28, hd28, hm28⟩ (hsf _ (List.getElem_mem hlt))) rfl rfl ?_
     refine d_on (fun _ m => m.keeps (.refl _)) ?_
     refine d_tv 3 rfl rfl (by kernel_rfl) rfl (.refl _) rfl (v_not rfl) ?_
     refine d_tv 4 rfl rfl (by kernel_rfl) rfl (.refl _) rfl (v_move rfl) ?_
     refine sxb 34 rfl (fun h34 p34 => ?_) (fun h34 p34 => ?_)
     ·refine d_t 5 rfl rfl (by kernel_rfl) rfl (fun _ m => m.keeps (.refl _)) (y_no rfl rfl h34) ?_
      refine d_t 6 rfl rfl (by kernel_rfl) rfl (fun _ m => m.keeps (.refl _)) (y_no rfl rfl h34) ?_
      refine d_t 7 rfl rfl (by kernel_rfl) rfl (fun _ m => m.keeps (.refl _)) (y_no rfl rfl h34) ?_
      refine d_t 8 rfl rfl (by kernel_rfl) rfl (fun _ m => m.keeps (.refl _)) (y_nou rfl rfl) ?_
      refine d_t 9 rfl rfl (by kernel_rfl) rfl (fun _ m => m.keeps (.refl _)) (y_nou rfl rfl) ?_
      refine d_t 10 rfl rfl (by kernel_rfl) rfl (fun _ m => m.keeps (.refl _)) (y_nou rfl rfl) ?_
      refine d_t 11 rfl rfl (by kernel_rfl) rfl (fun _ m => m.keeps (.refl _)) (y_nou rfl rfl) ?_
      refine d_t 12 rfl rfl (by kernel_rfl) rfl (fun _ m => m.keeps (.refl _)) (y_nou rfl rfl) ?_
      refine d_t 13 rfl rfl (by kernel_rfl) rfl (fun _ m => m.keeps (.refl _)) (y_nou rfl rfl) ?_
      refine d_t 14 rfl rfl (by kernel_rfl) rfl (fun _ m => m.keeps (.refl _)) (y_nou rfl rfl) ?_
      refine d_t 15 rfl rfl (by kernel_rfl) rfl (fun _ m => m.keeps (.refl _)) (y_nou rfl rfl) ?_
      refine d_t 16 rfl rfl (by kernel_rfl) rfl (fun _ m => m.keeps (.refl _)) (y_nou rfl rfl) ?_
      refine d_t 17 rfl rfl (by kernel_rfl) rfl (fun _ m => m.keeps (.refl _)) (y_nou rfl rfl) ?_
      refine d_t 18 rfl rfl (by kernel_rfl) rfl (fun _ m => m.keeps (.refl _)) (y_no rfl rfl h34) ?_
      refine d_tv 19 rfl rfl (by kernel_rfl) rfl (.refl _) rfl (v_or_t h34 rfl) ?_
      refine d_tv 20 rfl rfl (by kernel_rfl) rfl (.refl _) rfl (v_move rfl) ?_
      refine d_t 21 rfl rfl (by kernel_rfl) rfl (fun _ m => m.keeps (.refl _)) (y_no rfl rfl rfl) ?_
      refine d_t 22 rfl rfl (by kernel_rfl) rfl (fun _ m => m.keeps (.refl _)) (y_no rfl rfl rfl) ?_
      refine d_t 23 rfl rfl (by kernel_rfl) rfl (fun _ m => m.keeps (.refl _)) (y_no rfl rfl rfl) ?_
      refine d_t 24 rfl rfl (by kernel_rfl) rfl (fun _ m => m.keeps (.refl _)) (y_no rfl rfl rfl) ?_
      refine d_t 25 rfl rfl (by kernel_rfl) rfl (fun _ m => m.keeps (.refl _)) (y_no rfl rfl rfl) ?_
      refine d_t 26 rfl rfl (by kernel_rfl) rfl (fun _ m => m.keeps (.refl _)) (y_no rfl rfl rfl) ?_
      refine d_t 27 rfl rfl (by kernel_rfl) rfl (fun _ m => m.keeps (.refl _)) (y_no rfl rfl rfl) ?_
      refine d_tv 28 rfl rfl (by kernel_rfl) rfl (.refl _) rfl (v_or_t rfl rfl) ?_
      refine d_done (by kernel_rfl) ?_
      refine go 1 ?_
      exact q_cut ⟨rfl, rfl, rfl, rfl, (congrArg (fun b => some (Value.bool b)) (by first | (simp only [bad1R, ownR_eq, h22, h34, bS]; done) | (simp only [bad1R, ownR_eq, notAfter_at (nm := Part.name) h0i hlt, h22, h34, bS]; done) | (simp only [bad1R, ownR_eq, notAfter_zero (nm := Part.name) (l := l) h0i, h22, h34, bS]; done))), trivial⟩ rfl rfl
     ·refine d_t 5 rfl rfl (by kernel_rfl) rfl (fun _ m => m.keeps (.refl _)) (y_yes rfl rfl h34 (v_move rfl)) ?_
      refine d_t 6 rfl rfl (by kernel_rfl) rfl (fun _ m => m.keeps (.refl _)) (y_yes rfl rfl h34 (v_gtr rfl rfl)) ?_
      refine d_t 7 rfl rfl (by kernel_rfl) rfl (fun _ m => m.keeps (.refl _)) (y_yes rfl rfl h34 (v_move rfl)) ?_
      refine sxb 37 rfl (fun h37 p37 => ?_) (fun h37 p37 => ?_)
      ·have h0i : 0 < i := by omega
       refine d_t 8 rfl rfl (by kernel_rfl) rfl (fun _ m => m.keeps (.refl _)) (y_yes rfl rfl h37 (v_fieldAddr he rfl)) ?_
       refine d_t 9 rfl rfl (by kernel_rfl) rfl (fun _ m => m.keeps (.refl _)) (y_yes rfl rfl h37 (v_ld m1 he rfl rfl)) ?_
       refine d_t 10 rfl rfl (by kernel_rfl) rfl (fun _ m => m.keeps (.refl _)) (y_yes rfl rfl h37 (v_move rfl)) ?_
       refine d_t 11 rfl rfl (by kernel_rfl) rfl (fun _ m => m.keeps (.refl _)) (y_yes rfl rfl h37 (OV.cast (u := .int .i64 ((i - 1 : Nat) : Int)) (v_sub rfl rfl ⟨by omega, by omega⟩) (congrArg (Value.int .i64) (by omega)))) ?_
       obtain ⟨b42, o42, w42, e42, c42, r42⟩ := RdA.at_ hA (i := i - 1) (by omega)
       obtain ⟨q42, rfl, B42, d42, rfl, hB42, hd42, hm42⟩ := r42
       refine d_t 12 rfl rfl (by kernel_rfl) rfl (fun _ m => m.keeps (.refl _)) (y_yes rfl rfl h37 (v_idx he rfl rfl e42 (i - 1) (by omega) (by omega))) ?_
       refine d_t 13 rfl rfl (by kernel_rfl) rfl (fun _ m => m.keeps (.refl _)) (y_yes rfl rfl h37 (v_fieldAddr he rfl)) ?_
       refine d_t 14 rfl rfl (by kernel_rfl) rfl (fun _ m => m.keeps (.refl _)) (y_yes rfl rfl h37 (v_ldI he rfl (c42 0 _ rfl))) ?_
       refine d_t 15 rfl rfl (by kernel_rfl) rfl (fun _ m => m.keeps (.refl _)) (y_yes rfl rfl h37 (v_fieldAddr he rfl)) ?_
       refine d_t 16 rfl rfl (by kernel_rfl) rfl (fun _ m => m.keeps (.refl _)) (y_yes rfl rfl h37 (v_ld m0 he rfl rfl)) ?_
       refine d_t 17 rfl rfl (by kernel_rfl) rfl (fun _ m => m.keeps (.refl _)) (y_yes rfl rfl h37 (v_sgeq rfl rfl)) ?_
       refine d_t 18 rfl rfl (by kernel_rfl) rfl (fun _ m => m.keeps (.refl _)) (y_yes rfl rfl h34 (v_and_t h37 rfl rfl)) ?_
       refine d_tv 19 rfl rfl (by kernel_rfl) rfl (.refl _) rfl (v_or_f h34 rfl rfl) ?_
       refine d_tv 20 rfl rfl (by kernel_rfl) rfl (.refl _) rfl (v_move rfl) ?_
       refine sxb 50 rfl (fun h50 p50 => ?_) (fun h50 p50 => ?_)
       ·refine d_t 21 rfl rfl (by kernel_rfl) rfl (fun _ m => m.keeps (.refl _)) (y_no rfl rfl h50) ?_
        refine d_t 22 rfl rfl (by kernel_rfl) rfl (fun _ m => m.keeps (.refl _)) (y_no rfl rfl h50) ?_
        refine d_t 23 rfl rfl (by kernel_rfl) rfl (fun _ m => m.keeps (.refl _)) (y_no rfl rfl h50) ?_
        refine d_t 24 rfl rfl (by kernel_rfl) rfl (fun _ m => m.keeps (.refl _)) (y_no rfl rfl h50) ?_
        refine d_t 25 rfl rfl (by kernel_rfl) rfl (fun _ m => m.keeps (.refl _)) (y_no rfl rfl h50) ?_
        refine d_t 26 rfl rfl (by kernel_rfl) rfl (fun _ m => m.keeps (.refl _)) (y_no rfl rfl h50) ?_
        refine d_t 27 rfl rfl (by kernel_rfl) rfl (fun _ m => m.keeps (.refl _)) (y_no rfl rfl h50) ?_
        refine d_tv 28 rfl rfl (by kernel_rfl) rfl (.refl _) rfl (v_or_t h50 rfl) ?_
        refine d_done (by kernel_rfl) ?_
        refine go 1 ?_
        exact q_cut ⟨rfl, rfl, rfl, rfl, (congrArg (fun b => some (Value.bool b)) (by first | (simp only [bad1R, ownR_eq, h22, h34, h37, h50, bS]; done) | (simp only [bad1R, ownR_eq, notAfter_at (nm := Part.name) h0i hlt, h22, h34, h37, h50, bS]; done) | (simp only [bad1R, ownR_eq, notAfter_zero (nm := Part.name) (l := l) h0i, h22, h34, h37, h50, bS]; done))), trivial⟩ rfl rfl
       ·refine d_t 21 rfl rfl (by kernel_rfl) rfl (fun _ m => m.keeps (.refl _)) (y_yes rfl rfl h50 (v_fieldAddr he rfl)) ?_
        refine d_t 22 rfl rfl (by kernel_rfl) rfl (fun _ m => m.keeps (.refl _)) (y_yes rfl rfl h50 (v_ld m0 he rfl rfl)) ?_
        refine d_t 23 rfl rfl (by kernel_rfl) rfl (fun _ m => m.keeps (.refl _)) (y_yes rfl rfl h50 (v_seql rfl rfl)) ?_
        refine d_t 24 rfl rfl (by kernel_rfl) rfl (fun _ m => m.keeps (.refl _)) (y_yes rfl rfl h50 (v_fieldAddr he rfl)) ?_
        refine d_t 25 rfl rfl (by kernel_rfl) rfl (fun _ m => m.keeps (.refl _)) (y_yes rfl rfl h50 (v_ld m0 he rfl rfl)) ?_
        refine d_t 26 rfl rfl (by kernel_rfl) rfl (fun _ m => m.keeps (.refl _)) (y_yes rfl rfl h50 (v_seql rfl rfl)) ?_
        refine d_t 27 rfl rfl (by kernel_rfl) rfl (fun _ m => m.keeps (.refl _)) (y_yes rfl rfl h50 (v_bneq he rfl rfl)) ?_
        refine d_tv 28 rfl rfl (by kernel_rfl) rfl (.refl _) rfl (v_or_f h50 rfl rfl) ?_
        refine d_done (by kernel_rfl) ?_
        refine go 1 ?_
        exact q_cut ⟨rfl, rfl, rfl, rfl, (congrArg (fun b => some (Value.bool b)) (by first | (simp only [bad1R, ownR_eq, h22, h34, h37, h50, bS]; done) | (simp only [bad1R, ownR_eq, notAfter_at (nm := Part.name) h0i hlt, h22, h34, h37, h50, bS]; done) | (simp only [bad1R, ownR_eq, notAfter_zero (nm := Part.name) (l := l) h0i, h22, h34, h37, h50, bS]; done))), trivial⟩ rfl rfl
      ·have h0i : ¬ 0 < i := by omega
       refine d_t 8 rfl rfl (by kernel_rfl) rfl (fun _ m => m.keeps (.refl _)) (y_no rfl rfl h37) ?_
       refine d_t 9 rfl rfl (by kernel_rfl) rfl (fun _ m => m.keeps (.refl _)) (y_no rfl rfl h37) ?_
       refine d_t 10 rfl rfl (by kernel_rfl) rfl (fun _ m => m.keeps (.refl _)) (y_no rfl rfl h37) ?_
       refine d_t 11 rfl rfl (by kernel_rfl) rfl (fun _ m => m.keeps (.refl _)) (y_no rfl rfl h37) ?_
       refine d_t 12 rfl rfl (by kernel_rfl) rfl (fun _ m => m.keeps (.refl _)) (y_no rfl rfl h37) ?_
       refine d_t 13 rfl rfl (by kernel_rfl) rfl (fun _ m => m.keeps (.refl _)) (y_no rfl rfl h37) ?_
       refine d_t 14 rfl rfl (by kernel_rfl) rfl (fun _ m => m.keeps (.refl _)) (y_no rfl rfl h37) ?_
       refine d_t 15 rfl rfl (by kernel_rfl) rfl (fun _ m => m.keeps (.refl _)) (y_no rfl rfl h37) ?_
       refine d_t 16 rfl rfl (by kernel_rfl) rfl (fun _ m => m.keeps (.refl _)) (y_no rfl rfl h37) ?_
       refine d_t 17 rfl rfl (by kernel_rfl) rfl (fun _ m => m.keeps (.refl _)) (y_no rfl rfl h37) ?_
       refine d_t 18 rfl rfl (by kernel_rfl) rfl (fun _ m => m.keeps (.refl _)) (y_yes rfl rfl h34 (v_and_f h37 rfl)) ?_
       refine d_tv 19 rfl rfl (by kernel_rfl) rfl (.refl _) rfl (v_or_f h34 rfl rfl) ?_
       refine d_tv 20 rfl rfl (by kernel_rfl) rfl (.refl _) rfl (v_move rfl) ?_
       refine d_t 21 rfl rfl (by kernel_rfl) rfl (fun _ m => m.keeps (.refl _)) (y_yes rfl rfl rfl (v_fieldAddr he rfl)) ?_
       refine d_t 22 rfl rfl (by kernel_rfl) rfl (fun _ m => m.keeps (.refl _)) (y_yes rfl rfl rfl (v_ld m0 he rfl rfl)) ?_
       refine d_t 23 rfl rfl (by kernel_rfl) rfl (fun _ m => m.keeps (.refl _)) (y_yes rfl rfl rfl (v_seql rfl rfl)) ?_
       refine d_t 24 rfl rfl (by kernel_rfl) rfl (fun _ m => m.keeps (.refl _)) (y_yes rfl rfl rfl (v_fieldAddr he rfl)) ?_
       refine d_t 25 rfl rfl (by kernel_rfl) rfl (fun _ m => m.keeps (.refl _)) (y_yes rfl rfl rfl (v_ld m0 he rfl rfl)) ?_
       refine d_t 26 rfl rfl (by kernel_rfl) rfl (fun _ m => m.keeps (.refl _)) (y_yes rfl rfl rfl (v_seql rfl rfl)) ?_
       refine d_t 27 rfl rfl (by kernel_rfl) rfl (fun _ m => m.keeps (.refl _)) (y_yes rfl rfl rfl (v_bneq he rfl rfl)) ?_
       refine d_tv 28 rfl rfl (by kernel_rfl) rfl (.refl _) rfl (v_or_f rfl rfl rfl) ?_
       refine d_done (by kernel_rfl) ?_
       refine go 1 ?_
       exact q_cut ⟨rfl, rfl, rfl, rfl, (congrArg (fun b => some (Value.bool b)) (by first | (simp only [bad1R, ownR_eq, h22, h34, h37, bS]; done) | (simp only [bad1R, ownR_eq, notAfter_at (nm := Part.name) h0i hlt, h22, h34, h37, bS]; done) | (simp only [bad1R, ownR_eq, notAfter_zero (nm := Part.name) (l := l) h0i, h22, h34, h37, bS]; done))), trivial⟩ rfl rfl
    ·refine cb rfl (fun h58 p58 => ?_) (fun h58 p58 => ?_)
     ·refine go 12 ?_
      refine fin1 rfl rfl ?_
      exact q_v (congrArg Value.bool (by rw [← validSR_eq]; simp only [validSR, h17, allP_not (f := partR c l) hlt (show partR c l (l.take i) l[i] = false by simp only [partR, h58]; rfl), bS]))
     ·refine go 10 ?_
      refine cb rfl (fun h61 p61 => ?_) (fun h61 p61 => ?_)
      ·refine go 10 ?_
       refine sx_drop ?_
       exact q_next (i + 1) ⟨by omega, allP_succ hn hlt (by simp only [partR, h58, h61]; rfl)⟩ (by omega) rfl sb rfl
      ·refine go 8 ?_
       refine o_callV (ref10At _ _ l hv0 l[i].into) rfl rfl ?_
       refine go 5 ?_
       refine c_cut (I' := I) (L' := [(2, .pointer (some ⟨g2, 0, none⟩)), (3, .pointer (some ⟨g3, 0, none⟩)), (5, .int .i64 ((i : Nat) : Int)), (6, .pointer (some ⟨g6, 0, none⟩)), (94, .bool (bad2R c l l[i]))]) (H' := [.blk g6 124 (l[i].cells (.slice B28 l[i].props.length d28)), .blk g3 69 [.slice A l.length c0], .blk g2 24 [vc]]) ?_ ?_
       ·refine d_startH T.mixed ?_
        refine d_tv 0 rfl rfl (by kernel_rfl) rfl (.refl _) rfl (v_move rfl) ?_
        refine d_tv 1 rfl rfl (by kernel_rfl) rfl (.refl _) rfl (v_lss rfl rfl) ?_
        refine d_tv 2 rfl rfl (by kernel_rfl) rfl (.refl _) rfl (v_move rfl) ?_
        refine sxb 68 rfl (fun h68 p68 => ?_) (fun h68 p68 => ?_)
        ·have hF : findP l l[i].into = none := ((idxF_find (fun p : Part => decide (p.name = l[i].into)) l).resolve_right (by rintro ⟨k, hk, e, _⟩; omega)).2
         refine d_t 3 rfl rfl (by kernel_rfl) rfl (fun _ m => m.keeps (.refl _)) (y_no rfl rfl h68) ?_
         refine d_t 4 rfl rfl (by kernel_rfl) rfl (fun _ m => m.keeps (.refl _)) (y_no rfl rfl h68) ?_
         refine d_tv 5 rfl rfl (by kernel_rfl) rfl (.refl _) rfl (v_or_t h68 rfl) ?_
         refine d_tv 6 rfl rfl (by kernel_rfl) rfl (.refl _) rfl (v_move rfl) ?_
         refine d_t 7 rfl rfl (by kernel_rfl) rfl (fun _ m => m.keeps (.refl _)) (y_no rfl rfl rfl) ?_
         refine d_t 8 rfl rfl (by kernel_rfl) rfl (fun _ m => m.keeps (.refl _)) (y_no rfl rfl rfl) ?_
         refine d_t 9 rfl rfl (by kernel_rfl) rfl (fun _ m => m.keeps (.refl _)) (y_no rfl rfl rfl) ?_
         refine d_t 10 rfl rfl (by kernel_rfl) rfl (fun _ m => m.keeps (.refl _)) (y_no rfl rfl rfl) ?_
         refine d_t 11 rfl rfl (by kernel_rfl) rfl (fun _ m => m.keeps (.refl _)) (y_no rfl rfl rfl) ?_
         refine d_t 12 rfl rfl (by kernel_rfl) rfl (fun _ m => m.keeps (.refl _)) (y_no rfl rfl rfl) ?_
         refine d_tv 13 rfl rfl (by kernel_rfl) rfl (.refl _) rfl (v_or_t rfl rfl) ?_
         refine d_tv 14 rfl rfl (by kernel_rfl) rfl (.refl _) rfl (v_move rfl) ?_
         refine d_t 15 rfl rfl (by kernel_rfl) rfl (fun _ m => m.keeps (.refl _)) (y_no rfl rfl rfl) ?_
         refine d_t 16 rfl rfl (by kernel_rfl) rfl (fun _ m => m.keeps (.refl _)) (y_no rfl rfl rfl) ?_
         refine d_t 17 rfl rfl (by kernel_rfl) rfl (fun _ m => m.keeps (.refl _)) (y_no rfl rfl rfl) ?_
         refine d_t 18 rfl rfl (by kernel_rfl) rfl (fun _ m => m.keeps (.refl _)) (y_no rfl rfl rfl) ?_
         refine d_t 19 rfl rfl (by kernel_rfl) rfl (fun _ m => m.keeps (.refl _)) (y_no rfl rfl rfl) ?_
         refine d_t 20 rfl rfl (by kernel_rfl) rfl (fun _ m => m.keeps (.refl _)) (y_no rfl rfl rfl) ?_
         refine d_t 21 rfl rfl (by kernel_rfl) rfl (fun _ m => m.keeps (.refl _)) (y_no rfl rfl rfl) ?_
         refine d_t 22 rfl rfl (by kernel_rfl) rfl (fun _ m => m.keeps (.refl _)) (y_no rfl rfl rfl) ?_
         refine d_t 23 rfl rfl (by kernel_rfl) rfl (fun _ m => m.keeps (.refl _)) (y_no rfl rfl rfl) ?_
         refine d_t 24 rfl rfl (by kernel_rfl) rfl (fun _ m => m.keeps (.refl _)) (y_no rfl rfl rfl) ?_
         refine d_t 25 rfl rfl (by kernel_rfl) rfl (fun _ m => m.keeps (.refl _)) (y_no rfl rfl rfl) ?_
         refine d_t 26 rfl rfl (by kernel_rfl) rfl (fun _ m => m.keeps (.refl _)) (y_no rfl rfl rfl) ?_
         refine d_t 27 rfl rfl (by kernel_rfl) rfl (fun _ m => m.keeps (.refl _)) (y_no rfl rfl rfl) ?_
         refine d_tv 28 rfl rfl (by kernel_rfl) rfl (.refl _) rfl (v_or_t rfl rfl) ?_
         refine d_done (by kernel_rfl) ?_
         refine go 1 ?_
         exact q_cut ⟨rfl, rfl, rfl, rfl, (congrArg (fun b => some (Value.bool b)) (by first | (simp only [bad2R, hF, h58, h61, h68, Option.isSome_none, Option.isSome_some, Option.getD_some, bS]; done) | (simp only [bad2R, hS, h58, h61, h68, bS]; done))), trivial⟩ rfl rfl
        ·have hS : (findP l l[i].into).isSome = true := (by rw [← find_idx]; simpa using p68)
         refine d_t 3 rfl rfl (by kernel_rfl) rfl (fun _ m => m.keeps (.refl _)) (y_yes rfl rfl h68 (v_fieldAddr he rfl)) ?_
         refine d_t 4 rfl rfl (by kernel_rfl) rfl (fun _ m => m.keeps (.refl _)) (y_yes rfl rfl h68 (v_ld m0 he rfl rfl)) ?_
         refine d_tv 5 rfl rfl (by kernel_rfl) rfl (.refl _) rfl (v_or_f h68 rfl rfl) ?_
         refine d_tv 6 rfl rfl (by kernel_rfl) rfl (.refl _) rfl (v_move rfl) ?_
         refine sxb 72 rfl (fun h72 p72 => ?_) (fun h72 p72 => ?_)
         ·refine d_t 7 rfl rfl (by kernel_rfl) rfl (fun _ m => m.keeps (.refl _)) (y_no rfl rfl h72) ?_
          refine d_t 8 rfl rfl (by kernel_rfl) rfl (fun _ m => m.keeps (.refl _)) (y_no rfl rfl h72) ?_
          refine d_t 9 rfl rfl (by kernel_rfl) rfl (fun _ m => m.keeps (.refl _)) (y_no rfl rfl h72) ?_
          refine d_t 10 rfl rfl (by kernel_rfl) rfl (fun _ m => m.keeps (.refl _)) (y_no rfl rfl h72) ?_
          refine d_t 11 rfl rfl (by kernel_rfl) rfl (fun _ m => m.keeps (.refl _)) (y_no rfl rfl h72) ?_
          refine d_t 12 rfl rfl (by kernel_rfl) rfl (fun _ m => m.keeps (.refl _)) (y_no rfl rfl h72) ?_
          refine d_tv 13 rfl rfl (by kernel_rfl) rfl (.refl _) rfl (v_or_t h72 rfl) ?_
          refine d_tv 14 rfl rfl (by kernel_rfl) rfl (.refl _) rfl (v_move rfl) ?_
          refine d_t 15 rfl rfl (by kernel_rfl) rfl (fun _ m => m.keeps (.refl _)) (y_no rfl rfl rfl) ?_
          refine d_t 16 rfl rfl (by kernel_rfl) rfl (fun _ m => m.keeps (.refl _)) (y_no rfl rfl rfl) ?_
          refine d_t 17 rfl rfl (by kernel_rfl) rfl (fun _ m => m.keeps (.refl _)) (y_no rfl rfl rfl) ?_
          refine d_t 18 rfl rfl (by kernel_rfl) rfl (fun _ m => m.keeps (.refl _)) (y_no rfl rfl rfl) ?_
          refine d_t 19 rfl rfl (by kernel_rfl) rfl (fun _ m => m.keeps (.refl _)) (y_no rfl rfl rfl) ?_
          refine d_t 20 rfl rfl (by kernel_rfl) rfl (fun _ m => m.keeps (.refl _)) (y_no rfl rfl rfl) ?_
          refine d_t 21 rfl rfl (by kernel_rfl) rfl (fun _ m => m.keeps (.refl _)) (y_no rfl rfl rfl) ?_
          refine d_t 22 rfl rfl (by kernel_rfl) rfl (fun _ m => m.keeps (.refl _)) (y_no rfl rfl rfl) ?_
          refine d_t 23 rfl rfl (by kernel_rfl) rfl (fun _ m => m.keeps (.refl _)) (y_no rfl rfl rfl) ?_
          refine d_t 24 rfl rfl (by kernel_rfl) rfl (fun _ m => m.keeps (.refl _)) (y_no rfl rfl rfl) ?_
          refine d_t 25 rfl rfl (by kernel_rfl) rfl (fun _ m => m.keeps (.refl _)) (y_no rfl rfl rfl) ?_
          refine d_t 26 rfl rfl (by kernel_rfl) rfl (fun _ m => m.keeps (.refl _)) (y_no rfl rfl rfl) ?_
          refine d_t 27 rfl rfl (by kernel_rfl) rfl (fun _ m => m.keeps (.refl _)) (y_no rfl rfl rfl) ?_
          refine d_tv 28 rfl rfl (by kernel_rfl) rfl (.refl _) rfl (v_or_t rfl rfl) ?_
          refine d_done (by kernel_rfl) ?_
          refine go 1 ?_
          exact q_cut ⟨rfl, rfl, rfl, rfl, (congrArg (fun b => some (Value.bool b)) (by first | (simp only [bad2R, hF, h58, h61, h68, h72, Option.isSome_none, Option.isSome_some, Option.getD_some, bS]; done) | (simp only [bad2R, hS, h58, h61, h68, h72, bS]; done))), trivial⟩ rfl rfl
         ·refine d_t 7 rfl rfl (by kernel_rfl) rfl (fun _ m => m.keeps (.refl _)) (y_yes rfl rfl h72 (v_fieldAddr he rfl)) ?_
          refine d_t 8 rfl rfl (by kernel_rfl) rfl (fun _ m => m.keeps (.refl _)) (y_yes rfl rfl h72 (v_ld m1 he rfl rfl)) ?_
          refine d_t 9 rfl rfl (by kernel_rfl) rfl (fun _ m => m.keeps (.refl _)) (y_yes rfl rfl h72 (v_move rfl)) ?_
          obtain ⟨k, hk, ek, hF⟩ := (idxF_find (fun p : Part => decide (p.name = l[i].into)) l).resolve_left (fun h => by omega)
          have hF : findP l l[i].into = some l[k] := hF
          obtain ⟨b76, o76, w76, e76, c76, r76⟩ := RdA.at_ hA (i := k) hk
          obtain ⟨q76, rfl, B76, d76, rfl, hB76, hd76, hm76⟩ := r76
          refine d_t 10 rfl rfl (by kernel_rfl) rfl (fun _ m => m.keeps (.refl _)) (y_yes rfl rfl h72 (v_idx he rfl rfl e76 (k) ek hk)) ?_
          refine d_t 11 rfl rfl (by kernel_rfl) rfl (fun _ m => m.keeps (.refl _)) (y_yes rfl rfl h72 (v_fieldAddr he rfl)) ?_
          refine d_t 12 rfl rfl (by kernel_rfl) rfl (fun _ m => m.keeps (.refl _)) (y_yes rfl rfl h72 (v_ldI he rfl (c76 6 _ rfl))) ?_
          refine d_tv 13 rfl rfl (by kernel_rfl) rfl (.refl _) rfl (v_or_f h72 rfl rfl) ?_
          refine d_tv 14 rfl rfl (by kernel_rfl) rfl (.refl _) rfl (v_move rfl) ?_
          refine sxb 80 rfl (fun h80 p80 => ?_) (fun h80 p80 => ?_)
          ·refine d_t 15 rfl rfl (by kernel_rfl) rfl (fun _ m => m.keeps (.refl _)) (y_no rfl rfl h80) ?_
           refine d_t 16 rfl rfl (by kernel_rfl) rfl (fun _ m => m.keeps (.refl _)) (y_no rfl rfl h80) ?_
           refine d_t 17 rfl rfl (by kernel_rfl) rfl (fun _ m => m.keeps (.refl _)) (y_no rfl rfl h80) ?_
           refine d_t 18 rfl rfl (by kernel_rfl) rfl (fun _ m => m.keeps (.refl _)) (y_no rfl rfl h80) ?_
           refine d_t 19 rfl rfl (by kernel_rfl) rfl (fun _ m => m.keeps (.refl _)) (y_no rfl rfl h80) ?_
           refine d_t 20 rfl rfl (by kernel_rfl) rfl (fun _ m => m.keeps (.refl _)) (y_no rfl rfl h80) ?_
           refine d_t 21 rfl rfl (by kernel_rfl) rfl (fun _ m => m.keeps (.refl _)) (y_no rfl rfl h80) ?_
           refine d_t 22 rfl rfl (by kernel_rfl) rfl (fun _ m => m.keeps (.refl _)) (y_no rfl rfl h80) ?_
           refine d_t 23 rfl rfl (by kernel_rfl) rfl (fun _ m => m.keeps (.refl _)) (y_no rfl rfl h80) ?_
           refine d_t 24 rfl rfl (by kernel_rfl) rfl (fun _ m => m.keeps (.refl _)) (y_no rfl rfl h80) ?_
           refine d_t 25 rfl rfl (by kernel_rfl) rfl (fun _ m => m.keeps (.refl _)) (y_no rfl rfl h80) ?_
           refine d_t 26 rfl rfl (by kernel_rfl) rfl (fun _ m => m.keeps (.refl _)) (y_no rfl rfl h80) ?_
           refine d_t 27 rfl rfl (by kernel_rfl) rfl (fun _ m => m.keeps (.refl _)) (y_no rfl rfl h80) ?_
           refine d_tv 28 rfl rfl (by kernel_rfl) rfl (.refl _) rfl (v_or_t h80 rfl) ?_
           refine d_done (by kernel_rfl) ?_
           refine go 1 ?_
           exact q_cut ⟨rfl, rfl, rfl, rfl, (congrArg (fun b => some (Value.bool b)) (by first | (simp only [bad2R, hF, h58, h61, h68, h72, h80, Option.isSome_none, Option.isSome_some, Option.getD_some, bS]; done) | (simp only [bad2R, hS, h58, h61, h68, h72, h80, bS]; done))), trivial⟩ rfl rfl
          ·refine d_t 15 rfl rfl (by kernel_rfl) rfl (fun _ m => m.keeps (.refl _)) (y_yes rfl rfl h80 (v_ldw m2 he rfl rfl)) ?_
           refine d_t 16 rfl rfl (by kernel_rfl) rfl (fun _ m => m.keeps (.refl _)) (y_yes rfl rfl h80 (v_fieldAddr he rfl)) ?_
           refine d_t 17 rfl rfl (by kernel_rfl) rfl (fun _ m => m.keeps (.refl _)) (y_yes rfl rfl h80 (v_ld m1 he rfl rfl)) ?_
           refine d_t 18 rfl rfl (by kernel_rfl) rfl (fun _ m => m.keeps (.refl _)) (y_yes rfl rfl h80 (v_move rfl)) ?_
           obtain ⟨b85, o85, w85, e85, c85, r85⟩ := RdA.at_ hA (i := k) hk
           obtain ⟨q85, rfl, B85, d85, rfl, hB85, hd85, hm85⟩ := r85
           refine d_t 19 rfl rfl (by kernel_rfl) rfl (fun _ m => m.keeps (.refl _)) (y_yes rfl rfl h80 (v_idx he rfl rfl e85 (k) ek hk)) ?_
           refine d_t 20 rfl rfl (by kernel_rfl) rfl (fun _ m => m.keeps (.refl _)) (y_yes rfl rfl h80 (v_fieldAddr he rfl)) ?_
           refine d_t 21 rfl rfl (by kernel_rfl) rfl (fun _ m => m.keeps (.refl _)) (y_yes rfl rfl h80 (v_ldI he rfl (c85 1 _ rfl))) ?_
           refine d_t 22 rfl rfl (by kernel_rfl) rfl (fun _ m => m.keeps (.refl _)) (y_yes rfl rfl h80 (v_fieldAddr he rfl)) ?_
           refine d_t 23 rfl rfl (by kernel_rfl) rfl (fun _ m => m.keeps (.refl _)) (y_yes rfl rfl h80 (v_ld m0 he rfl rfl)) ?_
           refine d_t 24 rfl rfl (by kernel_rfl) rfl (fun _ m => m.keeps (.refl _)) (y_yes rfl rfl h80 (v_fieldAddr he rfl)) ?_
           refine d_t 25 rfl rfl (by kernel_rfl) rfl (fun _ m => m.keeps (.refl _)) (y_yes rfl rfl h80 (v_ld m0 he rfl rfl)) ?_
           refine d_one 26 (by kernel_rfl) rfl ?_
           refine o_yes rfl rfl h80 (o_callV (ref08Takes _ vc c hvc _ _ _) rfl rfl ?_)
           refine d_on (fun _ m => m.keeps (.refl _)) ?_
           refine d_t 27 rfl rfl (by kernel_rfl) rfl (fun _ m => m.keeps (.refl _)) (y_yes rfl rfl h80 (v_not rfl)) ?_
           refine d_tv 28 rfl rfl (by kernel_rfl) rfl (.refl _) rfl (v_or_f h80 rfl rfl) ?_
           refine d_done (by kernel_rfl) ?_
           refine go 1 ?_
           exact q_cut ⟨rfl, rfl, rfl, rfl, (congrArg (fun b => some (Value.bool b)) (by first | (simp only [bad2R, hF, h58, h61, h68, h72, h80, Option.isSome_none, Option.isSome_some, Option.getD_some, bS]; done) | (simp only [bad2R, hS, h58, h61, h68, h72, h80, bS]; done))), trivial⟩ rfl rfl
       ·refine cb rfl (fun h94 p94 => ?_) (fun h94 p94 => ?_)
        ·refine go 12 ?_
         refine fin1 rfl rfl ?_
         exact q_v (congrArg Value.bool (by rw [← validSR_eq]; simp only [validSR, h17, allP_not (f := partR c l) hlt (show partR c l (l.take i) l[i] = false by simp only [partR, h58, h61, h94]; rfl), bS]))
        ·refine go 8 ?_
         refine c_loop (α := Nat) 0 (fun m => I)
          (fun m => [(2, .pointer (some ⟨g2, 0, none⟩)), (3, .pointer (some ⟨g3, 0, none⟩)), (5, .int .i64 ((i : Nat) : Int)), (6, .pointer (some ⟨g6, 0, none⟩)), (8, .int .i64 ((m : Nat) : Int))])
          (fun m => [.blk g6 124 (l[i].cells (.slice B28 l[i].props.length d28)), .blk g3 69 [.slice A l.length c0], .blk g2 24 [vc]])
          (fun m => m ≤ i ∧ ∀ j x, j < m → l[j]? = some x → clash l[i] x = false)
          (fun m => i - m) ⟨Nat.zero_le _, fun j x hj => absurd hj (Nat.not_lt_zero j)⟩ rfl sb rfl ?_
         intro m ⟨hmm, hq⟩
         refine go 8 ?_
         refine cb rfl (fun h97 p97 => ?_) (fun h97 p97 => ?_)
         ·have hlm : m < l.length := by omega
          refine go 5 ?_
          refine c_cut (I' := I) (L' := [(2, .pointer (some ⟨g2, 0, none⟩)), (3, .pointer (some ⟨g3, 0, none⟩)), (5, .int .i64 ((i : Nat) : Int)), (6, .pointer (some ⟨g6, 0, none⟩)), (8, .int .i64 ((m : Nat) : Int)), (119, .bool (clash l[i] l[m]))]) (H' := [.blk g6 124 (l[i].cells (.slice B28 l[i].props.length d28)), .blk g3 69 [.slice A l.length c0], .blk g2 24 [vc]]) ?_ ?_
          ·refine d_startH T.mixed ?_
           refine d_tv 0 rfl rfl (by kernel_rfl) rfl (.refl _) rfl (v_fieldAddr he rfl) ?_
           refine d_tv 1 rfl rfl (by kernel_rfl) rfl (.refl _) rfl (v_ld m1 he rfl rfl) ?_
           refine d_tv 2 rfl rfl (by kernel_rfl) rfl (.refl _) rfl (v_move rfl) ?_
           obtain ⟨b103, o103, w103, e103, c103, r103⟩ := RdA.at_ hA (i := m) hlm
           obtain ⟨q103, rfl, B103, d103, rfl, hB103, hd103, hm103⟩ := r103
           refine d_tv 3 rfl rfl (by kernel_rfl) rfl (.refl _) rfl (v_idx he rfl rfl e103 (m) (by omega) hlm) ?_
           refine d_tv 4 rfl rfl (by kernel_rfl) rfl (.refl _) rfl (v_fieldAddr he rfl) ?_
           refine d_tv 5 rfl rfl (by kernel_rfl) rfl (.refl _) rfl (v_ldI he rfl (c103 2 _ rfl)) ?_
           refine d_tv 6 rfl rfl (by kernel_rfl) rfl (.refl _) rfl (v_fieldAddr he rfl) ?_
           refine d_tv 7 rfl rfl (by kernel_rfl) rfl (.refl _) rfl (v_ld m0 he rfl rfl) ?_
           refine d_tv 8 rfl rfl (by kernel_rfl) rfl (.refl _) rfl (v_seql rfl rfl) ?_
           refine d_tv 9 rfl rfl (by kernel_rfl) rfl (.refl _) rfl (v_move rfl) ?_
           refine sxb 109 rfl (fun h109 p109 => ?_) (fun h109 p109 => ?_)
           ·refine d_t 10 rfl rfl (by kernel_rfl) rfl (fun _ m => m.keeps (.refl _)) (y_yes rfl rfl h109 (v_fieldAddr he rfl)) ?_
            refine d_t 11 rfl rfl (by kernel_rfl) rfl (fun _ m => m.keeps (.refl _)) (y_yes rfl rfl h109 (v_ld m1 he rfl rfl)) ?_
            refine d_t 12 rfl rfl (by kernel_rfl) rfl (fun _ m => m.keeps (.refl _)) (y_yes rfl rfl h109 (v_move rfl)) ?_
            obtain ⟨b113, o113, w113, e113, c113, r113⟩ := RdA.at_ hA (i := m) hlm
            obtain ⟨q113, rfl, B113, d113, rfl, hB113, hd113, hm113⟩ := r113
            refine d_t 13 rfl rfl (by kernel_rfl) rfl (fun _ m => m.keeps (.refl _)) (y_yes rfl rfl h109 (v_idx he rfl rfl e113 (m) (by omega) hlm)) ?_
            refine d_t 14 rfl rfl (by kernel_rfl) rfl (fun _ m => m.keeps (.refl _)) (y_yes rfl rfl h109 (v_fieldAddr he rfl)) ?_
            refine d_t 15 rfl rfl (by kernel_rfl) rfl (fun _ m => m.keeps (.refl _)) (y_yes rfl rfl h109 (v_ldI he rfl (c113 3 _ rfl))) ?_
            refine d_t 16 rfl rfl (by kernel_rfl) rfl (fun _ m => m.keeps (.refl _)) (y_yes rfl rfl h109 (v_fieldAddr he rfl)) ?_
            refine d_t 17 rfl rfl (by kernel_rfl) rfl (fun _ m => m.keeps (.refl _)) (y_yes rfl rfl h109 (v_ld m0 he rfl rfl)) ?_
            refine d_t 18 rfl rfl (by kernel_rfl) rfl (fun _ m => m.keeps (.refl _)) (y_yes rfl rfl h109 (v_seql rfl rfl)) ?_
            refine d_tv 19 rfl rfl (by kernel_rfl) rfl (.refl _) rfl (v_and_t h109 rfl rfl) ?_
            refine d_done (by kernel_rfl) ?_
            refine go 1 ?_
            exact q_cut ⟨rfl, rfl, rfl, rfl, rfl, (congrArg (fun b => some (Value.bool b)) (by simp only [clash, h97, h109, bS])), trivial⟩ rfl rfl
           ·refine d_t 10 rfl rfl (by kernel_rfl) rfl (fun _ m => m.keeps (.refl _)) (y_no rfl rfl h109) ?_
            refine d_t 11 rfl rfl (by kernel_rfl) rfl (fun _ m => m.keeps (.refl _)) (y_no rfl rfl h109) ?_
            refine d_t 12 rfl rfl (by kernel_rfl) rfl (fun _ m => m.keeps (.refl _)) (y_no rfl rfl h109) ?_
            refine d_t 13 rfl rfl (by kernel_rfl) rfl (fun _ m => m.keeps (.refl _)) (y_no rfl rfl h109) ?_
            refine d_t 14 rfl rfl (by kernel_rfl) rfl (fun _ m => m.keeps (.refl _)) (y_no rfl rfl h109) ?_
            refine d_t 15 rfl rfl (by kernel_rfl) rfl (fun _ m => m.keeps (.refl _)) (y_no rfl rfl h109) ?_
            refine d_t 16 rfl rfl (by kernel_rfl) rfl (fun _ m => m.keeps (.refl _)) (y_no rfl rfl h109) ?_
            refine d_t 17 rfl rfl (by kernel_rfl) rfl (fun _ m => m.keeps (.refl _)) (y_no rfl rfl h109) ?_
            refine d_t 18 rfl rfl (by kernel_rfl) rfl (fun _ m => m.keeps (.refl _)) (y_no rfl rfl h109) ?_
            refine d_tv 19 rfl rfl (by kernel_rfl) rfl (.refl _) rfl (v_and_f h109 rfl) ?_
            refine d_done (by kernel_rfl) ?_
            refine go 1 ?_
            exact q_cut ⟨rfl, rfl, rfl, rfl, rfl, (congrArg (fun b => some (Value.bool b)) (by simp only [clash, h97, h109, bS])), trivial⟩ rfl rfl
          ·refine cb rfl (fun h119 p119 => ?_) (fun h119 p119 => ?_)
           ·refine go 15 ?_
            refine fin1 rfl rfl ?_
            exact q_v (congrArg Value.bool (by rw [← validSR_eq]; simp only [validSR, h17, allP_not (f := partR c l) hlt (show partR c l (l.take i) l[i] = false by simp only [partR, h58, h61, h94, seat_hit (m := m) (i := i) (by omega) hlm h119]; rfl), bS]))
           ·refine go 9 ?_
            exact q_next (m + 1) ⟨by omega, idx_next hq (show m < l.length by omega) h119⟩ (by omega) rfl sb rfl
         ·refine go 12 ?_
          refine sx_drop ?_
          exact q_next (i + 1) ⟨by omega, allP_succ hn hlt (by have := seat_end hq (by omega : i ≤ m); simp only [partR, h58, h61, h94, this]; rfl)⟩ (by omega) rfl sb rfl
   ·refine go 11 ?_
    refine fin1 rfl rfl ?_
    have e : i = l.length := (by omega)
    subst e
    exact q_v (congrArg Value.bool (by rw [← validSR_eq]; simp only [validSR, hn, h17]; rfl))

end Go.Proofs.YtkmdojpfccjnoaaGreat
