/- The library of a symbolic run and the walks: merged. -/
import Derived.Test.YtoadjlmbdliceaaGreatYa
/- Walks, printed by a program out of the code of the functions: each theorem is a contract of one function. -/
namespace Go.Proofs.YtoadjlmbdliceaaGreat
open Go Go.Sx
set_option linter.all false
set_option maxRecDepth 20000
set_option maxHeartbeats 4000000
theorem ref09Ivl (I : IMap) (x : Ivl) :
    FnV Tryz.prog 156 #[.agg x.cells.toArray] I (.bool (ivlR x)) := by
 refine enter Tryz.func156 Tryz.call156 rfl Tryz.ntmps156 rfl (fun w0 => ?_)
 refine go 3 ?_
 refine o_box _ rfl rfl rfl (fun g1 => ?_)
 refine go 9 ?_
 refine sxb 6 rfl (fun h6 p6 => ?_) (fun h6 p6 => ?_)
 ·refine go 7 ?_
  refine sxb 13 rfl (fun h13 p13 => ?_) (fun h13 p13 => ?_)
  ·refine go 8 ?_
   refine fin1 rfl rfl ?_
   exact q_v (congrArg Value.bool (by simp only [ivlR, h6, h13, bS]))
  ·refine go 8 ?_
   refine fin1 rfl rfl ?_
   exact q_v (congrArg Value.bool (by simp only [ivlR, h6, h13, bS]))
 ·refine go 15 ?_
  refine fin1 rfl rfl ?_
  exact q_v (congrArg Value.bool (by simp only [ivlR, h6, bS]))

theorem ref09Use (I : IMap) (x : Use) :
    FnV Tryz.prog 122 #[.agg x.cells.toArray] I (.bool (useR x)) := by
 refine enter Tryz.func122 Tryz.call122 rfl Tryz.ntmps122 rfl (fun w0 => ?_)
 refine go 3 ?_
 refine o_box _ rfl rfl rfl (fun g1 => ?_)
 refine go 6 ?_
 refine o_v rfl (v_ldp (x.km.cells) m0 he rfl rfl rfl) ?_
 refine go 1 ?_
 refine o_callV (ref09Ivl _ x.km) rfl rfl ?_
 refine go 1 ?_
 refine sxb 6 rfl (fun h6 p6 => ?_) (fun h6 p6 => ?_)
 ·refine go 1 ?_
  refine o_cons (o_yes rfl rfl h6 (o_val rfl (v_ldp (x.cycles.cells) m0 he rfl rfl rfl) ?_))
  refine go 1 ?_
  refine o_yes rfl rfl h6 (o_callV (ref09Ivl _ x.cycles) rfl rfl ?_)
  refine go 2 ?_
  refine sxb 11 rfl (fun h11 p11 => ?_) (fun h11 p11 => ?_)
  ·refine go 1 ?_
   refine o_cons (o_yes rfl rfl h11 (o_val rfl (v_ldp (x.load.cells) m0 he rfl rfl rfl) ?_))
   refine go 1 ?_
   refine o_yes rfl rfl h11 (o_callV (ref09Ivl _ x.load) rfl rfl ?_)
   refine go 5 ?_
   refine fin1 rfl rfl ?_
   exact q_v (congrArg Value.bool (by simp only [useR, h6, h11, bS]))
  ·refine go 8 ?_
   refine fin1 rfl rfl ?_
   exact q_v (congrArg Value.bool (by simp only [useR, h6, h11, bS]))
 ·refine go 13 ?_
  refine fin1 rfl rfl ?_
  exact q_v (congrArg Value.bool (by simp only [useR, h6, bS]))

theorem ref09Valid (I : IMap) (e : Evt) (hs : SmE e) :
    FnV Tryz.prog 105 #[.agg e.cells.toArray] I (.bool (validE e)) := by
 refine enter Tryz.func105 Tryz.call105 rfl Tryz.ntmps105 rfl (fun w0 => ?_)
 refine go 3 ?_
 refine o_box _ rfl rfl rfl (fun g1 => ?_)
 refine go 5 ?_
 refine c_cut (I' := I) (L' := [(1, .pointer (some ⟨g1, 0, none⟩)), (28, .bool (evBadR e))]) (H' := [.blk g1 56 e.cells]) ?_ ?_
 ·refine go 5 ?_
  refine sxb 8 rfl (fun h8 p8 => ?_) (fun h8 p8 => ?_)
  ·refine go 22 ?_
   exact q_cut ⟨rfl, (congrArg (fun b => some (Value.bool b)) (by simp only [evBadR, h8, bS])), trivial⟩ rfl rfl
  ·refine go 5 ?_
   refine sxb 13 rfl (fun h13 p13 => ?_) (fun h13 p13 => ?_)
   ·refine go 17 ?_
    exact q_cut ⟨rfl, (congrArg (fun b => some (Value.bool b)) (by simp only [evBadR, h8, h13, bS])), trivial⟩ rfl rfl
   ·refine go 5 ?_
    refine sxb 18 rfl (fun h18 p18 => ?_) (fun h18 p18 => ?_)
    ·refine go 12 ?_
     exact q_cut ⟨rfl, (congrArg (fun b => some (Value.bool b)) (by simp only [evBadR, h8, h13, h18, bS])), trivial⟩ rfl rfl
    ·refine go 5 ?_
     refine sxb 23 rfl (fun h23 p23 => ?_) (fun h23 p23 => ?_)
     ·refine go 7 ?_
      exact q_cut ⟨rfl, (congrArg (fun b => some (Value.bool b)) (by simp only [evBadR, h8, h13, h18, h23, bS])), trivial⟩ rfl rfl
     ·refine go 3 ?_
      refine o_yes rfl rfl h23 (o_callV (name05 _ _ hs.1) rfl rfl ?_)
      refine go 4 ?_
      exact q_cut ⟨rfl, (congrArg (fun b => some (Value.bool b)) (by simp only [evBadR, h8, h13, h18, h23, bS])), trivial⟩ rfl rfl
 ·refine cb rfl (fun h28 p28 => ?_) (fun h28 p28 => ?_)
  ·refine go 7 ?_
   refine fin1 rfl rfl ?_
   exact q_v (congrArg Value.bool (by rw [← validER_eq]; simp only [validER, h28]; rfl))
  ·refine go 11 ?_
   refine o_val rfl (v_build (pl := [(0, 1), (1, 1), (2, 1), (3, 1), (4, 1), (5, 1), (6, 1), (7, 1), (8, 6)]) he he rfl rfl) ?_
   refine go 1 ?_
   refine o_alloc he rfl (fun g3 => ?_)
   refine go 1 ?_
   refine o_stw _ he rfl rfl rfl rfl rfl rfl ?_
   refine go 8 ?_
   refine c_cut (I' := I) (L' := [(1, .pointer (some ⟨g1, 0, none⟩)), (3, .pointer (some ⟨g3, 0, none⟩)), (4, .bool (goodR e))]) (H' := [.blk g3 56 (keepR e).cells, .blk g1 56 e.cells]) ?_ ?_
   ·refine go 13 ?_
    refine cb rfl (fun h38 p38 => ?_) (fun h38 p38 => ?_)
    ·refine go 6 ?_
     refine o_st1 he rfl rfl rfl rfl ?_
     refine go 6 ?_
     refine o_callV (name05 _ _ hs.2.1) rfl rfl ?_
     refine go 4 ?_
     exact q_cut ⟨rfl, rfl, (congrArg (fun b => some (Value.bool b)) (by simp only [goodR, p28, p38, h28, h38, Int.reduceEq, reduceIte, if_true, if_false, decide_true, decide_false, bS])), trivial⟩ (by rw [keepR, if_pos p38]; rfl) rfl
    ·refine go 6 ?_
     refine cb rfl (fun h46 p46 => ?_) (fun h46 p46 => ?_)
     ·refine go 6 ?_
      refine o_st1 he rfl rfl rfl rfl ?_
      refine go 8 ?_
      refine o_st1 he rfl rfl rfl rfl ?_
      refine go 6 ?_
      refine o_callV (name05 _ _ hs.2.2.1) rfl rfl ?_
      refine go 1 ?_
      refine sxb 57 rfl (fun h57 p57 => ?_) (fun h57 p57 => ?_)
      ·refine go 3 ?_
       refine o_yes rfl rfl h57 (o_callV (name05 _ _ hs.2.2.2.1) rfl rfl ?_)
       refine go 2 ?_
       refine sxb 62 rfl (fun h62 p62 => ?_) (fun h62 p62 => ?_)
       ·refine go 10 ?_
        exact q_cut ⟨rfl, rfl, (congrArg (fun b => some (Value.bool b)) (by simp only [goodR, p28, p38, p46, p57, p62, h28, h38, h46, h57, h62, Int.reduceEq, reduceIte, if_true, if_false, decide_true, decide_false, bS])), trivial⟩ (by rw [keepR, if_neg p38, if_pos p46]; rfl) rfl
       ·refine go 10 ?_
        exact q_cut ⟨rfl, rfl, (congrArg (fun b => some (Value.bool b)) (by simp only [goodR, p28, p38, p46, p57, p62, h28, h38, h46, h57, h62, Int.reduceEq, reduceIte, if_true, if_false, decide_true, decide_false, bS])), trivial⟩ (by rw [keepR, if_neg p38, if_pos p46]; rfl) rfl
      ·refine go 15 ?_
       exact q_cut ⟨rfl, rfl, (congrArg (fun b => some (Value.bool b)) (by simp only [goodR, p28, p38, p46, p57, h28, h38, h46, h57, Int.reduceEq, reduceIte, if_true, if_false, decide_true, decide_false, bS])), trivial⟩ (by rw [keepR, if_neg p38, if_pos p46]; rfl) rfl
     ·refine go 6 ?_
      refine cb rfl (fun h69 p69 => ?_) (fun h69 p69 => ?_)
      ·refine go 3 ?_
       refine o_v rfl (v_ldp (e.use.cells) m1 he rfl rfl rfl) ?_
       refine go 2 ?_
       refine o_st _ _ he rfl rfl rfl rfl rfl rfl rfl ?_
       refine go 4 ?_
       refine o_v rfl (v_ldp (e.use.cells) m1 he rfl rfl rfl) ?_
       refine go 1 ?_
       refine o_callV (ref09Use _ e.use) rfl rfl ?_
       refine go 4 ?_
       exact q_cut ⟨rfl, rfl, (congrArg (fun b => some (Value.bool b)) (by simp only [goodR, p28, p38, p46, p69, h28, h38, h46, h69, Int.reduceEq, reduceIte, if_true, if_false, decide_true, decide_false, bS])), trivial⟩ (by rw [keepR, if_neg p38, if_neg p46, if_pos p69]; rfl) rfl
      ·refine go 6 ?_
       refine cb rfl (fun h77 p77 => ?_) (fun h77 p77 => ?_)
       ·refine go 6 ?_
        refine o_st1 he rfl rfl rfl rfl ?_
        refine go 8 ?_
        refine o_st1 he rfl rfl rfl rfl ?_
        refine go 6 ?_
        refine o_callV (name05 _ _ hs.2.2.2.2.1) rfl rfl ?_
        refine go 1 ?_
        refine sxb 88 rfl (fun h88 p88 => ?_) (fun h88 p88 => ?_)
        ·refine go 6 ?_
         refine sxb 94 rfl (fun h94 p94 => ?_) (fun h94 p94 => ?_)
         ·refine go 9 ?_
          exact q_cut ⟨rfl, rfl, (congrArg (fun b => some (Value.bool b)) (by simp only [goodR, p28, p38, p46, p69, p77, p88, p94, h28, h38, h46, h69, h77, h88, h94, Int.reduceEq, reduceIte, if_true, if_false, decide_true, decide_false, bS])), trivial⟩ (by rw [keepR, if_neg p38, if_neg p46, if_neg p69, if_pos p77]; rfl) rfl
         ·refine go 9 ?_
          exact q_cut ⟨rfl, rfl, (congrArg (fun b => some (Value.bool b)) (by simp only [goodR, p28, p38, p46, p69, p77, p88, p94, h28, h38, h46, h69, h77, h88, h94, Int.reduceEq, reduceIte, if_true, if_false, decide_true, decide_false, bS])), trivial⟩ (by rw [keepR, if_neg p38, if_neg p46, if_neg p69, if_pos p77]; rfl) rfl
        ·refine go 15 ?_
         exact q_cut ⟨rfl, rfl, (congrArg (fun b => some (Value.bool b)) (by simp only [goodR, p28, p38, p46, p69, p77, p88, h28, h38, h46, h69, h77, h88, Int.reduceEq, reduceIte, if_true, if_false, decide_true, decide_false, bS])), trivial⟩ (by rw [keepR, if_neg p38, if_neg p46, if_neg p69, if_pos p77]; rfl) rfl
       ·refine go 3 ?_
        exact q_cut ⟨rfl, rfl, (congrArg (fun b => some (Value.bool b)) (by simp only [goodR, p28, p38, p46, p69, p77, h28, h38, h46, h69, h77, Int.reduceEq, reduceIte, if_true, if_false, decide_true, decide_false, bS])), trivial⟩ (by rw [keepR, if_neg p38, if_neg p46, if_neg p69, if_neg p77]; rfl) rfl
   ·refine go 4 ?_
    refine sxb 101 rfl (fun h101 p101 => ?_) (fun h101 p101 => ?_)
    ·refine go 2 ?_
     refine o_cons (o_yes rfl rfl h101 (o_val rfl (v_steql T.eqg_56 (eqS_Evt (keepR e) e) rfl rfl) ?_))
     refine go 5 ?_
     refine fin1 rfl rfl ?_
     exact q_v (congrArg Value.bool (by rw [← validER_eq]; simp only [validER, h28, h101, bS]))
    ·refine go 8 ?_
     refine fin1 rfl rfl ?_
     exact q_v (congrArg Value.bool (by rw [← validER_eq]; simp only [validER, h28, h101, bS]))

theorem ref08get (I : IMap) (v : Value) (l : List Kind) (hv : RdS I v l) (k s : ByteArray) :
    FnE Tryz.prog 208 #[.agg #[v], .string k, .string s] I (SlotIs I (slotF l k s)) := by
 refine enter Tryz.func208 Tryz.call208 rfl Tryz.ntmps208 rfl (fun w0 => ?_)
 refine go 3 ?_
 refine o_box _ rfl rfl rfl (fun g3 => ?_)
 refine go 1 ?_
 refine o_alloc he rfl (fun g6 => ?_)
 refine go 8 ?_
 refine o_callE (refFind I _ l hv k) rfl rfl (fun v14 q14 => ?_)
 obtain ⟨vs, rfl, ss, rfl, hsl⟩ := q14
 obtain ⟨A, c0, rfl, hA, hc, hm⟩ := hsl
 refine go 4 ?_
 refine o_alloc he rfl (fun g8 => ?_)
 refine go 1 ?_
 refine o_stw _ he rfl rfl rfl rfl rfl (by rfl) ?_
 refine go 10 ?_
 refine bring2 ?_
 refine sx_drop ?_
 refine c_loop (α := Nat) 0 (fun i => I)
  (fun i => [(2, .string s), (6, .pointer (some ⟨g6, 0, none⟩)), (8, .pointer (some ⟨g8, 0, none⟩)), (10, .int .i64 ((i : Nat) : Int))])
  (fun i => [.blk g8 82 (((findK l k).getD zKind).cells (.slice A ((findK l k).getD zKind).slots.length c0)), .blk g6 84 [.string ⟨#[]⟩, .slice none 0 0, .int .i64 0]])
  (fun i => i ≤ ((findK l k).getD zKind).slots.length ∧ ∀ j x, j < i → ((findK l k).getD zKind).slots[j]? = some x → (fun x => decide (Slot.name x = s)) x = false)
  (fun i => ((findK l k).getD zKind).slots.length - i) ⟨Nat.zero_le _, fun j x hj => absurd hj (Nat.not_lt_zero j)⟩ rfl sb rfl ?_
 intro i ⟨hi, hn⟩
 refine go 10 ?_
 refine cb rfl (fun h21 p21 => ?_) (fun h21 p21 => ?_)
 ·have hlt : i < ((findK l k).getD zKind).slots.length := by omega
  refine go 9 ?_
  obtain ⟨b27, o27, w27, e27, c27, r27⟩ := RdA.at_ hA (i := i) hlt
  obtain ⟨q27, rfl, B27, d27, rfl, hB27, hd27, hm27⟩ := r27
  refine o_v rfl (v_idx he rfl rfl e27 (i) (by omega) hlt) ?_
  refine go 1 ?_
  refine o_v rfl (v_ldI he rfl (c27 0 _ rfl)) ?_
  refine go 4 ?_
  refine cb rfl (fun h31 p31 => ?_) (fun h31 p31 => ?_)
  ·refine go 5 ?_
   obtain ⟨b35, o35, w35, e35, c35, r35⟩ := RdA.at_ hA (i := i) hlt
   obtain ⟨q35, rfl, B35, d35, rfl, hB35, hd35, hm35⟩ := r35
   refine o_v rfl (v_idx he rfl rfl e35 (i) (by omega) hlt) ?_
   refine o_v rfl (v_ldIa he rfl c35 rfl) ?_
   refine go 1 ?_
   refine bring1 ?_
   refine o_stw _ he rfl rfl rfl rfl rfl rfl ?_
   refine go 9 ?_
   refine fin2 rfl ⟨_, _, _, rfl, m0, .inr ⟨_, he, rfl, rfl⟩⟩ rfl ?_
   exact q_e (SlotIs.of (find_at (p := fun x => decide (Slot.name x = s)) hlt h31 hn) ⟨_, rfl, B35, d35, rfl, hB35, hd35, hm35⟩)
  ·refine go 9 ?_
   exact q_next (i + 1) ⟨by omega, idx_next (p := fun x => decide (Slot.name x = s)) hn hlt h31⟩ (by omega) rfl sb rfl
 ·refine go 8 ?_
  refine o_val rfl (v_build (pl := [(0, 1), (1, 1), (2, 1)]) he he rfl rfl) ?_
  refine go 1 ?_
  refine bring1 ?_
  refine o_stw _ he rfl rfl rfl rfl rfl rfl ?_
  refine go 4 ?_
  refine fin2 rfl ⟨_, _, _, rfl, m0, .inr ⟨_, he, rfl, rfl⟩⟩ rfl ?_
  exact q_e (SlotIs.none (find_no (p := fun x => decide (Slot.name x = s)) (fun j x hj => hn j x (by omega))))

theorem ref08Takes (I : IMap) (v : Value) (l : List Kind) (hv : RdS I v l) (k s p : ByteArray) :
    FnV Tryz.prog 187 #[.agg #[v], .string k, .string s, .string p] I (.bool (takesF l k s p)) := by
 refine enter Tryz.func187 Tryz.call187 rfl Tryz.ntmps187 rfl (fun w0 => ?_)
 refine go 3 ?_
 refine o_box _ rfl rfl rfl (fun g4 => ?_)
 refine go 9 ?_
 refine o_callE (ref08get I _ l hv k s) rfl rfl (fun v15 q15 => ?_)
 obtain ⟨vs, rfl, ss, rfl, hsl⟩ := q15
 refine go 4 ?_
 refine o_alloc he rfl (fun g9 => ?_)
 refine go 1 ?_
 refine o_stw _ he rfl rfl rfl rfl rfl (by simp [Slot.cells, hsl.one]; exact ⟨rfl, rfl⟩) ?_
 refine go 7 ?_
 refine sxb 19 rfl (fun h19 p19 => ?_) (fun h19 p19 => ?_)
 ·refine go 4 ?_
  refine o_yes rfl rfl h19 (o_callV (in08 I _ _ p hsl) rfl rfl ?_)
  refine go 5 ?_
  refine fin1 rfl rfl ?_
  exact q_v (congrArg Value.bool (by revert h19; unfold takesF; cases slotF l k s <;> simp))
 ·refine go 9 ?_
  refine fin1 rfl rfl ?_
  exact q_v (congrArg Value.bool (by revert h19; unfold takesF; cases slotF l k s <;> simp))

theorem ref10amount (I : IMap) (x : Ivl) :
    FnV Tryz.prog 207 #[.agg x.cells.toArray] I (.bool (lifeOk x)) := by
 refine enter Tryz.func207 Tryz.call207 rfl Tryz.ntmps207 rfl (fun w0 => ?_)
 refine go 3 ?_
 refine o_box _ rfl rfl rfl (fun g1 => ?_)
 refine go 9 ?_
 refine sxb 6 rfl (fun h6 p6 => ?_) (fun h6 p6 => ?_)
 ·refine go 7 ?_
  refine sxb 13 rfl (fun h13 p13 => ?_) (fun h13 p13 => ?_)
  ·refine go 8 ?_
   refine fin1 rfl rfl ?_
   exact q_v (congrArg Value.bool (by simp only [lifeOk, h6, h13, bS]))
  ·refine go 8 ?_
   refine fin1 rfl rfl ?_
   exact q_v (congrArg Value.bool (by simp only [lifeOk, h6, h13, bS]))
 ·refine go 15 ?_
  refine fin1 rfl rfl ?_
  exact q_v (congrArg Value.bool (by simp only [lifeOk, h6, bS]))

theorem ref10own (I : IMap) (v : Value) (l : List Kind) (hv : RdS I v l) (p : Part) (D : Option Addr) (d : Nat) (hD : RdS I (.slice D p.props.length d) p.props) (hs : SmP p) :
    FnV Tryz.prog 185 #[.agg #[v], .agg (p.cells (.slice D p.props.length d)).toArray] I (.bool (rightP l p)) := by
 have hDA : RdA I D p.props := (by obtain ⟨_, _, e, h, _⟩ := hD; cases e; exact h)
 have hDl : p.props.length ≤ d ∧ d ≤ 9223372036854775807 := (by obtain ⟨_, _, e, h, h1, h2⟩ := hD; cases e; exact ⟨h1, h2⟩)
 refine enter Tryz.func185 Tryz.call185 rfl Tryz.ntmps185 rfl (fun w0 => ?_)
 refine go 3 ?_
 refine o_box _ rfl rfl rfl (fun g2 => ?_)
 refine go 1 ?_
 refine o_box _ rfl rfl rfl (fun g3 => ?_)
 refine go 9 ?_
 refine o_callE (refFind I _ l hv p.kind) rfl rfl (fun v13 q13 => ?_)
 obtain ⟨vs, rfl, ss, rfl, hsl⟩ := q13
 refine go 4 ?_
 refine o_alloc he rfl (fun g5 => ?_)
 refine go 1 ?_
 refine o_stw _ he rfl rfl rfl rfl rfl (by simp [Kind.cells, hsl.one]; exact ⟨rfl, rfl⟩) ?_
 refine go 5 ?_
 refine c_cut (I' := I) (L' := [(2, .pointer (some ⟨g2, 0, none⟩)), (3, .pointer (some ⟨g3, 0, none⟩)), (46, .bool (ownBadR l p))]) (H' := [.blk g3 170 (p.cells (.slice D p.props.length d)), .blk g2 24 [v]]) ?_ ?_
 ·refine go 4 ?_
  refine sxb 18 rfl (fun h18 p18 => ?_) (fun h18 p18 => ?_)
  ·refine go 30 ?_
   refine sx_drop ?_
   exact q_cut ⟨rfl, rfl, (congrArg (fun b => some (Value.bool b)) (by simp only [ownBadR, h18, bS])), trivial⟩ rfl rfl
  ·refine go 3 ?_
   refine o_yes rfl rfl h18 (o_callV (name05 _ _ hs.1) rfl rfl ?_)
   refine go 3 ?_
   refine sxb 24 rfl (fun h24 p24 => ?_) (fun h24 p24 => ?_)
   ·refine go 24 ?_
    refine sx_drop ?_
    exact q_cut ⟨rfl, rfl, (congrArg (fun b => some (Value.bool b)) (by simp only [ownBadR, h18, h24, bS])), trivial⟩ rfl rfl
   ·refine go 5 ?_
    refine sxb 29 rfl (fun h29 p29 => ?_) (fun h29 p29 => ?_)
    ·refine go 19 ?_
     refine sx_drop ?_
     exact q_cut ⟨rfl, rfl, (congrArg (fun b => some (Value.bool b)) (by simp only [ownBadR, h18, h24, h29, bS])), trivial⟩ rfl rfl
    ·refine go 7 ?_
     refine sxb 36 rfl (fun h36 p36 => ?_) (fun h36 p36 => ?_)
     ·refine go 12 ?_
      refine sx_drop ?_
      exact q_cut ⟨rfl, rfl, (congrArg (fun b => some (Value.bool b)) (by simp only [ownBadR, h18, h24, h29, h36, bS])), trivial⟩ rfl rfl
     ·refine go 5 ?_
      refine sxb 41 rfl (fun h41 p41 => ?_) (fun h41 p41 => ?_)
      ·refine go 7 ?_
       refine sx_drop ?_
       exact q_cut ⟨rfl, rfl, (congrArg (fun b => some (Value.bool b)) (by simp only [ownBadR, h18, h24, h29, h36, h41, bS])), trivial⟩ rfl rfl
      ·refine go 7 ?_
       refine sx_drop ?_
       exact q_cut ⟨rfl, rfl, (congrArg (fun b => some (Value.bool b)) (by simp only [ownBadR, h18, h24, h29, h36, h41, bS])), trivial⟩ rfl rfl
 ·refine cb rfl (fun h46 p46 => ?_) (fun h46 p46 => ?_)
  ·refine go 7 ?_
   refine fin1 rfl rfl ?_
   exact q_v (congrArg Value.bool (by rw [← ownR_eq]; simp only [ownR, h46]; rfl))
  ·refine go 9 ?_
   refine c_loop (α := Nat) 0 (fun i => I)
    (fun i => [(2, .pointer (some ⟨g2, 0, none⟩)), (3, .pointer (some ⟨g3, 0, none⟩)), (7, .int .i64 ((i : Nat) : Int))])
    (fun i => [.blk g3 170 (p.cells (.slice D p.props.length d)), .blk g2 24 [v]])
    (fun i => i ≤ p.props.length ∧ allP propR p.props i = true)
    (fun i => p.props.length - i) ⟨Nat.zero_le _, rfl⟩ rfl sb rfl ?_
   intro i ⟨hi, hn⟩
   refine go 10 ?_
   refine cb rfl (fun h51 p51 => ?_) (fun h51 p51 => ?_)
   ·have hlt : i < p.props.length := by omega
    refine go 9 ?_
    obtain ⟨b57, o57, w57, e57, c57, r57⟩ := RdA.at_ hDA (i := i) hlt
    obtain rfl := r57
    refine o_v rfl (v_idx he rfl rfl e57 (i) (by omega) hlt) ?_
    refine o_v rfl (v_ldIa he rfl c57 rfl) ?_
    refine go 1 ?_
    refine o_alloc he rfl (fun g8 => ?_)
    refine go 1 ?_
    refine o_stw _ he rfl rfl rfl rfl rfl rfl ?_
    refine go 3 ?_
    refine c_cut (I' := I) (L' := [(2, .pointer (some ⟨g2, 0, none⟩)), (3, .pointer (some ⟨g3, 0, none⟩)), (7, .int .i64 ((i : Nat) : Int)), (90, .bool (((!nameRef p.props[i].key || decide (((p.props[i].value.size : Nat) : Int) < 1)) || decide ((200 : Int) < (p.props[i].value.size : Nat))) || notAfter Prp.key (p.props.take i) p.props[i]))]) (H' := [.blk g3 170 (p.cells (.slice D p.props.length d)), .blk g2 24 [v]]) ?_ ?_
    ·refine d_startH T.mixed ?_
     refine d_tv 0 rfl rfl (by kernel_rfl) rfl (.refl _) rfl (v_fieldAddr he rfl) ?_
     refine d_tv 1 rfl rfl (by kernel_rfl) rfl (.refl _) rfl (v_ld m0 he rfl rfl) ?_
     refine d_one 2 (by kernel_rfl) rfl ?_
     refine o_callV (name05 _ _ (hs.2 _ (List.getElem_mem hlt))) rfl rfl ?_
     refine d_on (fun _ m => m.keeps (.refl _)) ?_
     refine d_tv 3 rfl rfl (by kernel_rfl) rfl (.refl _) rfl (v_not rfl) ?_
     refine d_tv 4 rfl rfl (by kernel_rfl) rfl (.refl _) rfl (v_move rfl) ?_
     refine sxb 63 rfl (fun h63 p63 => ?_) (fun h63 p63 => ?_)
     ·refine d_t 5 rfl rfl (by kernel_rfl) rfl (fun _ m => m.keeps (.refl _)) (y_no rfl rfl h63) ?_
      refine d_t 6 rfl rfl (by kernel_rfl) rfl (fun _ m => m.keeps (.refl _)) (y_no rfl rfl h63) ?_
      refine d_t 7 rfl rfl (by kernel_rfl) rfl (fun _ m => m.keeps (.refl _)) (y_no rfl rfl h63) ?_
      refine d_t 8 rfl rfl (by kernel_rfl) rfl (fun _ m => m.keeps (.refl _)) (y_no rfl rfl h63) ?_
      refine d_tv 9 rfl rfl (by kernel_rfl) rfl (.refl _) rfl (v_or_t h63 rfl) ?_
      refine d_tv 10 rfl rfl (by kernel_rfl) rfl (.refl _) rfl (v_move rfl) ?_
      refine d_t 11 rfl rfl (by kernel_rfl) rfl (fun _ m => m.keeps (.refl _)) (y_no rfl rfl rfl) ?_
      refine d_t 12 rfl rfl (by kernel_rfl) rfl (fun _ m => m.keeps (.refl _)) (y_no rfl rfl rfl) ?_
      refine d_t 13 rfl rfl (by kernel_rfl) rfl (fun _ m => m.keeps (.refl _)) (y_no rfl rfl rfl) ?_
      refine d_t 14 rfl rfl (by kernel_rfl) rfl (fun _ m => m.keeps (.refl _)) (y_no rfl rfl rfl) ?_
      refine d_tv 15 rfl rfl (by kernel_rfl) rfl (.refl _) rfl (v_or_t rfl rfl) ?_
      refine d_tv 16 rfl rfl (by kernel_rfl) rfl (.refl _) rfl (v_move rfl) ?_
      refine d_t 17 rfl rfl (by kernel_rfl) rfl (fun _ m => m.keeps (.refl _)) (y_no rfl rfl rfl) ?_
      refine d_t 18 rfl rfl (by kernel_rfl) rfl (fun _ m => m.keeps (.refl _)) (y_no rfl rfl rfl) ?_
      refine d_t 19 rfl rfl (by kernel_rfl) rfl (fun _ m => m.keeps (.refl _)) (y_no rfl rfl rfl) ?_
      refine d_t 20 rfl rfl (by kernel_rfl) rfl (fun _ m => m.keeps (.refl _)) (y_nou rfl rfl) ?_
      refine d_t 21 rfl rfl (by kernel_rfl) rfl (fun _ m => m.keeps (.refl _)) (y_nou rfl rfl) ?_
      refine d_t 22 rfl rfl (by kernel_rfl) rfl (fun _ m => m.keeps (.refl _)) (y_nou rfl rfl) ?_
      refine d_t 23 rfl rfl (by kernel_rfl) rfl (fun _ m => m.keeps (.refl _)) (y_nou rfl rfl) ?_
      refine d_t 24 rfl rfl (by kernel_rfl) rfl (fun _ m => m.keeps (.refl _)) (y_nou rfl rfl) ?_
      refine d_t 25 rfl rfl (by kernel_rfl) rfl (fun _ m => m.keeps (.refl _)) (y_nou rfl rfl) ?_
      refine d_t 26 rfl rfl (by kernel_rfl) rfl (fun _ m => m.keeps (.refl _)) (y_nou rfl rfl) ?_
      refine d_t 27 rfl rfl (by kernel_rfl) rfl (fun _ m => m.keeps (.refl _)) (y_nou rfl rfl) ?_
      refine d_t 28 rfl rfl (by kernel_rfl) rfl (fun _ m => m.keeps (.refl _)) (y_nou rfl rfl) ?_
      refine d_t 29 rfl rfl (by kernel_rfl) rfl (fun _ m => m.keeps (.refl _)) (y_nou rfl rfl) ?_
      refine d_t 30 rfl rfl (by kernel_rfl) rfl (fun _ m => m.keeps (.refl _)) (y_no rfl rfl rfl) ?_
      refine d_tv 31 rfl rfl (by kernel_rfl) rfl (.refl _) rfl (v_or_t rfl rfl) ?_
      refine d_done (by kernel_rfl) ?_
      refine go 1 ?_
      refine sx_drop ?_
      exact q_cut ⟨rfl, rfl, rfl, (congrArg (fun b => some (Value.bool b)) (by first | (simp only [h51, h63, bS]; done) | (simp only [notAfter_at (nm := Prp.key) h0i hlt, h51, h63, bS]; done) | (simp only [notAfter_zero (nm := Prp.key) (l := p.props) h0i, h51, h63, bS]; done))), trivial⟩ rfl rfl
     ·refine d_t 5 rfl rfl (by kernel_rfl) rfl (fun _ m => m.keeps (.refl _)) (y_yes rfl rfl h63 (v_fieldAddr he rfl)) ?_
      refine d_t 6 rfl rfl (by kernel_rfl) rfl (fun _ m => m.keeps (.refl _)) (y_yes rfl rfl h63 (v_ld m0 he rfl rfl)) ?_
      refine d_t 7 rfl rfl (by kernel_rfl) rfl (fun _ m => m.keeps (.refl _)) (y_yes rfl rfl h63 (v_len_str he rfl)) ?_
      refine d_t 8 rfl rfl (by kernel_rfl) rfl (fun _ m => m.keeps (.refl _)) (y_yes rfl rfl h63 (v_lss rfl rfl)) ?_
      refine d_tv 9 rfl rfl (by kernel_rfl) rfl (.refl _) rfl (v_or_f h63 rfl rfl) ?_
      refine d_tv 10 rfl rfl (by kernel_rfl) rfl (.refl _) rfl (v_move rfl) ?_
      refine sxb 69 rfl (fun h69 p69 => ?_) (fun h69 p69 => ?_)
      ·refine d_t 11 rfl rfl (by kernel_rfl) rfl (fun _ m => m.keeps (.refl _)) (y_no rfl rfl h69) ?_
       refine d_t 12 rfl rfl (by kernel_rfl) rfl (fun _ m => m.keeps (.refl _)) (y_no rfl rfl h69) ?_
       refine d_t 13 rfl rfl (by kernel_rfl) rfl (fun _ m => m.keeps (.refl _)) (y_no rfl rfl h69) ?_
       refine d_t 14 rfl rfl (by kernel_rfl) rfl (fun _ m => m.keeps (.refl _)) (y_no rfl rfl h69) ?_
       refine d_tv 15 rfl rfl (by kernel_rfl) rfl (.refl _) rfl (v_or_t h69 rfl) ?_
       refine d_tv 16 rfl rfl (by kernel_rfl) rfl (.refl _) rfl (v_move rfl) ?_
       refine d_t 17 rfl rfl (by kernel_rfl) rfl (fun _ m => m.keeps (.refl _)) (y_no rfl rfl rfl) ?_
       refine d_t 18 rfl rfl (by kernel_rfl) rfl (fun _ m => m.keeps (.refl _)) (y_no rfl rfl rfl) ?_
       refine d_t 19 rfl rfl (by kernel_rfl) rfl (fun _ m => m.keeps (.refl _)) (y_no rfl rfl rfl) ?_
       refine d_t 20 rfl rfl (by kernel_rfl) rfl (fun _ m => m.keeps (.refl _)) (y_nou rfl rfl) ?_
       refine d_t 21 rfl rfl (by kernel_rfl) rfl (fun _ m => m.keeps (.refl _)) (y_nou rfl rfl) ?_
       refine d_t 22 rfl rfl (by kernel_rfl) rfl (fun _ m => m.keeps (.refl _)) (y_nou rfl rfl) ?_
       refine d_t 23 rfl rfl (by kernel_rfl) rfl (fun _ m => m.keeps (.refl _)) (y_nou rfl rfl) ?_
       refine d_t 24 rfl rfl (by kernel_rfl) rfl (fun _ m => m.keeps (.refl _)) (y_nou rfl rfl) ?_
       refine d_t 25 rfl rfl (by kernel_rfl) rfl (fun _ m => m.keeps (.refl _)) (y_nou rfl rfl) ?_
       refine d_t 26 rfl rfl (by kernel_rfl) rfl (fun _ m => m.keeps (.refl _)) (y_nou rfl rfl) ?_
       refine d_t 27 rfl rfl (by kernel_rfl) rfl (fun _ m => m.keeps (.refl _)) (y_nou rfl rfl) ?_
       refine d_t 28 rfl rfl (by kernel_rfl) rfl (fun _ m => m.keeps (.refl _)) (y_nou rfl rfl) ?_
       refine d_t 29 rfl rfl (by kernel_rfl) rfl (fun _ m => m.keeps (.refl _)) (y_nou rfl rfl) ?_
       refine d_t 30 rfl rfl (by kernel_rfl) rfl (fun _ m => m.keeps (.refl _)) (y_no rfl rfl rfl) ?_
       refine d_tv 31 rfl rfl (by kernel_rfl) rfl (.refl _) rfl (v_or_t rfl rfl) ?_
       refine d_done (by kernel_rfl) ?_
       refine go 1 ?_
       refine sx_drop ?_
       exact q_cut ⟨rfl, rfl, rfl, (congrArg (fun b => some (Value.bool b)) (by first | (simp only [h51, h63, h69, bS]; done) | (simp only [notAfter_at (nm := Prp.key) h0i hlt, h51, h63, h69, bS]; done) | (simp only [notAfter_zero (nm := Prp.key) (l := p.props) h0i, h51, h63, h69, bS]; done))), trivial⟩ rfl rfl
      ·refine d_t 11 rfl rfl (by kernel_rfl) rfl (fun _ m => m.keeps (.refl _)) (y_yes rfl rfl h69 (v_fieldAddr he rfl)) ?_
       refine d_t 12 rfl rfl (by kernel_rfl) rfl (fun _ m => m.keeps (.refl _)) (y_yes rfl rfl h69 (v_ld m0 he rfl rfl)) ?_
       refine d_t 13 rfl rfl (by kernel_rfl) rfl (fun _ m => m.keeps (.refl _)) (y_yes rfl rfl h69 (v_len_str he rfl)) ?_
       refine d_t 14 rfl rfl (by kernel_rfl) rfl (fun _ m => m.keeps (.refl _)) (y_yes rfl rfl h69 (v_gtr rfl rfl)) ?_
       refine d_tv 15 rfl rfl (by kernel_rfl) rfl (.refl _) rfl (v_or_f h69 rfl rfl) ?_
       refine d_tv 16 rfl rfl (by kernel_rfl) rfl (.refl _) rfl (v_move rfl) ?_
       refine sxb 75 rfl (fun h75 p75 => ?_) (fun h75 p75 => ?_)
       ·refine d_t 17 rfl rfl (by kernel_rfl) rfl (fun _ m => m.keeps (.refl _)) (y_no rfl rfl h75) ?_
        refine d_t 18 rfl rfl (by kernel_rfl) rfl (fun _ m => m.keeps (.refl _)) (y_no rfl rfl h75) ?_
        refine d_t 19 rfl rfl (by kernel_rfl) rfl (fun _ m => m.keeps (.refl _)) (y_no rfl rfl h75) ?_
        refine d_t 20 rfl rfl (by kernel_rfl) rfl (fun _ m => m.keeps (.refl _)) (y_nou rfl rfl) ?_
        refine d_t 21 rfl rfl (by kernel_rfl) rfl (fun _ m => m.keeps (.refl _)) (y_nou rfl rfl) ?_
        refine d_t 22 rfl rfl (by kernel_rfl) rfl (fun _ m => m.keeps (.refl _)) (y_nou rfl rfl) ?_
        refine d_t 23 rfl rfl (by kernel_rfl) rfl (fun _ m => m.keeps (.refl _)) (y_nou rfl rfl) ?_
        refine d_t 24 rfl rfl (by kernel_rfl) rfl (fun _ m => m.keeps (.refl _)) (y_nou rfl rfl) ?_
        refine d_t 25 rfl rfl (by kernel_rfl) rfl (fun _ m => m.keeps (.refl _)) (y_nou rfl rfl) ?_
        refine d_t 26 rfl rfl (by kernel_rfl) rfl (fun _ m => m.keeps (.refl _)) (y_nou rfl rfl) ?_
        refine d_t 27 rfl rfl (by kernel_rfl) rfl (fun _ m => m.keeps (.refl _)) (y_nou rfl rfl) ?_
        refine d_t 28 rfl rfl (by kernel_rfl) rfl (fun _ m => m.keeps (.refl _)) (y_nou rfl rfl) ?_
        refine d_t 29 rfl rfl (by kernel_rfl) rfl (fun _ m => m.keeps (.refl _)) (y_nou rfl rfl) ?_
        refine d_t 30 rfl rfl (by kernel_rfl) rfl (fun _ m => m.keeps (.refl _)) (y_no rfl rfl h75) ?_
        refine d_tv 31 rfl rfl (by kernel_rfl) rfl (.refl _) rfl (v_or_t h75 rfl) ?_
        refine d_done (by kernel_rfl) ?_
        refine go 1 ?_
        refine sx_drop ?_
        exact q_cut ⟨rfl, rfl, rfl, (congrArg (fun b => some (Value.bool b)) (by first | (simp only [h51, h63, h69, h75, bS]; done) | (simp only [notAfter_at (nm := Prp.key) h0i hlt, h51, h63, h69, h75, bS]; done) | (simp only [notAfter_zero (nm := Prp.key) (l := p.props) h0i, h51, h63, h69, h75, bS]; done))), trivial⟩ rfl rfl
       ·refine d_t 17 rfl rfl (by kernel_rfl) rfl (fun _ m => m.keeps (.refl _)) (y_yes rfl rfl h75 (v_move rfl)) ?_
        refine d_t 18 rfl rfl (by kernel_rfl) rfl (fun _ m => m.keeps (.refl _)) (y_yes rfl rfl h75 (v_gtr rfl rfl)) ?_
        refine d_t 19 rfl rfl (by kernel_rfl) rfl (fun _ m => m.keeps (.refl _)) (y_yes rfl rfl h75 (v_move rfl)) ?_
        refine sxb 78 rfl (fun h78 p78 => ?_) (fun h78 p78 => ?_)
        ·have h0i : 0 < i := by omega
         refine d_t 20 rfl rfl (by kernel_rfl) rfl (fun _ m => m.keeps (.refl _)) (y_yes rfl rfl h78 (v_fieldAddr he rfl)) ?_
         refine d_t 21 rfl rfl (by kernel_rfl) rfl (fun _ m => m.keeps (.refl _)) (y_yes rfl rfl h78 (v_ld m1 he rfl rfl)) ?_
         refine d_t 22 rfl rfl (by kernel_rfl) rfl (fun _ m => m.keeps (.refl _)) (y_yes rfl rfl h78 (v_move rfl)) ?_
         refine d_t 23 rfl rfl (by kernel_rfl) rfl (fun _ m => m.keeps (.refl _)) (y_yes rfl rfl h78 (OV.cast (u := .int .i64 ((i - 1 : Nat) : Int)) (v_sub rfl rfl ⟨by omega, by omega⟩) (congrArg (Value.int .i64) (by omega)))) ?_
         obtain ⟨b83, o83, w83, e83, c83, r83⟩ := RdA.at_ hDA (i := i - 1) (by omega)
         obtain rfl := r83
         refine d_t 24 rfl rfl (by kernel_rfl) rfl (fun _ m => m.keeps (.refl _)) (y_yes rfl rfl h78 (v_idx he rfl rfl e83 (i - 1) (by omega) (by omega))) ?_
         refine d_t 25 rfl rfl (by kernel_rfl) rfl (fun _ m => m.keeps (.refl _)) (y_yes rfl rfl h78 (v_fieldAddr he rfl)) ?_
         refine d_t 26 rfl rfl (by kernel_rfl) rfl (fun _ m => m.keeps (.refl _)) (y_yes rfl rfl h78 (v_ldI he rfl (c83 0 _ rfl))) ?_
         refine d_t 27 rfl rfl (by kernel_rfl) rfl (fun _ m => m.keeps (.refl _)) (y_yes rfl rfl h78 (v_fieldAddr he rfl)) ?_
         refine d_t 28 rfl rfl (by kernel_rfl) rfl (fun _ m => m.keeps (.refl _)) (y_yes rfl rfl h78 (v_ld m0 he rfl rfl)) ?_
         refine d_t 29 rfl rfl (by kernel_rfl) rfl (fun _ m => m.keeps (.refl _)) (y_yes rfl rfl h78 (v_sgeq rfl rfl)) ?_
         refine d_t 30 rfl rfl (by kernel_rfl) rfl (fun _ m => m.keeps (.refl _)) (y_yes rfl rfl h75 (v_and_t h78 rfl rfl)) ?_
         refine d_tv 31 rfl rfl (by kernel_rfl) rfl (.refl _) rfl (v_or_f h75 rfl rfl) ?_
         refine d_done (by kernel_rfl) ?_
         refine go 1 ?_
         refine sx_drop ?_
         exact q_cut ⟨rfl, rfl, rfl, (congrArg (fun b => some (Value.bool b)) (by first | (simp only [h51, h63, h69, h75, h78, bS]; done) | (simp only [notAfter_at (nm := Prp.key) h0i hlt, h51, h63, h69, h75, h78, bS]; done) | (simp only [notAfter_zero (nm := Prp.key) (l := p.props) h0i, h51, h63, h69, h75, h78, bS]; done))), trivial⟩ rfl rfl
        ·have h0i : ¬ 0 < i := by omega
         refine d_t 20 rfl rfl (by kernel_rfl) rfl (fun _ m => m.keeps (.refl _)) (y_no rfl rfl h78) ?_
         refine d_t 21 rfl rfl (by kernel_rfl) rfl (fun _ m => m.keeps (.refl _)) (y_no rfl rfl h78) ?_
         refine d_t 22 rfl rfl (by kernel_rfl) rfl (fun _ m => m.keeps (.refl _)) (y_no rfl rfl h78) ?_
         refine d_t 23 rfl rfl (by kernel_rfl) rfl (fun _ m => m.keeps (.refl _)) (y_no rfl rfl h78) ?_
         refine d_t 24 rfl rfl (by kernel_rfl) rfl (fun _ m => m.keeps (.refl _)) (y_no rfl rfl h78) ?_
         refine d_t 25 rfl rfl (by kernel_rfl) rfl (fun _ m => m.keeps (.refl _)) (y_no rfl rfl h78) ?_
         refine d_t 26 rfl rfl (by kernel_rfl) rfl (fun _ m => m.keeps (.refl _)) (y_no rfl rfl h78) ?_
         refine d_t 27 rfl rfl (by kernel_rfl) rfl (fun _ m => m.keeps (.refl _)) (y_no rfl rfl h78) ?_
         refine d_t 28 rfl rfl (by kernel_rfl) rfl (fun _ m => m.keeps (.refl _)) (y_no rfl rfl h78) ?_
         refine d_t 29 rfl rfl (by kernel_rfl) rfl (fun _ m => m.keeps (.refl _)) (y_no rfl rfl h78) ?_
         refine d_t 30 rfl rfl (by kernel_rfl) rfl (fun _ m => m.keeps (.refl _)) (y_yes rfl rfl h75 (v_and_f h78 rfl)) ?_
         refine d_tv 31 rfl rfl (by kernel_rfl) rfl (.refl _) rfl (v_or_f h75 rfl rfl) ?_
         refine d_done (by kernel_rfl) ?_
         refine go 1 ?_
         refine sx_drop ?_
         exact q_cut ⟨rfl, rfl, rfl, (congrArg (fun b => some (Value.bool b)) (by first | (simp only [h51, h63, h69, h75, h78, bS]; done) | (simp only [notAfter_at (nm := Prp.key) h0i hlt, h51, h63, h69, h75, h78, bS]; done) | (simp only [notAfter_zero (nm := Prp.key) (l := p.props) h0i, h51, h63, h69, h75, h78, bS]; done))), trivial⟩ rfl rfl
    ·refine cb rfl (fun h90 p90 => ?_) (fun h90 p90 => ?_)
     ·refine go 11 ?_
      refine fin1 rfl rfl ?_
      exact q_v (congrArg Value.bool (by rw [← ownR_eq]; simp only [ownR, h46, allP_not hlt (show propR (p.props.take i) p.props[i] = false by simp only [propR, h90]; rfl), bS]))
     ·refine go 9 ?_
      exact q_next (i + 1) ⟨by omega, allP_succ hn hlt (by simp only [propR, h90]; rfl)⟩ (by omega) rfl sb rfl
   ·have hAll : allP propR p.props p.props.length = true := (show i = p.props.length by omega) ▸ hn
    refine go 9 ?_
    refine o_v rfl (v_ldp (p.life.km.cells) m0 he rfl rfl rfl) ?_
    refine go 1 ?_
    refine o_callV (ref10amount _ p.life.km) rfl rfl ?_
    refine go 1 ?_
    refine sxb 95 rfl (fun h95 p95 => ?_) (fun h95 p95 => ?_)
    ·refine go 2 ?_
     refine o_cons (o_yes rfl rfl h95 (o_val rfl (v_ldp (p.life.cycles.cells) m0 he rfl rfl rfl) ?_))
     refine go 1 ?_
     refine o_yes rfl rfl h95 (o_callV (ref10amount _ p.life.cycles) rfl rfl ?_)
     refine go 2 ?_
     refine sxb 101 rfl (fun h101 p101 => ?_) (fun h101 p101 => ?_)
     ·refine go 2 ?_
      refine o_cons (o_yes rfl rfl h101 (o_val rfl (v_ldp (p.life.damage.cells) m0 he rfl rfl rfl) ?_))
      refine go 1 ?_
      refine o_yes rfl rfl h101 (o_callV (ref10amount _ p.life.damage) rfl rfl ?_)
      refine go 5 ?_
      refine fin1 rfl rfl ?_
      exact q_v (congrArg Value.bool (by rw [← ownR_eq]; simp only [ownR, h46, hAll, h51, h95, h101, bS]))
     ·refine go 9 ?_
      refine fin1 rfl rfl ?_
      exact q_v (congrArg Value.bool (by rw [← ownR_eq]; simp only [ownR, h46, hAll, h51, h95, h101, bS]))
    ·refine go 15 ?_
     refine fin1 rfl rfl ?_
     exact q_v (congrArg Value.bool (by rw [← ownR_eq]; simp only [ownR, h46, hAll, h51, h95, bS]))

theorem ref10At (I : IMap) (v : Value) (l : List Part) (hv : RdS I v l) (s : ByteArray) :
    FnV Tryz.prog 186 #[.agg #[v], .string s] I (.int .i64 (idxF (fun p : Part => decide (p.name = s)) l)) := by
 obtain ⟨A, c0, rfl, hA, hc, hm⟩ := hv
 refine enter Tryz.func186 Tryz.call186 rfl Tryz.ntmps186 rfl (fun w0 => ?_)
 refine go 3 ?_
 refine o_box _ rfl rfl rfl (fun g2 => ?_)
 refine go 10 ?_
 refine c_loop (α := Nat) 0 (fun i => I)
  (fun i => [(1, .string s), (2, .pointer (some ⟨g2, 0, none⟩)), (5, .int .i64 ((i : Nat) : Int))])
  (fun i => [.blk g2 134 [.slice A l.length c0]])
  (fun i => i ≤ l.length ∧ ∀ j x, j < i → l[j]? = some x → (fun p : Part => decide (p.name = s)) x = false)
  (fun i => l.length - i) ⟨Nat.zero_le _, fun j x hj => absurd hj (Nat.not_lt_zero j)⟩ rfl sb rfl ?_
 intro i ⟨hi, hn⟩
 refine go 10 ?_
 refine cb rfl (fun h10 p10 => ?_) (fun h10 p10 => ?_)
 ·have hlt : i < l.length := by omega
  refine go 9 ?_
  obtain ⟨b16, o16, w16, e16, c16, r16⟩ := RdA.at_ hA (i := i) hlt
  obtain ⟨q16, rfl, B16, d16, rfl, hB16, hd16, hm16⟩ := r16
  refine o_v rfl (v_idx he rfl rfl e16 (i) (by omega) hlt) ?_
  refine go 1 ?_
  refine o_v rfl (v_ldI he rfl (c16 0 _ rfl)) ?_
  refine go 4 ?_
  refine cb rfl (fun h20 p20 => ?_) (fun h20 p20 => ?_)
  ·refine go 12 ?_
   refine fin1 rfl rfl ?_
   exact q_v (congrArg (Value.int .i64) (idxF_found (p := (fun p : Part => decide (p.name = s))) hlt h20 hn).symm)
  ·refine go 9 ?_
   exact q_next (i + 1) ⟨by omega, idx_next (p := (fun p : Part => decide (p.name = s))) hn hlt h20⟩ (by omega) rfl sb rfl
 ·refine go 11 ?_
  refine fin1 rfl rfl ?_
  exact q_v (congrArg (Value.int .i64) (idxF_none (p := (fun p : Part => decide (p.name = s))) (fun j x hj => hn j x (by omega))).symm)

theorem ref10Valid (I : IMap) (vc : Value) (c : List Kind) (hvc : RdS I vc c) (hsc : SmC c) (v : Value) (l : List Part) (hv : RdS I v l) (hsf : SmF l) :
    FnV Tryz.prog 157 #[.agg #[vc], .agg #[v]] I (.bool (validS c l)) := by
 have hv0 := hv
 obtain ⟨A, c0, rfl, hA, hc, hm⟩ := hv
 refine enter Tryz.func157 Tryz.call157 rfl Tryz.ntmps157 rfl (fun w0 => ?_)
 refine go 3 ?_
 refine o_box _ rfl rfl rfl (fun g2 => ?_)
 refine go 1 ?_
 refine o_box _ rfl rfl rfl (fun g3 => ?_)
 refine go 5 ?_
 refine c_cut (I' := I) (L' := [(2, .pointer (some ⟨g2, 0, none⟩)), (3, .pointer (some ⟨g3, 0, none⟩)), (17, .bool (!validR c || decide ((20000 : Int) < (l.length : Nat))))]) (H' := [.blk g3 134 [.slice A l.length c0], .blk g2 24 [vc]]) ?_ ?_
 ·refine go 3 ?_
  refine o_callV (refValid _ vc c hvc hsc) rfl rfl ?_
  refine go 2 ?_
  refine sxb 12 rfl (fun h12 p12 => ?_) (fun h12 p12 => ?_)
  ·refine go 7 ?_
   exact q_cut ⟨rfl, rfl, (congrArg (fun b => some (Value.bool b)) (by simp only [h12, bS])), trivial⟩ rfl rfl
  ·refine go 7 ?_
   exact q_cut ⟨rfl, rfl, (congrArg (fun b => some (Value.bool b)) (by simp only [h12, bS])), trivial⟩ rfl rfl
 ·refine cb rfl (fun h17 p17 => ?_) (fun h17 p17 => ?_)
  ·refine go 7 ?_
   refine fin1 rfl rfl ?_
   exact q_v (congrArg Value.bool (by rw [← validSR_eq]; simp only [validSR, h17]; rfl))
  ·refine go 9 ?_
   refine c_loop (α := Nat) 0 (fun i => I)
    (fun i => [(2, .pointer (some ⟨g2, 0, none⟩)), (3, .pointer (some ⟨g3, 0, none⟩)), (5, .int .i64 ((i : Nat) : Int))])
    (fun i => [.blk g3 134 [.slice A l.length c0], .blk g2 24 [vc]])
    (fun i => i ≤ l.length ∧ allP (partR c l) l i = true)
    (fun i => l.length - i) ⟨Nat.zero_le _, rfl⟩ rfl sb rfl ?_
   intro i ⟨hi, hn⟩
   refine go 10 ?_
   refine cb rfl (fun h22 p22 => ?_) (fun h22 p22 => ?_)
   ·have hlt : i < l.length := by omega
    refine go 9 ?_
    obtain ⟨b28, o28, w28, e28, c28, r28⟩ := RdA.at_ hA (i := i) hlt
    obtain ⟨q28, rfl, B28, d28, rfl, hB28, hd28, hm28⟩ := r28
    refine o_v rfl (v_idx he rfl rfl e28 (i) (by omega) hlt) ?_
    refine o_v rfl (v_ldIa he rfl c28 rfl) ?_
    refine go 1 ?_
    refine o_alloc he rfl (fun g6 => ?_)
    refine go 1 ?_
    refine o_stw _ he rfl rfl rfl rfl rfl rfl ?_
    refine go 4 ?_
    refine c_cut (I' := I) (L' := [(2, .pointer (some ⟨g2, 0, none⟩)), (3, .pointer (some ⟨g3, 0, none⟩)), (5, .int .i64 ((i : Nat) : Int)), (6, .pointer (some ⟨g6, 0, none⟩)), (58, .bool (bad1R c (l.take i) l[i]))]) (H' := [.blk g6 170 (l[i].cells (.slice B28 l[i].props.length d28)), .blk g3 134 [.slice A l.length c0], .blk g2 24 [vc]]) ?_ ?_
    ·refine d_startH T.mixed ?_
     refine d_tv 0 rfl rfl (by kernel_rfl) rfl (.refl _) rfl (v_ldw m2 he rfl rfl) ?_
     refine d_tv 1 rfl rfl (by kernel_rfl) rfl (.refl _) rfl (v_ldw m0 he rfl rfl) ?_
     refine d_one 2 (by kernel_rfl) rfl ?_
     refine o_callV (ref10own _ vc c hvc l[i] B28 d28 ⟨_, _, rfl, hB28, hd28, hm28⟩ (hsf _ (List.getElem_mem hlt))) rfl rfl ?_
     refine d_on (fun _ m => m.keeps (.refl _)) ?_
     refine d_tv 3 rfl rfl (by kernel_rfl) rfl (.refl _) rfl (v_not rfl) ?_
     refine d_tv 4 rfl rfl (by kernel_rfl) rfl (.refl _) rfl (v_move rfl) ?_
     refine sxb 34 rfl (fun h34 p34 => ?_) (fun h34 p34 => ?_)
     ·refine d_t 5 rfl rfl (by kernel_rfl) rfl (fun _ m => m.keeps (.refl _)) (y_no rfl rfl h34) ?_
      refine d_t 6 rfl rfl (by kernel_rfl) rfl (fun _ m => m.keeps (.refl _)) (y_no rfl rfl h34) ?_
      refine d_t 7 rfl rfl (by kernel_rfl) rfl (fun _ m => m.keeps (.refl _)) (y_no rfl rfl h34) ?_
      refine d_t 8 rfl rfl (by kernel_rfl) rfl (fun _ m => m.keeps (.refl _)) (y_nou rfl rfl) ?_
      refine d_t 9 rfl rfl (by kernel_rfl) rfl (fun _ m => m.keeps (.refl _)) (y_nou rfl rfl) ?_
      refine d_t 10 rfl rfl (by kernel_rfl) rfl (fun _ m => m.keeps (.refl _)) (y_nou rfl rfl) ?_
      refine d_t 11 rfl rfl (by kernel_rfl) rfl (fun _ m => m.keeps (.refl _)) (y_nou rfl rfl) ?_
      refine d_t 12 rfl rfl (by kernel_rfl) rfl (fun _ m => m.keeps (.refl _)) (y_nou rfl rfl) ?_
      refine d_t 13 rfl rfl (by kernel_rfl) rfl (fun _ m => m.keeps (.refl _)) (y_nou rfl rfl) ?_
      refine d_t 14 rfl rfl (by kernel_rfl) rfl (fun _ m => m.keeps (.refl _)) (y_nou rfl rfl) ?_
      refine d_t 15 rfl rfl (by kernel_rfl) rfl (fun _ m => m.keeps (.refl _)) (y_nou rfl rfl) ?_
      refine d_t 16 rfl rfl (by kernel_rfl) rfl (fun _ m => m.keeps (.refl _)) (y_nou rfl rfl) ?_
      refine d_t 17 rfl rfl (by kernel_rfl) rfl (fun _ m => m.keeps (.refl _)) (y_nou rfl rfl) ?_
      refine d_t 18 rfl rfl (by kernel_rfl) rfl (fun _ m => m.keeps (.refl _)) (y_no rfl rfl h34) ?_
      refine d_tv 19 rfl rfl (by kernel_rfl) rfl (.refl _) rfl (v_or_t h34 rfl) ?_
      refine d_tv 20 rfl rfl (by kernel_rfl) rfl (.refl _) rfl (v_move rfl) ?_
      refine d_t 21 rfl rfl (by kernel_rfl) rfl (fun _ m => m.keeps (.refl _)) (y_no rfl rfl rfl) ?_
      refine d_t 22 rfl rfl (by kernel_rfl) rfl (fun _ m => m.keeps (.refl _)) (y_no rfl rfl rfl) ?_
      refine d_t 23 rfl rfl (by kernel_rfl) rfl (fun _ m => m.keeps (.refl _)) (y_no rfl rfl rfl) ?_
      refine d_t 24 rfl rfl (by kernel_rfl) rfl (fun _ m => m.keeps (.refl _)) (y_no rfl rfl rfl) ?_
      refine d_t 25 rfl rfl (by kernel_rfl) rfl (fun _ m => m.keeps (.refl _)) (y_no rfl rfl rfl) ?_
      refine d_t 26 rfl rfl (by kernel_rfl) rfl (fun _ m => m.keeps (.refl _)) (y_no rfl rfl rfl) ?_
      refine d_t 27 rfl rfl (by kernel_rfl) rfl (fun _ m => m.keeps (.refl _)) (y_no rfl rfl rfl) ?_
      refine d_tv 28 rfl rfl (by kernel_rfl) rfl (.refl _) rfl (v_or_t rfl rfl) ?_
      refine d_done (by kernel_rfl) ?_
      refine go 1 ?_
      exact q_cut ⟨rfl, rfl, rfl, rfl, (congrArg (fun b => some (Value.bool b)) (by first | (simp only [bad1R, ownR_eq, h22, h34, bS]; done) | (simp only [bad1R, ownR_eq, notAfter_at (nm := Part.name) h0i hlt, h22, h34, bS]; done) | (simp only [bad1R, ownR_eq, notAfter_zero (nm := Part.name) (l := l) h0i, h22, h34, bS]; done))), trivial⟩ rfl rfl
     ·refine d_t 5 rfl rfl (by kernel_rfl) rfl (fun _ m => m.keeps (.refl _)) (y_yes rfl rfl h34 (v_move rfl)) ?_
      refine d_t 6 rfl rfl (by kernel_rfl) rfl (fun _ m => m.keeps (.refl _)) (y_yes rfl rfl h34 (v_gtr rfl rfl)) ?_
      refine d_t 7 rfl rfl (by kernel_rfl) rfl (fun _ m => m.keeps (.refl _)) (y_yes rfl rfl h34 (v_move rfl)) ?_
      refine sxb 37 rfl (fun h37 p37 => ?_) (fun h37 p37 => ?_)
      ·have h0i : 0 < i := by omega
       refine d_t 8 rfl rfl (by kernel_rfl) rfl (fun _ m => m.keeps (.refl _)) (y_yes rfl rfl h37 (v_fieldAddr he rfl)) ?_
       refine d_t 9 rfl rfl (by kernel_rfl) rfl (fun _ m => m.keeps (.refl _)) (y_yes rfl rfl h37 (v_ld m1 he rfl rfl)) ?_
       refine d_t 10 rfl rfl (by kernel_rfl) rfl (fun _ m => m.keeps (.refl _)) (y_yes rfl rfl h37 (v_move rfl)) ?_
       refine d_t 11 rfl rfl (by kernel_rfl) rfl (fun _ m => m.keeps (.refl _)) (y_yes rfl rfl h37 (OV.cast (u := .int .i64 ((i - 1 : Nat) : Int)) (v_sub rfl rfl ⟨by omega, by omega⟩) (congrArg (Value.int .i64) (by omega)))) ?_
       obtain ⟨b42, o42, w42, e42, c42, r42⟩ := RdA.at_ hA (i := i - 1) (by omega)
       obtain ⟨q42, rfl, B42, d42, rfl, hB42, hd42, hm42⟩ := r42
       refine d_t 12 rfl rfl (by kernel_rfl) rfl (fun _ m => m.keeps (.refl _)) (y_yes rfl rfl h37 (v_idx he rfl rfl e42 (i - 1) (by omega) (by omega))) ?_
       refine d_t 13 rfl rfl (by kernel_rfl) rfl (fun _ m => m.keeps (.refl _)) (y_yes rfl rfl h37 (v_fieldAddr he rfl)) ?_
       refine d_t 14 rfl rfl (by kernel_rfl) rfl (fun _ m => m.keeps (.refl _)) (y_yes rfl rfl h37 (v_ldI he rfl (c42 0 _ rfl))) ?_
       refine d_t 15 rfl rfl (by kernel_rfl) rfl (fun _ m => m.keeps (.refl _)) (y_yes rfl rfl h37 (v_fieldAddr he rfl)) ?_
       refine d_t 16 rfl rfl (by kernel_rfl) rfl (fun _ m => m.keeps (.refl _)) (y_yes rfl rfl h37 (v_ld m0 he rfl rfl)) ?_
       refine d_t 17 rfl rfl (by kernel_rfl) rfl (fun _ m => m.keeps (.refl _)) (y_yes rfl rfl h37 (v_sgeq rfl rfl)) ?_
       refine d_t 18 rfl rfl (by kernel_rfl) rfl (fun _ m => m.keeps (.refl _)) (y_yes rfl rfl h34 (v_and_t h37 rfl rfl)) ?_
       refine d_tv 19 rfl rfl (by kernel_rfl) rfl (.refl _) rfl (v_or_f h34 rfl rfl) ?_
       refine d_tv 20 rfl rfl (by kernel_rfl) rfl (.refl _) rfl (v_move rfl) ?_
       refine sxb 50 rfl (fun h50 p50 => ?_) (fun h50 p50 => ?_)
       ·refine d_t 21 rfl rfl (by kernel_rfl) rfl (fun _ m => m.keeps (.refl _)) (y_no rfl rfl h50) ?_
        refine d_t 22 rfl rfl (by kernel_rfl) rfl (fun _ m => m.keeps (.refl _)) (y_no rfl rfl h50) ?_
        refine d_t 23 rfl rfl (by kernel_rfl) rfl (fun _ m => m.keeps (.refl _)) (y_no rfl rfl h50) ?_
        refine d_t 24 rfl rfl (by kernel_rfl) rfl (fun _ m => m.keeps (.refl _)) (y_no rfl rfl h50) ?_
        refine d_t 25 rfl rfl (by kernel_rfl) rfl (fun _ m => m.keeps (.refl _)) (y_no rfl rfl h50) ?_
        refine d_t 26 rfl rfl (by kernel_rfl) rfl (fun _ m => m.keeps (.refl _)) (y_no rfl rfl h50) ?_
        refine d_t 27 rfl rfl (by kernel_rfl) rfl (fun _ m => m.keeps (.refl _)) (y_no rfl rfl h50) ?_
        refine d_tv 28 rfl rfl (by kernel_rfl) rfl (.refl _) rfl (v_or_t h50 rfl) ?_
        refine d_done (by kernel_rfl) ?_
        refine go 1 ?_
        exact q_cut ⟨rfl, rfl, rfl, rfl, (congrArg (fun b => some (Value.bool b)) (by first | (simp only [bad1R, ownR_eq, h22, h34, h37, h50, bS]; done) | (simp only [bad1R, ownR_eq, notAfter_at (nm := Part.name) h0i hlt, h22, h34, h37, h50, bS]; done) | (simp only [bad1R, ownR_eq, notAfter_zero (nm := Part.name) (l := l) h0i, h22, h34, h37, h50, bS]; done))), trivial⟩ rfl rfl
       ·refine d_t 21 rfl rfl (by kernel_rfl) rfl (fun _ m => m.keeps (.refl _)) (y_yes rfl rfl h50 (v_fieldAddr he rfl)) ?_
        refine d_t 22 rfl rfl (by kernel_rfl) rfl (fun _ m => m.keeps (.refl _)) (y_yes rfl rfl h50 (v_ld m0 he rfl rfl)) ?_
        refine d_t 23 rfl rfl (by kernel_rfl) rfl (fun _ m => m.keeps (.refl _)) (y_yes rfl rfl h50 (v_seql rfl rfl)) ?_
        refine d_t 24 rfl rfl (by kernel_rfl) rfl (fun _ m => m.keeps (.refl _)) (y_yes rfl rfl h50 (v_fieldAddr he rfl)) ?_
        refine d_t 25 rfl rfl (by kernel_rfl) rfl (fun _ m => m.keeps (.refl _)) (y_yes rfl rfl h50 (v_ld m0 he rfl rfl)) ?_
        refine d_t 26 rfl rfl (by kernel_rfl) rfl (fun _ m => m.keeps (.refl _)) (y_yes rfl rfl h50 (v_seql rfl rfl)) ?_
        refine d_t 27 rfl rfl (by kernel_rfl) rfl (fun _ m => m.keeps (.refl _)) (y_yes rfl rfl h50 (v_bneq he rfl rfl)) ?_
        refine d_tv 28 rfl rfl (by kernel_rfl) rfl (.refl _) rfl (v_or_f h50 rfl rfl) ?_
        refine d_done (by kernel_rfl) ?_
        refine go 1 ?_
        exact q_cut ⟨rfl, rfl, rfl, rfl, (congrArg (fun b => some (Value.bool b)) (by first | (simp only [bad1R, ownR_eq, h22, h34, h37, h50, bS]; done) | (simp only [bad1R, ownR_eq, notAfter_at (nm := Part.name) h0i hlt, h22, h34, h37, h50, bS]; done) | (simp only [bad1R, ownR_eq, notAfter_zero (nm := Part.name) (l := l) h0i, h22, h34, h37, h50, bS]; done))), trivial⟩ rfl rfl
      ·have h0i : ¬ 0 < i := by omega
       refine d_t 8 rfl rfl (by kernel_rfl) rfl (fun _ m => m.keeps (.refl _)) (y_no rfl rfl h37) ?_
       refine d_t 9 rfl rfl (by kernel_rfl) rfl (fun _ m => m.keeps (.refl _)) (y_no rfl rfl h37) ?_
       refine d_t 10 rfl rfl (by kernel_rfl) rfl (fun _ m => m.keeps (.refl _)) (y_no rfl rfl h37) ?_
       refine d_t 11 rfl rfl (by kernel_rfl) rfl (fun _ m => m.keeps (.refl _)) (y_no rfl rfl h37) ?_
       refine d_t 12 rfl rfl (by kernel_rfl) rfl (fun _ m => m.keeps (.refl _)) (y_no rfl rfl h37) ?_
       refine d_t 13 rfl rfl (by kernel_rfl) rfl (fun _ m => m.keeps (.refl _)) (y_no rfl rfl h37) ?_
       refine d_t 14 rfl rfl (by kernel_rfl) rfl (fun _ m => m.keeps (.refl _)) (y_no rfl rfl h37) ?_
       refine d_t 15 rfl rfl (by kernel_rfl) rfl (fun _ m => m.keeps (.refl _)) (y_no rfl rfl h37) ?_
       refine d_t 16 rfl rfl (by kernel_rfl) rfl (fun _ m => m.keeps (.refl _)) (y_no rfl rfl h37) ?_
       refine d_t 17 rfl rfl (by kernel_rfl) rfl (fun _ m => m.keeps (.refl _)) (y_no rfl rfl h37) ?_
       refine d_t 18 rfl rfl (by kernel_rfl) rfl (fun _ m => m.keeps (.refl _)) (y_yes rfl rfl h34 (v_and_f h37 rfl)) ?_
       refine d_tv 19 rfl rfl (by kernel_rfl) rfl (.refl _) rfl (v_or_f h34 rfl rfl) ?_
       refine d_tv 20 rfl rfl (by kernel_rfl) rfl (.refl _) rfl (v_move rfl) ?_
       refine d_t 21 rfl rfl (by kernel_rfl) rfl (fun _ m => m.keeps (.refl _)) (y_yes rfl rfl rfl (v_fieldAddr he rfl)) ?_
       refine d_t 22 rfl rfl (by kernel_rfl) rfl (fun _ m => m.keeps (.refl _)) (y_yes rfl rfl rfl (v_ld m0 he rfl rfl)) ?_
       refine d_t 23 rfl rfl (by kernel_rfl) rfl (fun _ m => m.keeps (.refl _)) (y_yes rfl rfl rfl (v_seql rfl rfl)) ?_
       refine d_t 24 rfl rfl (by kernel_rfl) rfl (fun _ m => m.keeps (.refl _)) (y_yes rfl rfl rfl (v_fieldAddr he rfl)) ?_
       refine d_t 25 rfl rfl (by kernel_rfl) rfl (fun _ m => m.keeps (.refl _)) (y_yes rfl rfl rfl (v_ld m0 he rfl rfl)) ?_
       refine d_t 26 rfl rfl (by kernel_rfl) rfl (fun _ m => m.keeps (.refl _)) (y_yes rfl rfl rfl (v_seql rfl rfl)) ?_
       refine d_t 27 rfl rfl (by kernel_rfl) rfl (fun _ m => m.keeps (.refl _)) (y_yes rfl rfl rfl (v_bneq he rfl rfl)) ?_
       refine d_tv 28 rfl rfl (by kernel_rfl) rfl (.refl _) rfl (v_or_f rfl rfl rfl) ?_
       refine d_done (by kernel_rfl) ?_
       refine go 1 ?_
       exact q_cut ⟨rfl, rfl, rfl, rfl, (congrArg (fun b => some (Value.bool b)) (by first | (simp only [bad1R, ownR_eq, h22, h34, h37, bS]; done) | (simp only [bad1R, ownR_eq, notAfter_at (nm := Part.name) h0i hlt, h22, h34, h37, bS]; done) | (simp only [bad1R, ownR_eq, notAfter_zero (nm := Part.name) (l := l) h0i, h22, h34, h37, bS]; done))), trivial⟩ rfl rfl
    ·refine cb rfl (fun h58 p58 => ?_) (fun h58 p58 => ?_)
     ·refine go 12 ?_
      refine fin1 rfl rfl ?_
      exact q_v (congrArg Value.bool (by rw [← validSR_eq]; simp only [validSR, h17, allP_not (f := partR c l) hlt (show partR c l (l.take i) l[i] = false by simp only [partR, h58]; rfl), bS]))
     ·refine go 10 ?_
      refine cb rfl (fun h61 p61 => ?_) (fun h61 p61 => ?_)
      ·refine go 10 ?_
       refine sx_drop ?_
       exact q_next (i + 1) ⟨by omega, allP_succ hn hlt (by simp only [partR, h58, h61]; rfl)⟩ (by omega) rfl sb rfl
      ·refine go 8 ?_
       refine o_callV (ref10At _ _ l hv0 l[i].into) rfl rfl ?_
       refine go 5 ?_
       refine c_cut (I' := I) (L' := [(2, .pointer (some ⟨g2, 0, none⟩)), (3, .pointer (some ⟨g3, 0, none⟩)), (5, .int .i64 ((i : Nat) : Int)), (6, .pointer (some ⟨g6, 0, none⟩)), (94, .bool (bad2R c l l[i]))]) (H' := [.blk g6 170 (l[i].cells (.slice B28 l[i].props.length d28)), .blk g3 134 [.slice A l.length c0], .blk g2 24 [vc]]) ?_ ?_
       ·refine d_startH T.mixed ?_
        refine d_tv 0 rfl rfl (by kernel_rfl) rfl (.refl _) rfl (v_move rfl) ?_
        refine d_tv 1 rfl rfl (by kernel_rfl) rfl (.refl _) rfl (v_lss rfl rfl) ?_
        refine d_tv 2 rfl rfl (by kernel_rfl) rfl (.refl _) rfl (v_move rfl) ?_
        refine sxb 68 rfl (fun h68 p68 => ?_) (fun h68 p68 => ?_)
        ·have hF : findP l l[i].into = none := ((idxF_find (fun p : Part => decide (p.name = l[i].into)) l).resolve_right (by rintro ⟨k, hk, e, _⟩; omega)).2
         refine d_t 3 rfl rfl (by kernel_rfl) rfl (fun _ m => m.keeps (.refl _)) (y_no rfl rfl h68) ?_
         refine d_t 4 rfl rfl (by kernel_rfl) rfl (fun _ m => m.keeps (.refl _)) (y_no rfl rfl h68) ?_
         refine d_tv 5 rfl rfl (by kernel_rfl) rfl (.refl _) rfl (v_or_t h68 rfl) ?_
         refine d_tv 6 rfl rfl (by kernel_rfl) rfl (.refl _) rfl (v_move rfl) ?_
         refine d_t 7 rfl rfl (by kernel_rfl) rfl (fun _ m => m.keeps (.refl _)) (y_no rfl rfl rfl) ?_
         refine d_t 8 rfl rfl (by kernel_rfl) rfl (fun _ m => m.keeps (.refl _)) (y_no rfl rfl rfl) ?_
         refine d_t 9 rfl rfl (by kernel_rfl) rfl (fun _ m => m.keeps (.refl _)) (y_no rfl rfl rfl) ?_
         refine d_t 10 rfl rfl (by kernel_rfl) rfl (fun _ m => m.keeps (.refl _)) (y_no rfl rfl rfl) ?_
         refine d_t 11 rfl rfl (by kernel_rfl) rfl (fun _ m => m.keeps (.refl _)) (y_no rfl rfl rfl) ?_
         refine d_t 12 rfl rfl (by kernel_rfl) rfl (fun _ m => m.keeps (.refl _)) (y_no rfl rfl rfl) ?_
         refine d_tv 13 rfl rfl (by kernel_rfl) rfl (.refl _) rfl (v_or_t rfl rfl) ?_
         refine d_tv 14 rfl rfl (by kernel_rfl) rfl (.refl _) rfl (v_move rfl) ?_
         refine d_t 15 rfl rfl (by kernel_rfl) rfl (fun _ m => m.keeps (.refl _)) (y_no rfl rfl rfl) ?_
         refine d_t 16 rfl rfl (by kernel_rfl) rfl (fun _ m => m.keeps (.refl _)) (y_no rfl rfl rfl) ?_
         refine d_t 17 rfl rfl (by kernel_rfl) rfl (fun _ m => m.keeps (.refl _)) (y_no rfl rfl rfl) ?_
         refine d_t 18 rfl rfl (by kernel_rfl) rfl (fun _ m => m.keeps (.refl _)) (y_no rfl rfl rfl) ?_
         refine d_t 19 rfl rfl (by kernel_rfl) rfl (fun _ m => m.keeps (.refl _)) (y_no rfl rfl rfl) ?_
         refine d_t 20 rfl rfl (by kernel_rfl) rfl (fun _ m => m.keeps (.refl _)) (y_no rfl rfl rfl) ?_
         refine d_t 21 rfl rfl (by kernel_rfl) rfl (fun _ m => m.keeps (.refl _)) (y_no rfl rfl rfl) ?_
         refine d_t 22 rfl rfl (by kernel_rfl) rfl (fun _ m => m.keeps (.refl _)) (y_no rfl rfl rfl) ?_
         refine d_t 23 rfl rfl (by kernel_rfl) rfl (fun _ m => m.keeps (.refl _)) (y_no rfl rfl rfl) ?_
         refine d_t 24 rfl rfl (by kernel_rfl) rfl (fun _ m => m.keeps (.refl _)) (y_no rfl rfl rfl) ?_
         refine d_t 25 rfl rfl (by kernel_rfl) rfl (fun _ m => m.keeps (.refl _)) (y_no rfl rfl rfl) ?_
         refine d_t 26 rfl rfl (by kernel_rfl) rfl (fun _ m => m.keeps (.refl _)) (y_no rfl rfl rfl) ?_
         refine d_t 27 rfl rfl (by kernel_rfl) rfl (fun _ m => m.keeps (.refl _)) (y_no rfl rfl rfl) ?_
         refine d_tv 28 rfl rfl (by kernel_rfl) rfl (.refl _) rfl (v_or_t rfl rfl) ?_
         refine d_done (by kernel_rfl) ?_
         refine go 1 ?_
         exact q_cut ⟨rfl, rfl, rfl, rfl, (congrArg (fun b => some (Value.bool b)) (by first | (simp only [bad2R, hF, h58, h61, h68, Option.isSome_none, Option.isSome_some, Option.getD_some, bS]; done) | (simp only [bad2R, hS, h58, h61, h68, bS]; done))), trivial⟩ rfl rfl
        ·have hS : (findP l l[i].into).isSome = true := (by rw [← find_idx]; simpa using p68)
         refine d_t 3 rfl rfl (by kernel_rfl) rfl (fun _ m => m.keeps (.refl _)) (y_yes rfl rfl h68 (v_fieldAddr he rfl)) ?_
         refine d_t 4 rfl rfl (by kernel_rfl) rfl (fun _ m => m.keeps (.refl _)) (y_yes rfl rfl h68 (v_ld m0 he rfl rfl)) ?_
         refine d_tv 5 rfl rfl (by kernel_rfl) rfl (.refl _) rfl (v_or_f h68 rfl rfl) ?_
         refine d_tv 6 rfl rfl (by kernel_rfl) rfl (.refl _) rfl (v_move rfl) ?_
         refine sxb 72 rfl (fun h72 p72 => ?_) (fun h72 p72 => ?_)
         ·refine d_t 7 rfl rfl (by kernel_rfl) rfl (fun _ m => m.keeps (.refl _)) (y_no rfl rfl h72) ?_
          refine d_t 8 rfl rfl (by kernel_rfl) rfl (fun _ m => m.keeps (.refl _)) (y_no rfl rfl h72) ?_
          refine d_t 9 rfl rfl (by kernel_rfl) rfl (fun _ m => m.keeps (.refl _)) (y_no rfl rfl h72) ?_
          refine d_t 10 rfl rfl (by kernel_rfl) rfl (fun _ m => m.keeps (.refl _)) (y_no rfl rfl h72) ?_
          refine d_t 11 rfl rfl (by kernel_rfl) rfl (fun _ m => m.keeps (.refl _)) (y_no rfl rfl h72) ?_
          refine d_t 12 rfl rfl (by kernel_rfl) rfl (fun _ m => m.keeps (.refl _)) (y_no rfl rfl h72) ?_
          refine d_tv 13 rfl rfl (by kernel_rfl) rfl (.refl _) rfl (v_or_t h72 rfl) ?_
          refine d_tv 14 rfl rfl (by kernel_rfl) rfl (.refl _) rfl (v_move rfl) ?_
          refine d_t 15 rfl rfl (by kernel_rfl) rfl (fun _ m => m.keeps (.refl _)) (y_no rfl rfl rfl) ?_
          refine d_t 16 rfl rfl (by kernel_rfl) rfl (fun _ m => m.keeps (.refl _)) (y_no rfl rfl rfl) ?_
          refine d_t 17 rfl rfl (by kernel_rfl) rfl (fun _ m => m.keeps (.refl _)) (y_no rfl rfl rfl) ?_
          refine d_t 18 rfl rfl (by kernel_rfl) rfl (fun _ m => m.keeps (.refl _)) (y_no rfl rfl rfl) ?_
          refine d_t 19 rfl rfl (by kernel_rfl) rfl (fun _ m => m.keeps (.refl _)) (y_no rfl rfl rfl) ?_
          refine d_t 20 rfl rfl (by kernel_rfl) rfl (fun _ m => m.keeps (.refl _)) (y_no rfl rfl rfl) ?_
          refine d_t 21 rfl rfl (by kernel_rfl) rfl (fun _ m => m.keeps (.refl _)) (y_no rfl rfl rfl) ?_
          refine d_t 22 rfl rfl (by kernel_rfl) rfl (fun _ m => m.keeps (.refl _)) (y_no rfl rfl rfl) ?_
          refine d_t 23 rfl rfl (by kernel_rfl) rfl (fun _ m => m.keeps (.refl _)) (y_no rfl rfl rfl) ?_
          refine d_t 24 rfl rfl (by kernel_rfl) rfl (fun _ m => m.keeps (.refl _)) (y_no rfl rfl rfl) ?_
          refine d_t 25 rfl rfl (by kernel_rfl) rfl (fun _ m => m.keeps (.refl _)) (y_no rfl rfl rfl) ?_
          refine d_t 26 rfl rfl (by kernel_rfl) rfl (fun _ m => m.keeps (.refl _)) (y_no rfl rfl rfl) ?_
          refine d_t 27 rfl rfl (by kernel_rfl) rfl (fun _ m => m.keeps (.refl _)) (y_no rfl rfl rfl) ?_
          refine d_tv 28 rfl rfl (by kernel_rfl) rfl (.refl _) rfl (v_or_t rfl rfl) ?_
          refine d_done (by kernel_rfl) ?_
          refine go 1 ?_
          exact q_cut ⟨rfl, rfl, rfl, rfl, (congrArg (fun b => some (Value.bool b)) (by first | (simp only [bad2R, hF, h58, h61, h68, h72, Option.isSome_none, Option.isSome_some, Option.getD_some, bS]; done) | (simp only [bad2R, hS, h58, h61, h68, h72, bS]; done))), trivial⟩ rfl rfl
         ·refine d_t 7 rfl rfl (by kernel_rfl) rfl (fun _ m => m.keeps (.refl _)) (y_yes rfl rfl h72 (v_fieldAddr he rfl)) ?_
          refine d_t 8 rfl rfl (by kernel_rfl) rfl (fun _ m => m.keeps (.refl _)) (y_yes rfl rfl h72 (v_ld m1 he rfl rfl)) ?_
          refine d_t 9 rfl rfl (by kernel_rfl) rfl (fun _ m => m.keeps (.refl _)) (y_yes rfl rfl h72 (v_move rfl)) ?_
          obtain ⟨k, hk, ek, hF⟩ := (idxF_find (fun p : Part => decide (p.name = l[i].into)) l).resolve_left (fun h => by omega)
          have hF : findP l l[i].into = some l[k] := hF
          obtain ⟨b76, o76, w76, e76, c76, r76⟩ := RdA.at_ hA (i := k) hk
          obtain ⟨q76, rfl, B76, d76, rfl, hB76, hd76, hm76⟩ := r76
          refine d_t 10 rfl rfl (by kernel_rfl) rfl (fun _ m => m.keeps (.refl _)) (y_yes rfl rfl h72 (v_idx he rfl rfl e76 (k) ek hk)) ?_
          refine d_t 11 rfl rfl (by kernel_rfl) rfl (fun _ m => m.keeps (.refl _)) (y_yes rfl rfl h72 (v_fieldAddr he rfl)) ?_
          refine d_t 12 rfl rfl (by kernel_rfl) rfl (fun _ m => m.keeps (.refl _)) (y_yes rfl rfl h72 (v_ldI he rfl (c76 6 _ rfl))) ?_
          refine d_tv 13 rfl rfl (by kernel_rfl) rfl (.refl _) rfl (v_or_f h72 rfl rfl) ?_
          refine d_tv 14 rfl rfl (by kernel_rfl) rfl (.refl _) rfl (v_move rfl) ?_
          refine sxb 80 rfl (fun h80 p80 => ?_) (fun h80 p80 => ?_)
          ·refine d_t 15 rfl rfl (by kernel_rfl) rfl (fun _ m => m.keeps (.refl _)) (y_no rfl rfl h80) ?_
           refine d_t 16 rfl rfl (by kernel_rfl) rfl (fun _ m => m.keeps (.refl _)) (y_no rfl rfl h80) ?_
           refine d_t 17 rfl rfl (by kernel_rfl) rfl (fun _ m => m.keeps (.refl _)) (y_no rfl rfl h80) ?_
           refine d_t 18 rfl rfl (by kernel_rfl) rfl (fun _ m => m.keeps (.refl _)) (y_no rfl rfl h80) ?_
           refine d_t 19 rfl rfl (by kernel_rfl) rfl (fun _ m => m.keeps (.refl _)) (y_no rfl rfl h80) ?_
           refine d_t 20 rfl rfl (by kernel_rfl) rfl (fun _ m => m.keeps (.refl _)) (y_no rfl rfl h80) ?_
           refine d_t 21 rfl rfl (by kernel_rfl) rfl (fun _ m => m.keeps (.refl _)) (y_no rfl rfl h80) ?_
           refine d_t 22 rfl rfl (by kernel_rfl) rfl (fun _ m => m.keeps (.refl _)) (y_no rfl rfl h80) ?_
           refine d_t 23 rfl rfl (by kernel_rfl) rfl (fun _ m => m.keeps (.refl _)) (y_no rfl rfl h80) ?_
           refine d_t 24 rfl rfl (by kernel_rfl) rfl (fun _ m => m.keeps (.refl _)) (y_no rfl rfl h80) ?_
           refine d_t 25 rfl rfl (by kernel_rfl) rfl (fun _ m => m.keeps (.refl _)) (y_no rfl rfl h80) ?_
           refine d_t 26 rfl rfl (by kernel_rfl) rfl (fun _ m => m.keeps (.refl _)) (y_no rfl rfl h80) ?_
           refine d_t 27 rfl rfl (by kernel_rfl) rfl (fun _ m => m.keeps (.refl _)) (y_no rfl rfl h80) ?_
           refine d_tv 28 rfl rfl (by kernel_rfl) rfl (.refl _) rfl (v_or_t h80 rfl) ?_
           refine d_done (by kernel_rfl) ?_
           refine go 1 ?_
           exact q_cut ⟨rfl, rfl, rfl, rfl, (congrArg (fun b => some (Value.bool b)) (by first | (simp only [bad2R, hF, h58, h61, h68, h72, h80, Option.isSome_none, Option.isSome_some, Option.getD_some, bS]; done) | (simp only [bad2R, hS, h58, h61, h68, h72, h80, bS]; done))), trivial⟩ rfl rfl
          ·refine d_t 15 rfl rfl (by kernel_rfl) rfl (fun _ m => m.keeps (.refl _)) (y_yes rfl rfl h80 (v_ldw m2 he rfl rfl)) ?_
           refine d_t 16 rfl rfl (by kernel_rfl) rfl (fun _ m => m.keeps (.refl _)) (y_yes rfl rfl h80 (v_fieldAddr he rfl)) ?_
           refine d_t 17 rfl rfl (by kernel_rfl) rfl (fun _ m => m.keeps (.refl _)) (y_yes rfl rfl h80 (v_ld m1 he rfl rfl)) ?_
           refine d_t 18 rfl rfl (by kernel_rfl) rfl (fun _ m => m.keeps (.refl _)) (y_yes rfl rfl h80 (v_move rfl)) ?_
           obtain ⟨b85, o85, w85, e85, c85, r85⟩ := RdA.at_ hA (i := k) hk
           obtain ⟨q85, rfl, B85, d85, rfl, hB85, hd85, hm85⟩ := r85
           refine d_t 19 rfl rfl (by kernel_rfl) rfl (fun _ m => m.keeps (.refl _)) (y_yes rfl rfl h80 (v_idx he rfl rfl e85 (k) ek hk)) ?_
           refine d_t 20 rfl rfl (by kernel_rfl) rfl (fun _ m => m.keeps (.refl _)) (y_yes rfl rfl h80 (v_fieldAddr he rfl)) ?_
           refine d_t 21 rfl rfl (by kernel_rfl) rfl (fun _ m => m.keeps (.refl _)) (y_yes rfl rfl h80 (v_ldI he rfl (c85 1 _ rfl))) ?_
           refine d_t 22 rfl rfl (by kernel_rfl) rfl (fun _ m => m.keeps (.refl _)) (y_yes rfl rfl h80 (v_fieldAddr he rfl)) ?_
           refine d_t 23 rfl rfl (by kernel_rfl) rfl (fun _ m => m.keeps (.refl _)) (y_yes rfl rfl h80 (v_ld m0 he rfl rfl)) ?_
           refine d_t 24 rfl rfl (by kernel_rfl) rfl (fun _ m => m.keeps (.refl _)) (y_yes rfl rfl h80 (v_fieldAddr he rfl)) ?_
           refine d_t 25 rfl rfl (by kernel_rfl) rfl (fun _ m => m.keeps (.refl _)) (y_yes rfl rfl h80 (v_ld m0 he rfl rfl)) ?_
           refine d_one 26 (by kernel_rfl) rfl ?_
           refine o_yes rfl rfl h80 (o_callV (ref08Takes _ vc c hvc _ _ _) rfl rfl ?_)
           refine d_on (fun _ m => m.keeps (.refl _)) ?_
           refine d_t 27 rfl rfl (by kernel_rfl) rfl (fun _ m => m.keeps (.refl _)) (y_yes rfl rfl h80 (v_not rfl)) ?_
           refine d_tv 28 rfl rfl (by kernel_rfl) rfl (.refl _) rfl (v_or_f h80 rfl rfl) ?_
           refine d_done (by kernel_rfl) ?_
           refine go 1 ?_
           exact q_cut ⟨rfl, rfl, rfl, rfl, (congrArg (fun b => some (Value.bool b)) (by first | (simp only [bad2R, hF, h58, h61, h68, h72, h80, Option.isSome_none, Option.isSome_some, Option.getD_some, bS]; done) | (simp only [bad2R, hS, h58, h61, h68, h72, h80, bS]; done))), trivial⟩ rfl rfl
       ·refine cb rfl (fun h94 p94 => ?_) (fun h94 p94 => ?_)
        ·refine go 12 ?_
         refine fin1 rfl rfl ?_
         exact q_v (congrArg Value.bool (by rw [← validSR_eq]; simp only [validSR, h17, allP_not (f := partR c l) hlt (show partR c l (l.take i) l[i] = false by simp only [partR, h58, h61, h94]; rfl), bS]))
        ·refine go 8 ?_
         refine c_loop (α := Nat) 0 (fun m => I)
          (fun m => [(2, .pointer (some ⟨g2, 0, none⟩)), (3, .pointer (some ⟨g3, 0, none⟩)), (5, .int .i64 ((i : Nat) : Int)), (6, .pointer (some ⟨g6, 0, none⟩)), (8, .int .i64 ((m : Nat) : Int))])
          (fun m => [.blk g6 170 (l[i].cells (.slice B28 l[i].props.length d28)), .blk g3 134 [.slice A l.length c0], .blk g2 24 [vc]])
          (fun m => m ≤ i ∧ ∀ j x, j < m → l[j]? = some x → clash l[i] x = false)
          (fun m => i - m) ⟨Nat.zero_le _, fun j x hj => absurd hj (Nat.not_lt_zero j)⟩ rfl sb rfl ?_
         intro m ⟨hmm, hq⟩
         refine go 8 ?_
         refine cb rfl (fun h97 p97 => ?_) (fun h97 p97 => ?_)
         ·have hlm : m < l.length := by omega
          refine go 5 ?_
          refine c_cut (I' := I) (L' := [(2, .pointer (some ⟨g2, 0, none⟩)), (3, .pointer (some ⟨g3, 0, none⟩)), (5, .int .i64 ((i : Nat) : Int)), (6, .pointer (some ⟨g6, 0, none⟩)), (8, .int .i64 ((m : Nat) : Int)), (119, .bool (clash l[i] l[m]))]) (H' := [.blk g6 170 (l[i].cells (.slice B28 l[i].props.length d28)), .blk g3 134 [.slice A l.length c0], .blk g2 24 [vc]]) ?_ ?_
          ·refine d_startH T.mixed ?_
           refine d_tv 0 rfl rfl (by kernel_rfl) rfl (.refl _) rfl (v_fieldAddr he rfl) ?_
           refine d_tv 1 rfl rfl (by kernel_rfl) rfl (.refl _) rfl (v_ld m1 he rfl rfl) ?_
           refine d_tv 2 rfl rfl (by kernel_rfl) rfl (.refl _) rfl (v_move rfl) ?_
           obtain ⟨b103, o103, w103, e103, c103, r103⟩ := RdA.at_ hA (i := m) hlm
           obtain ⟨q103, rfl, B103, d103, rfl, hB103, hd103, hm103⟩ := r103
           refine d_tv 3 rfl rfl (by kernel_rfl) rfl (.refl _) rfl (v_idx he rfl rfl e103 (m) (by omega) hlm) ?_
           refine d_tv 4 rfl rfl (by kernel_rfl) rfl (.refl _) rfl (v_fieldAddr he rfl) ?_
           refine d_tv 5 rfl rfl (by kernel_rfl) rfl (.refl _) rfl (v_ldI he rfl (c103 2 _ rfl)) ?_
           refine d_tv 6 rfl rfl (by kernel_rfl) rfl (.refl _) rfl (v_fieldAddr he rfl) ?_
           refine d_tv 7 rfl rfl (by kernel_rfl) rfl (.refl _) rfl (v_ld m0 he rfl rfl) ?_
           refine d_tv 8 rfl rfl (by kernel_rfl) rfl (.refl _) rfl (v_seql rfl rfl) ?_
           refine d_tv 9 rfl rfl (by kernel_rfl) rfl (.refl _) rfl (v_move rfl) ?_
           refine sxb 109 rfl (fun h109 p109 => ?_) (fun h109 p109 => ?_)
           ·refine d_t 10 rfl rfl (by kernel_rfl) rfl (fun _ m => m.keeps (.refl _)) (y_yes rfl rfl h109 (v_fieldAddr he rfl)) ?_
            refine d_t 11 rfl rfl (by kernel_rfl) rfl (fun _ m => m.keeps (.refl _)) (y_yes rfl rfl h109 (v_ld m1 he rfl rfl)) ?_
            refine d_t 12 rfl rfl (by kernel_rfl) rfl (fun _ m => m.keeps (.refl _)) (y_yes rfl rfl h109 (v_move rfl)) ?_
            obtain ⟨b113, o113, w113, e113, c113, r113⟩ := RdA.at_ hA (i := m) hlm
            obtain ⟨q113, rfl, B113, d113, rfl, hB113, hd113, hm113⟩ := r113
            refine d_t 13 rfl rfl (by kernel_rfl) rfl (fun _ m => m.keeps (.refl _)) (y_yes rfl rfl h109 (v_idx he rfl rfl e113 (m) (by omega) hlm)) ?_
            refine d_t 14 rfl rfl (by kernel_rfl) rfl (fun _ m => m.keeps (.refl _)) (y_yes rfl rfl h109 (v_fieldAddr he rfl)) ?_
            refine d_t 15 rfl rfl (by kernel_rfl) rfl (fun _ m => m.keeps (.refl _)) (y_yes rfl rfl h109 (v_ldI he rfl (c113 3 _ rfl))) ?_
            refine d_t 16 rfl rfl (by kernel_rfl) rfl (fun _ m => m.keeps (.refl _)) (y_yes rfl rfl h109 (v_fieldAddr he rfl)) ?_
            refine d_t 17 rfl rfl (by kernel_rfl) rfl (fun _ m => m.keeps (.refl _)) (y_yes rfl rfl h109 (v_ld m0 he rfl rfl)) ?_
            refine d_t 18 rfl rfl (by kernel_rfl) rfl (fun _ m => m.keeps (.refl _)) (y_yes rfl rfl h109 (v_seql rfl rfl)) ?_
            refine d_tv 19 rfl rfl (by kernel_rfl) rfl (.refl _) rfl (v_and_t h109 rfl rfl) ?_
            refine d_done (by kernel_rfl) ?_
            refine go 1 ?_
            exact q_cut ⟨rfl, rfl, rfl, rfl, rfl, (congrArg (fun b => some (Value.bool b)) (by simp only [clash, h97, h109, bS])), trivial⟩ rfl rfl
           ·refine d_t 10 rfl rfl (by kernel_rfl) rfl (fun _ m => m.keeps (.refl _)) (y_no rfl rfl h109) ?_
            refine d_t 11 rfl rfl (by kernel_rfl) rfl (fun _ m => m.keeps (.refl _)) (y_no rfl rfl h109) ?_
            refine d_t 12 rfl rfl (by kernel_rfl) rfl (fun _ m => m.keeps (.refl _)) (y_no rfl rfl h109) ?_
            refine d_t 13 rfl rfl (by kernel_rfl) rfl (fun _ m => m.keeps (.refl _)) (y_no rfl rfl h109) ?_
            refine d_t 14 rfl rfl (by kernel_rfl) rfl (fun _ m => m.keeps (.refl _)) (y_no rfl rfl h109) ?_
            refine d_t 15 rfl rfl (by kernel_rfl) rfl (fun _ m => m.keeps (.refl _)) (y_no rfl rfl h109) ?_
            refine d_t 16 rfl rfl (by kernel_rfl) rfl (fun _ m => m.keeps (.refl _)) (y_no rfl rfl h109) ?_
            refine d_t 17 rfl rfl (by kernel_rfl) rfl (fun _ m => m.keeps (.refl _)) (y_no rfl rfl h109) ?_
            refine d_t 18 rfl rfl (by kernel_rfl) rfl (fun _ m => m.keeps (.refl _)) (y_no rfl rfl h109) ?_
            refine d_tv 19 rfl rfl (by kernel_rfl) rfl (.refl _) rfl (v_and_f h109 rfl) ?_
            refine d_done (by kernel_rfl) ?_
            refine go 1 ?_
            exact q_cut ⟨rfl, rfl, rfl, rfl, rfl, (congrArg (fun b => some (Value.bool b)) (by simp only [clash, h97, h109, bS])), trivial⟩ rfl rfl
          ·refine cb rfl (fun h119 p119 => ?_) (fun h119 p119 => ?_)
           ·refine go 15 ?_
            refine fin1 rfl rfl ?_
            exact q_v (congrArg Value.bool (by rw [← validSR_eq]; simp only [validSR, h17, allP_not (f := partR c l) hlt (show partR c l (l.take i) l[i] = false by simp only [partR, h58, h61, h94, seat_hit (m := m) (i := i) (by omega) hlm h119]; rfl), bS]))
           ·refine go 9 ?_
            exact q_next (m + 1) ⟨by omega, idx_next hq (show m < l.length by omega) h119⟩ (by omega) rfl sb rfl
         ·refine go 12 ?_
          refine sx_drop ?_
          exact q_next (i + 1) ⟨by omega, allP_succ hn hlt (by have := seat_end hq (by omega : i ≤ m); simp only [partR, h58, h61, h94, this]; rfl)⟩ (by omega) rfl sb rfl
   ·refine go 11 ?_
    refine fin1 rfl rfl ?_
    have e : i = l.length := (by omega)
    subst e
    exact q_v (congrArg Value.bool (by rw [← validSR_eq]; simp only [validSR, hn, h17]; rfl))

end Go.Proofs.YtoadjlmbdliceaaGreat

/- Walks, printed by a program out of the code of the functions: each theorem is a contract of one function. -/
namespace Go.Proofs.YtoadjlmbdliceaaGreat
open Go Go.Sx
set_option linter.all false
set_option maxRecDepth 20000
set_option maxHeartbeats 4000000
instance T.by_56 : Has (bytesK Tryz.prog 56) ([.int .i64 0, .int .i64 0, .string ⟨#[]⟩, .string ⟨#[]⟩, .string ⟨#[]⟩, .string ⟨#[]⟩, .string ⟨#[]⟩, .string ⟨#[]⟩, .int .i64 0, .int .i64 0, .int .i64 0, .int .i64 0, .int .i64 0, .int .i64 0], 14, 160) := ⟨by kernel_rfl⟩
theorem ref10with (I : IMap) (v : Value) (l : List Part) (hv : RdS I v l) (hl : l.length ≤ 1000000) (x : Part) (B : Option Addr) (d : Nat) (hr : Enc.rd I (x.cells (.slice B x.props.length d)) x) :
    FnI Tryz.prog 188 #[.agg #[v], .agg (x.cells (.slice B x.props.length d)).toArray] I (fun u J => ∃ w, u = .agg #[w] ∧ RdS J w (withF Part.name x l)) := by
 obtain ⟨A, c0, rfl, hA, hc, hm⟩ := hv
 refine enter Tryz.func188 Tryz.call188 rfl Tryz.ntmps188 rfl (fun w0 => ?_)
 refine go 3 ?_
 refine o_box _ rfl rfl rfl (fun g2 => ?_)
 refine go 1 ?_
 refine o_box _ rfl rfl rfl (fun g3 => ?_)
 refine go 1 ?_
 refine o_alloc he rfl (fun g4 => ?_)
 refine go 5 ?_
 refine o_alloc he rfl (fun g5 => ?_)
 refine go 4 ?_
 refine sx_nilrow 170 14 ?_
 refine go 10 ?_
 refine c_loop5 ((0 : Nat)) (_) ([]) (_) ([]) (fun i v xs b out => I)
  (fun i v xs b out => [(2, .pointer (some ⟨g2, 0, none⟩)), (3, .pointer (some ⟨g3, 0, none⟩)), (4, .pointer (some ⟨g4, 0, none⟩)), (5, .pointer (some ⟨g5, 0, none⟩)), (6, .bool b), (7, .int .i64 ((i : Nat) : Int))])
  (fun i v xs b out => [.row v 170 14 out.length xs, .blk g5 134 [v], .blk g4 134 [.slice none 0 0], .blk g3 170 (x.cells (.slice B x.props.length d)), .blk g2 134 [.slice A l.length c0]])
  (fun i v xs b out => i ≤ l.length ∧ wF Part.name x (l.take i) = (out, b) ∧ Flat I xs out)
  (fun i v xs b out => l.length - i) ⟨Nat.zero_le _, rfl, .nil⟩ rfl sb rfl ?_
 intro i v xs b out ⟨hi, hw, hF⟩
 have hol := w_le hw
 refine go 10 ?_
 refine cb rfl (fun h12 p12 => ?_) (fun h12 p12 => ?_)
 ·have hlt : i < l.length := by omega
  refine go 6 ?_
  refine d_startH T.mixed ?_
  refine d_tv 0 rfl rfl (by kernel_rfl) rfl (.refl _) rfl (v_move rfl) ?_
  refine d_tv 1 rfl rfl (by kernel_rfl) rfl (.refl _) rfl (v_not rfl) ?_
  refine d_tv 2 rfl rfl (by kernel_rfl) rfl (.refl _) rfl (v_move rfl) ?_
  refine sxb 17 rfl (fun h17 p17 => ?_) (fun h17 p17 => ?_)
  ·refine d_t 3 rfl rfl (by kernel_rfl) rfl (fun _ m => m.keeps (.refl _)) (y_yes rfl rfl h17 (v_fieldAddr he rfl)) ?_
   refine d_t 4 rfl rfl (by kernel_rfl) rfl (fun _ m => m.keeps (.refl _)) (y_yes rfl rfl h17 (v_ld m4 he rfl rfl)) ?_
   refine d_t 5 rfl rfl (by kernel_rfl) rfl (fun _ m => m.keeps (.refl _)) (y_yes rfl rfl h17 (v_move rfl)) ?_
   obtain ⟨b21, o21, w21, e21, c21, r21⟩ := RdA.at_ hA (i := i) hlt
   obtain ⟨q21, rfl, B21, d21, rfl, hB21, hd21, hm21⟩ := r21
   refine d_t 6 rfl rfl (by kernel_rfl) rfl (fun _ m => m.keeps (.refl _)) (y_yes rfl rfl h17 (v_idx he rfl rfl e21 (i) (by omega) hlt)) ?_
   refine d_t 7 rfl rfl (by kernel_rfl) rfl (fun _ m => m.keeps (.refl _)) (y_yes rfl rfl h17 (v_fieldAddr he rfl)) ?_
   refine d_t 8 rfl rfl (by kernel_rfl) rfl (fun _ m => m.keeps (.refl _)) (y_yes rfl rfl h17 (v_ldI he rfl (c21 0 _ rfl))) ?_
   refine d_t 9 rfl rfl (by kernel_rfl) rfl (fun _ m => m.keeps (.refl _)) (y_yes rfl rfl h17 (v_fieldAddr he rfl)) ?_
   refine d_t 10 rfl rfl (by kernel_rfl) rfl (fun _ m => m.keeps (.refl _)) (y_yes rfl rfl h17 (v_ld m3 he rfl rfl)) ?_
   refine d_t 11 rfl rfl (by kernel_rfl) rfl (fun _ m => m.keeps (.refl _)) (y_yes rfl rfl h17 (v_sgeq rfl rfl)) ?_
   refine d_tv 12 rfl rfl (by kernel_rfl) rfl (.refl _) rfl (v_and_t h17 rfl rfl) ?_
   refine d_done (by kernel_rfl) ?_
   refine go 1 ?_
   refine cb rfl (fun h27 p27 => ?_) (fun h27 p27 => ?_)
   ·refine go 6 ?_
    refine o_buildSlice he he rfl rfl rfl rfl rfl rfl rfl (fun v31 => ?_)
    refine go 1 ?_
    refine bring1 ?_
    refine o_appendO he he rfl rfl rfl rfl rfl (by omega) (by omega) rfl (fun v32 => ?_)
    refine sx_row1 (fun u => ?_)
    refine go 2 ?_
    refine bring2 ?_
    refine o_st1 he rfl rfl u rfl ?_
    refine go 7 ?_
    refine d_startH T.mixed ?_
    refine d_tv 0 rfl rfl (by kernel_rfl) rfl (.refl _) rfl (v_fieldAddr he rfl) ?_
    refine d_tv 1 rfl rfl (by kernel_rfl) rfl (.refl _) rfl (v_ld m5 he rfl rfl) ?_
    refine d_tv 2 rfl rfl (by kernel_rfl) rfl (.refl _) rfl (v_move rfl) ?_
    obtain ⟨b37, o37, w37, e37, c37, r37⟩ := RdA.at_ hA (i := i) hlt
    obtain ⟨q37, rfl, B37, d37, rfl, hB37, hd37, hm37⟩ := r37
    refine d_tv 3 rfl rfl (by kernel_rfl) rfl (.refl _) rfl (v_idx he rfl rfl e37 (i) (by omega) hlt) ?_
    refine d_tv 4 rfl rfl (by kernel_rfl) rfl (.refl _) rfl (v_fieldAddr he rfl) ?_
    refine d_tv 5 rfl rfl (by kernel_rfl) rfl (.refl _) rfl (v_ldI he rfl (c37 0 _ rfl)) ?_
    refine d_tv 6 rfl rfl (by kernel_rfl) rfl (.refl _) rfl (v_fieldAddr he rfl) ?_
    refine d_tv 7 rfl rfl (by kernel_rfl) rfl (.refl _) rfl (v_ld m4 he rfl rfl) ?_
    refine d_tv 8 rfl rfl (by kernel_rfl) rfl (.refl _) rfl (v_sneq rfl rfl) ?_
    refine d_done (by kernel_rfl) ?_
    refine go 1 ?_
    refine cb rfl (fun h42 p42 => ?_) (fun h42 p42 => ?_)
    ·refine bring1 ?_
     refine d_start2 T.mixed ?_
     refine d_tv 0 rfl rfl (by kernel_rfl) rfl (.cons _ (.cons _ (.refl _))) rfl (v_fieldAddr he rfl) ?_
     refine d_tv 2 rfl rfl (by kernel_rfl) rfl (.cons _ (.cons _ (.refl _))) rfl (v_fieldAddr he rfl) ?_
     refine d_tv 3 rfl rfl (by kernel_rfl) rfl (.cons _ (.cons _ (.refl _))) rfl (v_ld m3 he rfl rfl) ?_
     refine d_tv 4 rfl rfl (by kernel_rfl) rfl (.cons _ (.cons _ (.refl _))) rfl (v_move rfl) ?_
     obtain ⟨b48, o48, w48, e48, c48, r48⟩ := RdA.at_ hA (i := i) hlt
     obtain ⟨q48, rfl, B48, d48, rfl, hB48, hd48, hm48⟩ := r48
     refine d_tv 5 rfl rfl (by kernel_rfl) rfl (.cons _ (.cons _ (.refl _))) rfl (v_idx he rfl rfl e48 (i) (by omega) hlt) ?_
     refine d_tv 6 rfl rfl (by kernel_rfl) rfl (.cons _ (.cons _ (.refl _))) rfl (v_ldIa he rfl c48 rfl) ?_
     refine d_two 1 7 (by kernel_rfl) rfl rfl ?_ ?_
     ·refine o_val rfl (v_ld m1 he rfl rfl) ?_
      refine d_on (fun _ m => m.keeps (.cons _ (.cons _ (.refl _)))) ?_
      refine d_one 7 (by kernel_rfl) rfl ?_
      refine o_buildSlice he he rfl rfl rfl rfl rfl rfl rfl (fun v50 => ?_)
      refine d_on (fun _ m => m.keeps (.cons _ (.cons _ (.cons _ (.refl _))))) ?_
      refine d_one 8 (by kernel_rfl) rfl ?_
      refine bring1 ?_
      refine o_appendO he he rfl rfl rfl rfl rfl (by omega) (by omega) rfl (fun v51 => ?_)
      refine sx_row1 (fun u => ?_)
      refine d_on (fun _ m => m.keeps (.cons _ (.cons _ (.cons _ (.refl _))))) ?_
      refine d_tv 9 rfl rfl (by kernel_rfl) rfl (.cons _ (.cons _ (.cons _ (.refl _)))) rfl (v_fieldAddr he rfl) ?_
      refine d_one 10 (by kernel_rfl) rfl ?_
      refine bring2 ?_
      refine o_st1 he rfl rfl u rfl ?_
      refine d_on (fun _ m => m.keeps (.cons _ (.cons _ (.cons _ (.refl _))))) ?_
      refine d_done (by kernel_rfl) ?_
      refine go 8 ?_
      refine bring2 ?_
      refine sx_drop ?_
      refine bring2 ?_
      refine sx_drop ?_
      refine bring4 ?_
      refine bring4 ?_
      refine bring4 ?_
      refine bring3 ?_
      refine bring4 ?_
      exact q_next5 (i + 1) (_) (_) (_) (out ++ [x] ++ [l[i]]) ⟨by omega, wF_tt hlt hw h17 h27 h42, (hF.append (.one hr)).append (.one ⟨_, rfl, B48, d48, rfl, hB48, hd48, hm48⟩)⟩ (by omega) rfl sb (by first | rfl | (simp only [List.length_append, List.length_singleton]; rfl) | simp only [List.length_append, List.length_singleton])
     ·refine o_buildSlice he he rfl rfl rfl rfl rfl rfl rfl (fun v50 => ?_)
      refine d_on (fun _ m => m.keeps (.cons _ (.cons _ (.cons _ (.refl _))))) ?_
      refine d_one 1 (by kernel_rfl) rfl ?_
      refine o_val rfl (v_ld m2 he rfl rfl) ?_
      refine d_on (fun _ m => m.keeps (.cons _ (.cons _ (.cons _ (.refl _))))) ?_
      refine d_one 8 (by kernel_rfl) rfl ?_
      refine bring1 ?_
      refine o_appendO he he rfl rfl rfl rfl rfl (by omega) (by omega) rfl (fun v51 => ?_)
      refine sx_row1 (fun u => ?_)
      refine d_on (fun _ m => m.keeps (.cons _ (.cons _ (.cons _ (.refl _))))) ?_
      refine d_tv 9 rfl rfl (by kernel_rfl) rfl (.cons _ (.cons _ (.cons _ (.refl _)))) rfl (v_fieldAddr he rfl) ?_
      refine d_one 10 (by kernel_rfl) rfl ?_
      refine bring2 ?_
      refine o_st1 he rfl rfl u rfl ?_
      refine d_on (fun _ m => m.keeps (.cons _ (.cons _ (.cons _ (.refl _))))) ?_
      refine d_done (by kernel_rfl) ?_
      refine go 8 ?_
      refine bring2 ?_
      refine sx_drop ?_
      refine bring2 ?_
      refine sx_drop ?_
      refine bring4 ?_
      refine bring4 ?_
      refine bring4 ?_
      refine bring3 ?_
      refine bring4 ?_
      exact q_next5 (i + 1) (_) (_) (_) (out ++ [x] ++ [l[i]]) ⟨by omega, wF_tt hlt hw h17 h27 h42, (hF.append (.one hr)).append (.one ⟨_, rfl, B48, d48, rfl, hB48, hd48, hm48⟩)⟩ (by omega) rfl sb (by first | rfl | (simp only [List.length_append, List.length_singleton]; rfl) | simp only [List.length_append, List.length_singleton])
    ·refine go 9 ?_
     refine bring2 ?_
     refine sx_drop ?_
     refine bring4 ?_
     refine bring4 ?_
     refine bring4 ?_
     refine bring3 ?_
     refine bring4 ?_
     exact q_next5 (i + 1) (_) (_) (_) (out ++ [x]) ⟨by omega, wF_tf hlt hw h17 h27 h42, hF.append (.one hr)⟩ (by omega) rfl sb (by first | rfl | (simp only [List.length_append, List.length_singleton]; rfl) | simp only [List.length_append, List.length_singleton])
   ·refine go 3 ?_
    refine d_startH T.mixed ?_
    refine d_tv 0 rfl rfl (by kernel_rfl) rfl (.refl _) rfl (v_fieldAddr he rfl) ?_
    refine d_tv 1 rfl rfl (by kernel_rfl) rfl (.refl _) rfl (v_ld m4 he rfl rfl) ?_
    refine d_tv 2 rfl rfl (by kernel_rfl) rfl (.refl _) rfl (v_move rfl) ?_
    obtain ⟨b37, o37, w37, e37, c37, r37⟩ := RdA.at_ hA (i := i) hlt
    obtain ⟨q37, rfl, B37, d37, rfl, hB37, hd37, hm37⟩ := r37
    refine d_tv 3 rfl rfl (by kernel_rfl) rfl (.refl _) rfl (v_idx he rfl rfl e37 (i) (by omega) hlt) ?_
    refine d_tv 4 rfl rfl (by kernel_rfl) rfl (.refl _) rfl (v_fieldAddr he rfl) ?_
    refine d_tv 5 rfl rfl (by kernel_rfl) rfl (.refl _) rfl (v_ldI he rfl (c37 0 _ rfl)) ?_
    refine d_tv 6 rfl rfl (by kernel_rfl) rfl (.refl _) rfl (v_fieldAddr he rfl) ?_
    refine d_tv 7 rfl rfl (by kernel_rfl) rfl (.refl _) rfl (v_ld m3 he rfl rfl) ?_
    refine d_tv 8 rfl rfl (by kernel_rfl) rfl (.refl _) rfl (v_sneq rfl rfl) ?_
    refine d_done (by kernel_rfl) ?_
    refine go 1 ?_
    refine cb rfl (fun h42 p42 => ?_) (fun h42 p42 => ?_)
    ·refine bring1 ?_
     refine bring1 ?_
     refine d_start2 T.mixed ?_
     refine d_tv 0 rfl rfl (by kernel_rfl) rfl (.cons _ (.cons _ (.refl _))) rfl (v_fieldAddr he rfl) ?_
     refine d_tv 2 rfl rfl (by kernel_rfl) rfl (.cons _ (.cons _ (.refl _))) rfl (v_fieldAddr he rfl) ?_
     refine d_tv 3 rfl rfl (by kernel_rfl) rfl (.cons _ (.cons _ (.refl _))) rfl (v_ld m2 he rfl rfl) ?_
     refine d_tv 4 rfl rfl (by kernel_rfl) rfl (.cons _ (.cons _ (.refl _))) rfl (v_move rfl) ?_
     obtain ⟨b48, o48, w48, e48, c48, r48⟩ := RdA.at_ hA (i := i) hlt
     obtain ⟨q48, rfl, B48, d48, rfl, hB48, hd48, hm48⟩ := r48
     refine d_tv 5 rfl rfl (by kernel_rfl) rfl (.cons _ (.cons _ (.refl _))) rfl (v_idx he rfl rfl e48 (i) (by omega) hlt) ?_
     refine d_tv 6 rfl rfl (by kernel_rfl) rfl (.cons _ (.cons _ (.refl _))) rfl (v_ldIa he rfl c48 rfl) ?_
     refine d_two 1 7 (by kernel_rfl) rfl rfl ?_ ?_
     ·refine o_val rfl (v_ld m1 he rfl rfl) ?_
      refine d_on (fun _ m => m.keeps (.cons _ (.cons _ (.refl _)))) ?_
      refine d_one 7 (by kernel_rfl) rfl ?_
      refine o_buildSlice he he rfl rfl rfl rfl rfl rfl rfl (fun v50 => ?_)
      refine d_on (fun _ m => m.keeps (.cons _ (.cons _ (.cons _ (.refl _))))) ?_
      refine d_one 8 (by kernel_rfl) rfl ?_
      refine bring1 ?_
      refine o_appendO he he rfl rfl rfl rfl rfl (by omega) (by omega) rfl (fun v51 => ?_)
      refine sx_row1 (fun u => ?_)
      refine d_on (fun _ m => m.keeps (.cons _ (.cons _ (.cons _ (.refl _))))) ?_
      refine d_tv 9 rfl rfl (by kernel_rfl) rfl (.cons _ (.cons _ (.cons _ (.refl _)))) rfl (v_fieldAddr he rfl) ?_
      refine d_one 10 (by kernel_rfl) rfl ?_
      refine bring2 ?_
      refine o_st1 he rfl rfl u rfl ?_
      refine d_on (fun _ m => m.keeps (.cons _ (.cons _ (.cons _ (.refl _))))) ?_
      refine d_done (by kernel_rfl) ?_
      refine go 8 ?_
      refine bring2 ?_
      refine sx_drop ?_
      refine bring4 ?_
      refine bring4 ?_
      refine bring4 ?_
      refine bring3 ?_
      refine bring4 ?_
      exact q_next5 (i + 1) (_) (_) (_) (out ++ [l[i]]) ⟨by omega, wF_ft hlt hw (by rw [h17, h27]; rfl) h42, hF.append (.one ⟨_, rfl, B48, d48, rfl, hB48, hd48, hm48⟩)⟩ (by omega) rfl sb (by first | rfl | (simp only [List.length_append, List.length_singleton]; rfl) | simp only [List.length_append, List.length_singleton])
     ·refine o_buildSlice he he rfl rfl rfl rfl rfl rfl rfl (fun v50 => ?_)
      refine d_on (fun _ m => m.keeps (.cons _ (.cons _ (.cons _ (.refl _))))) ?_
      refine d_one 1 (by kernel_rfl) rfl ?_
      refine o_val rfl (v_ld m2 he rfl rfl) ?_
      refine d_on (fun _ m => m.keeps (.cons _ (.cons _ (.cons _ (.refl _))))) ?_
      refine d_one 8 (by kernel_rfl) rfl ?_
      refine bring1 ?_
      refine o_appendO he he rfl rfl rfl rfl rfl (by omega) (by omega) rfl (fun v51 => ?_)
      refine sx_row1 (fun u => ?_)
      refine d_on (fun _ m => m.keeps (.cons _ (.cons _ (.cons _ (.refl _))))) ?_
      refine d_tv 9 rfl rfl (by kernel_rfl) rfl (.cons _ (.cons _ (.cons _ (.refl _)))) rfl (v_fieldAddr he rfl) ?_
      refine d_one 10 (by kernel_rfl) rfl ?_
      refine bring2 ?_
      refine o_st1 he rfl rfl u rfl ?_
      refine d_on (fun _ m => m.keeps (.cons _ (.cons _ (.cons _ (.refl _))))) ?_
      refine d_done (by kernel_rfl) ?_
      refine go 8 ?_
      refine bring2 ?_
      refine sx_drop ?_
      refine bring4 ?_
      refine bring4 ?_
      refine bring4 ?_
      refine bring3 ?_
      refine bring4 ?_
      exact q_next5 (i + 1) (_) (_) (_) (out ++ [l[i]]) ⟨by omega, wF_ft hlt hw (by rw [h17, h27]; rfl) h42, hF.append (.one ⟨_, rfl, B48, d48, rfl, hB48, hd48, hm48⟩)⟩ (by omega) rfl sb (by first | rfl | (simp only [List.length_append, List.length_singleton]; rfl) | simp only [List.length_append, List.length_singleton])
    ·refine go 9 ?_
     exact q_next5 (i + 1) (_) (_) (_) (out) ⟨by omega, wF_ff hlt hw (by rw [h17, h27]; rfl) h42, hF⟩ (by omega) rfl sb (by first | rfl | (simp only [List.length_append, List.length_singleton]; rfl) | simp only [List.length_append, List.length_singleton])
  ·refine d_t 3 rfl rfl (by kernel_rfl) rfl (fun _ m => m.keeps (.refl _)) (y_no rfl rfl h17) ?_
   refine d_t 4 rfl rfl (by kernel_rfl) rfl (fun _ m => m.keeps (.refl _)) (y_no rfl rfl h17) ?_
   refine d_t 5 rfl rfl (by kernel_rfl) rfl (fun _ m => m.keeps (.refl _)) (y_no rfl rfl h17) ?_
   refine d_t 6 rfl rfl (by kernel_rfl) rfl (fun _ m => m.keeps (.refl _)) (y_no rfl rfl h17) ?_
   refine d_t 7 rfl rfl (by kernel_rfl) rfl (fun _ m => m.keeps (.refl _)) (y_no rfl rfl h17) ?_
   refine d_t 8 rfl rfl (by kernel_rfl) rfl (fun _ m => m.keeps (.refl _)) (y_no rfl rfl h17) ?_
   refine d_t 9 rfl rfl (by kernel_rfl) rfl (fun _ m => m.keeps (.refl _)) (y_no rfl rfl h17) ?_
   refine d_t 10 rfl rfl (by kernel_rfl) rfl (fun _ m => m.keeps (.refl _)) (y_no rfl rfl h17) ?_
   refine d_t 11 rfl rfl (by kernel_rfl) rfl (fun _ m => m.keeps (.refl _)) (y_no rfl rfl h17) ?_
   refine d_tv 12 rfl rfl (by kernel_rfl) rfl (.refl _) rfl (v_and_f h17 rfl) ?_
   refine d_done (by kernel_rfl) ?_
   refine go 1 ?_
   refine c_false rfl ?_
   refine go 3 ?_
   refine d_startH T.mixed ?_
   refine d_tv 0 rfl rfl (by kernel_rfl) rfl (.refl _) rfl (v_fieldAddr he rfl) ?_
   refine d_tv 1 rfl rfl (by kernel_rfl) rfl (.refl _) rfl (v_ld m4 he rfl rfl) ?_
   refine d_tv 2 rfl rfl (by kernel_rfl) rfl (.refl _) rfl (v_move rfl) ?_
   obtain ⟨b37, o37, w37, e37, c37, r37⟩ := RdA.at_ hA (i := i) hlt
   obtain ⟨q37, rfl, B37, d37, rfl, hB37, hd37, hm37⟩ := r37
   refine d_tv 3 rfl rfl (by kernel_rfl) rfl (.refl _) rfl (v_idx he rfl rfl e37 (i) (by omega) hlt) ?_
   refine d_tv 4 rfl rfl (by kernel_rfl) rfl (.refl _) rfl (v_fieldAddr he rfl) ?_
   refine d_tv 5 rfl rfl (by kernel_rfl) rfl (.refl _) rfl (v_ldI he rfl (c37 0 _ rfl)) ?_
   refine d_tv 6 rfl rfl (by kernel_rfl) rfl (.refl _) rfl (v_fieldAddr he rfl) ?_
   refine d_tv 7 rfl rfl (by kernel_rfl) rfl (.refl _) rfl (v_ld m3 he rfl rfl) ?_
   refine d_tv 8 rfl rfl (by kernel_rfl) rfl (.refl _) rfl (v_sneq rfl rfl) ?_
   refine d_done (by kernel_rfl) ?_
   refine go 1 ?_
   refine cb rfl (fun h42 p42 => ?_) (fun h42 p42 => ?_)
   ·refine bring1 ?_
    refine bring1 ?_
    refine d_start2 T.mixed ?_
    refine d_tv 0 rfl rfl (by kernel_rfl) rfl (.cons _ (.cons _ (.refl _))) rfl (v_fieldAddr he rfl) ?_
    refine d_tv 2 rfl rfl (by kernel_rfl) rfl (.cons _ (.cons _ (.refl _))) rfl (v_fieldAddr he rfl) ?_
    refine d_tv 3 rfl rfl (by kernel_rfl) rfl (.cons _ (.cons _ (.refl _))) rfl (v_ld m2 he rfl rfl) ?_
    refine d_tv 4 rfl rfl (by kernel_rfl) rfl (.cons _ (.cons _ (.refl _))) rfl (v_move rfl) ?_
    obtain ⟨b48, o48, w48, e48, c48, r48⟩ := RdA.at_ hA (i := i) hlt
    obtain ⟨q48, rfl, B48, d48, rfl, hB48, hd48, hm48⟩ := r48
    refine d_tv 5 rfl rfl (by kernel_rfl) rfl (.cons _ (.cons _ (.refl _))) rfl (v_idx he rfl rfl e48 (i) (by omega) hlt) ?_
    refine d_tv 6 rfl rfl (by kernel_rfl) rfl (.cons _ (.cons _ (.refl _))) rfl (v_ldIa he rfl c48 rfl) ?_
    refine d_two 1 7 (by kernel_rfl) rfl rfl ?_ ?_
    ·refine o_val rfl (v_ld m1 he rfl rfl) ?_
     refine d_on (fun _ m => m.keeps (.cons _ (.cons _ (.refl _)))) ?_
     refine d_one 7 (by kernel_rfl) rfl ?_
     refine o_buildSlice he he rfl rfl rfl rfl rfl rfl rfl (fun v50 => ?_)
     refine d_on (fun _ m => m.keeps (.cons _ (.cons _ (.cons _ (.refl _))))) ?_
     refine d_one 8 (by kernel_rfl) rfl ?_
     refine bring1 ?_
     refine o_appendO he he rfl rfl rfl rfl rfl (by omega) (by omega) rfl (fun v51 => ?_)
     refine sx_row1 (fun u => ?_)
     refine d_on (fun _ m => m.keeps (.cons _ (.cons _ (.cons _ (.refl _))))) ?_
     refine d_tv 9 rfl rfl (by kernel_rfl) rfl (.cons _ (.cons _ (.cons _ (.refl _)))) rfl (v_fieldAddr he rfl) ?_
     refine d_one 10 (by kernel_rfl) rfl ?_
     refine bring2 ?_
     refine o_st1 he rfl rfl u rfl ?_
     refine d_on (fun _ m => m.keeps (.cons _ (.cons _ (.cons _ (.refl _))))) ?_
     refine d_done (by kernel_rfl) ?_
     refine go 8 ?_
     refine bring2 ?_
     refine sx_drop ?_
     refine bring4 ?_
     refine bring4 ?_
     refine bring4 ?_
     refine bring3 ?_
     refine bring4 ?_
     exact q_next5 (i + 1) (_) (_) (_) (out ++ [l[i]]) ⟨by omega, wF_ft hlt hw (by rw [h17]; rfl) h42, hF.append (.one ⟨_, rfl, B48, d48, rfl, hB48, hd48, hm48⟩)⟩ (by omega) rfl sb (by first | rfl | (simp only [List.length_append, List.length_singleton]; rfl) | simp only [List.length_append, List.length_singleton])
    ·refine o_buildSlice he he rfl rfl rfl rfl rfl rfl rfl (fun v50 => ?_)
     refine d_on (fun _ m => m.keeps (.cons _ (.cons _ (.cons _ (.refl _))))) ?_
     refine d_one 1 (by kernel_rfl) rfl ?_
     refine o_val rfl (v_ld m2 he rfl rfl) ?_
     refine d_on (fun _ m => m.keeps (.cons _ (.cons _ (.cons _ (.refl _))))) ?_
     refine d_one 8 (by kernel_rfl) rfl ?_
     refine bring1 ?_
     refine o_appendO he he rfl rfl rfl rfl rfl (by omega) (by omega) rfl (fun v51 => ?_)
     refine sx_row1 (fun u => ?_)
     refine d_on (fun _ m => m.keeps (.cons _ (.cons _ (.cons _ (.refl _))))) ?_
     refine d_tv 9 rfl rfl (by kernel_rfl) rfl (.cons _ (.cons _ (.cons _ (.refl _)))) rfl (v_fieldAddr he rfl) ?_
     refine d_one 10 (by kernel_rfl) rfl ?_
     refine bring2 ?_
     refine o_st1 he rfl rfl u rfl ?_
     refine d_on (fun _ m => m.keeps (.cons _ (.cons _ (.cons _ (.refl _))))) ?_
     refine d_done (by kernel_rfl) ?_
     refine go 8 ?_
     refine bring2 ?_
     refine sx_drop ?_
     refine bring4 ?_
     refine bring4 ?_
     refine bring4 ?_
     refine bring3 ?_
     refine bring4 ?_
     exact q_next5 (i + 1) (_) (_) (_) (out ++ [l[i]]) ⟨by omega, wF_ft hlt hw (by rw [h17]; rfl) h42, hF.append (.one ⟨_, rfl, B48, d48, rfl, hB48, hd48, hm48⟩)⟩ (by omega) rfl sb (by first | rfl | (simp only [List.length_append, List.length_singleton]; rfl) | simp only [List.length_append, List.length_singleton])
   ·refine go 9 ?_
    exact q_next5 (i + 1) (_) (_) (_) (out) ⟨by omega, wF_ff hlt hw (by rw [h17]; rfl) h42, hF⟩ (by omega) rfl sb (by first | rfl | (simp only [List.length_append, List.length_singleton]; rfl) | simp only [List.length_append, List.length_singleton])
 ·have e : i = l.length := (by omega)
  subst e
  rw [List.take_length] at hw
  refine sx_row1 (fun u => ?_)
  refine go 12 ?_
  refine cb rfl (fun h54 p54 => ?_) (fun h54 p54 => ?_)
  ·refine go 5 ?_
   refine o_buildSlice he he rfl rfl rfl rfl rfl rfl rfl (fun v58 => ?_)
   refine go 1 ?_
   refine bring1 ?_
   refine o_appendO he he rfl rfl rfl rfl rfl (by omega) (by omega) rfl (fun v59 => ?_)
   refine sx_row1 (fun u => ?_)
   refine go 2 ?_
   refine bring2 ?_
   refine o_st1 he rfl rfl u rfl ?_
   refine go 6 ?_
   refine bring3 ?_
   refine o_stw _ he rfl rfl rfl rfl rfl (row_all u) ?_
   refine go 3 ?_
   refine fin1 rfl ⟨_, _, _, rfl, m0, .inr ⟨_, he, rfl, rfl⟩⟩ ?_
   refine sx_drop ?_
   refine sx_drop ?_
   refine bring1 ?_
   refine sx_drop ?_
   refine bring1 ?_
   refine sx_drop ?_
   refine bring1 ?_
   refine sx_drop ?_
   refine sx_pubrow (l := out ++ [x]) rfl (by simp) (hF.append (.one hr)) (fun I9 j9 R9 => ?_)
   exact q_i ⟨_, rfl, by rw [with_t hw h54]; exact R9⟩
  ·refine go 6 ?_
   refine bring2 ?_
   refine o_stw _ he rfl rfl rfl rfl rfl (row_all u) ?_
   refine go 3 ?_
   refine fin1 rfl ⟨_, _, _, rfl, m0, .inr ⟨_, he, rfl, rfl⟩⟩ ?_
   refine sx_drop ?_
   refine bring1 ?_
   refine sx_drop ?_
   refine bring1 ?_
   refine sx_drop ?_
   refine bring1 ?_
   refine sx_drop ?_
   refine sx_pubrow (l := out) rfl rfl hF (fun I9 j9 R9 => ?_)
   exact q_i ⟨_, rfl, by rw [with_f hw h54]; exact R9⟩

theorem ref10Note (I : IMap) (v : Value) (l : List Prp) (hv : RdS I v l) (hl : l.length ≤ 1000000) (s t : ByteArray) :
    FnI Tryz.prog 190 #[v, .string s, .string t] I (fun u J => RdS J u (withF Prp.key ⟨s, t⟩ l)) := by
 obtain ⟨A, c0, rfl, hA, hc, hm⟩ := hv
 refine enter Tryz.func190 Tryz.call190 rfl Tryz.ntmps190 rfl (fun w0 => ?_)
 refine go 7 ?_
 refine sx_nilrow 183 2 ?_
 refine go 15 ?_
 refine c_loop5 ((0 : Nat)) (_) ([]) (_) ([]) (fun i v xs b out => I)
  (fun i v xs b out => [(0, .slice A l.length c0), (1, .string s), (2, .string t), (7, v), (8, .bool b), (9, .int .i64 ((i : Nat) : Int))])
  (fun i v xs b out => [.row v 183 2 out.length xs])
  (fun i v xs b out => i ≤ l.length ∧ wF Prp.key ⟨s, t⟩ (l.take i) = (out, b) ∧ Flat I xs out)
  (fun i v xs b out => l.length - i) ⟨Nat.zero_le _, rfl, .nil⟩ rfl sb rfl ?_
 intro i v xs b out ⟨hi, hw, hF⟩
 have hol := w_le hw
 refine go 9 ?_
 refine cb rfl (fun h13 p13 => ?_) (fun h13 p13 => ?_)
 ·have hlt : i < l.length := by omega
  refine go 10 ?_
  refine sxb 18 rfl (fun h18 p18 => ?_) (fun h18 p18 => ?_)
  ·refine go 2 ?_
   obtain ⟨b21, o21, w21, e21, c21, r21⟩ := RdA.at_ hA (i := i) hlt
   obtain rfl := r21
   refine o_cons (o_yes rfl rfl h18 (o_val rfl (v_idx he rfl rfl e21 (i) (by omega) hlt) ?_))
   refine go 1 ?_
   refine o_cons (o_yes rfl rfl h18 (o_val rfl (v_ldI he rfl (c21 0 _ rfl)) ?_))
   refine go 5 ?_
   refine cb rfl (fun h26 p26 => ?_) (fun h26 p26 => ?_)
   ·refine go 6 ?_
    refine o_val rfl (v_build (pl := [(0, 1), (1, 1)]) he he rfl rfl) ?_
    refine go 1 ?_
    refine o_buildSlice he he rfl rfl rfl rfl rfl rfl rfl (fun v31 => ?_)
    refine go 1 ?_
    refine bring1 ?_
    refine o_appendO he he rfl rfl rfl rfl rfl (by omega) (by omega) rfl (fun v32 => ?_)
    refine go 11 ?_
    obtain ⟨b35, o35, w35, e35, c35, r35⟩ := RdA.at_ hA (i := i) hlt
    obtain rfl := r35
    refine o_v rfl (v_idx he rfl rfl e35 (i) (by omega) hlt) ?_
    refine go 1 ?_
    refine o_v rfl (v_ldI he rfl (c35 0 _ rfl)) ?_
    refine go 4 ?_
    refine cb rfl (fun h39 p39 => ?_) (fun h39 p39 => ?_)
    ·refine go 4 ?_
     obtain ⟨b43, o43, w43, e43, c43, r43⟩ := RdA.at_ hA (i := i) hlt
     obtain rfl := r43
     refine o_v rfl (v_idx he rfl rfl e43 (i) (by omega) hlt) ?_
     refine o_v rfl (v_ldIa he rfl c43 rfl) ?_
     refine go 1 ?_
     refine o_buildSlice he he rfl rfl rfl rfl rfl rfl rfl (fun v45 => ?_)
     refine go 1 ?_
     refine bring1 ?_
     refine o_appendO he he rfl rfl rfl rfl rfl (by omega) (by omega) rfl (fun v46 => ?_)
     refine go 10 ?_
     refine bring1 ?_
     refine sx_drop ?_
     refine bring1 ?_
     refine sx_drop ?_
     exact q_next5 (i + 1) (_) (_) (_) (out ++ [⟨s, t⟩] ++ [l[i]]) ⟨by omega, wF_tt hlt hw h18 h26 h39, (hF.append (.one rfl)).append (.one rfl)⟩ (by omega) rfl sb (by first | rfl | (simp only [List.length_append, List.length_singleton]; rfl) | simp only [List.length_append, List.length_singleton])
    ·refine go 9 ?_
     refine bring1 ?_
     refine sx_drop ?_
     exact q_next5 (i + 1) (_) (_) (_) (out ++ [⟨s, t⟩]) ⟨by omega, wF_tf hlt hw h18 h26 h39, hF.append (.one rfl)⟩ (by omega) rfl sb (by first | rfl | (simp only [List.length_append, List.length_singleton]; rfl) | simp only [List.length_append, List.length_singleton])
   ·refine go 6 ?_
    obtain ⟨b35, o35, w35, e35, c35, r35⟩ := RdA.at_ hA (i := i) hlt
    obtain rfl := r35
    refine o_v rfl (v_idx he rfl rfl e35 (i) (by omega) hlt) ?_
    refine go 1 ?_
    refine o_v rfl (v_ldI he rfl (c35 0 _ rfl)) ?_
    refine go 4 ?_
    refine cb rfl (fun h39 p39 => ?_) (fun h39 p39 => ?_)
    ·refine go 4 ?_
     obtain ⟨b43, o43, w43, e43, c43, r43⟩ := RdA.at_ hA (i := i) hlt
     obtain rfl := r43
     refine o_v rfl (v_idx he rfl rfl e43 (i) (by omega) hlt) ?_
     refine o_v rfl (v_ldIa he rfl c43 rfl) ?_
     refine go 1 ?_
     refine o_buildSlice he he rfl rfl rfl rfl rfl rfl rfl (fun v45 => ?_)
     refine go 1 ?_
     refine bring1 ?_
     refine o_appendO he he rfl rfl rfl rfl rfl (by omega) (by omega) rfl (fun v46 => ?_)
     refine go 10 ?_
     refine bring1 ?_
     refine sx_drop ?_
     exact q_next5 (i + 1) (_) (_) (_) (out ++ [l[i]]) ⟨by omega, wF_ft hlt hw (by rw [h18, h26]; rfl) h39, hF.append (.one rfl)⟩ (by omega) rfl sb (by first | rfl | (simp only [List.length_append, List.length_singleton]; rfl) | simp only [List.length_append, List.length_singleton])
    ·refine go 9 ?_
     exact q_next5 (i + 1) (_) (_) (_) (out) ⟨by omega, wF_ff hlt hw (by rw [h18, h26]; rfl) h39, hF⟩ (by omega) rfl sb (by first | rfl | (simp only [List.length_append, List.length_singleton]; rfl) | simp only [List.length_append, List.length_singleton])
  ·refine go 10 ?_
   refine c_false rfl ?_
   refine go 6 ?_
   obtain ⟨b35, o35, w35, e35, c35, r35⟩ := RdA.at_ hA (i := i) hlt
   obtain rfl := r35
   refine o_v rfl (v_idx he rfl rfl e35 (i) (by omega) hlt) ?_
   refine go 1 ?_
   refine o_v rfl (v_ldI he rfl (c35 0 _ rfl)) ?_
   refine go 4 ?_
   refine cb rfl (fun h39 p39 => ?_) (fun h39 p39 => ?_)
   ·refine go 4 ?_
    obtain ⟨b43, o43, w43, e43, c43, r43⟩ := RdA.at_ hA (i := i) hlt
    obtain rfl := r43
    refine o_v rfl (v_idx he rfl rfl e43 (i) (by omega) hlt) ?_
    refine o_v rfl (v_ldIa he rfl c43 rfl) ?_
    refine go 1 ?_
    refine o_buildSlice he he rfl rfl rfl rfl rfl rfl rfl (fun v45 => ?_)
    refine go 1 ?_
    refine bring1 ?_
    refine o_appendO he he rfl rfl rfl rfl rfl (by omega) (by omega) rfl (fun v46 => ?_)
    refine go 10 ?_
    refine bring1 ?_
    refine sx_drop ?_
    exact q_next5 (i + 1) (_) (_) (_) (out ++ [l[i]]) ⟨by omega, wF_ft hlt hw (by rw [h18]; rfl) h39, hF.append (.one rfl)⟩ (by omega) rfl sb (by first | rfl | (simp only [List.length_append, List.length_singleton]; rfl) | simp only [List.length_append, List.length_singleton])
   ·refine go 9 ?_
    exact q_next5 (i + 1) (_) (_) (_) (out) ⟨by omega, wF_ff hlt hw (by rw [h18]; rfl) h39, hF⟩ (by omega) rfl sb (by first | rfl | (simp only [List.length_append, List.length_singleton]; rfl) | simp only [List.length_append, List.length_singleton])
 ·have e : i = l.length := (by omega)
  subst e
  rw [List.take_length] at hw
  refine go 12 ?_
  refine cb rfl (fun h48 p48 => ?_) (fun h48 p48 => ?_)
  ·refine go 5 ?_
   refine o_val rfl (v_build (pl := [(0, 1), (1, 1)]) he he rfl rfl) ?_
   refine go 1 ?_
   refine o_buildSlice he he rfl rfl rfl rfl rfl rfl rfl (fun v53 => ?_)
   refine go 1 ?_
   refine bring1 ?_
   refine o_appendO he he rfl rfl rfl rfl rfl (by omega) (by omega) rfl (fun v54 => ?_)
   refine go 10 ?_
   refine fin1 rfl rfl ?_
   refine bring1 ?_
   refine sx_drop ?_
   refine sx_pubrow (l := out ++ [(⟨s, t⟩ : Prp)]) rfl (by simp) (hF.append (.one rfl)) (fun I9 j9 R9 => ?_)
   exact q_i (by rw [with_t hw h48]; exact R9)
  ·refine go 9 ?_
   refine fin1 rfl rfl ?_
   refine sx_pubrow (l := out) rfl rfl hF (fun I9 j9 R9 => ?_)
   exact q_i (by rw [with_f hw h48]; exact R9)

theorem ref10held (I : IMap) (v : Value) (l : List Part) (hv : RdS I v l) (s t : ByteArray) :
    FnV Tryz.prog 189 #[.agg #[v], .string s, .string t] I (.bool (heldF l s t)) := by
 obtain ⟨A, c0, rfl, hA, hc, hm⟩ := hv
 refine enter Tryz.func189 Tryz.call189 rfl Tryz.ntmps189 rfl (fun w0 => ?_)
 refine go 3 ?_
 refine o_box _ rfl rfl rfl (fun g3 => ?_)
 refine go 10 ?_
 refine c_loop (α := Nat) 0 (fun i => I)
  (fun i => [(1, .string s), (2, .string t), (3, .pointer (some ⟨g3, 0, none⟩)), (7, .int .i64 ((i : Nat) : Int))])
  (fun i => [.blk g3 134 [.slice A l.length c0]])
  (fun i => i ≤ l.length ∧ ∀ j x, j < i → l[j]? = some x → (fun x : Part => decide (x.into = s) && (decide (t = nil8) || decide (x.slot = t))) x = false)
  (fun i => l.length - i) ⟨Nat.zero_le _, fun j x hj => absurd hj (Nat.not_lt_zero j)⟩ rfl sb rfl ?_
 intro i ⟨hi, hn⟩
 refine go 10 ?_
 refine cb rfl (fun h12 p12 => ?_) (fun h12 p12 => ?_)
 ·have hlt : i < l.length := by omega
  refine go 5 ?_
  refine c_cut (I' := I) (L' := [(1, .string s), (2, .string t), (3, .pointer (some ⟨g3, 0, none⟩)), (7, .int .i64 ((i : Nat) : Int)), (36, .bool (decide (l[i].into = s) && (decide (t = nil8) || decide (l[i].slot = t))))]) (H' := [.blk g3 134 [.slice A l.length c0]]) ?_ ?_
  ·refine go 4 ?_
   obtain ⟨b18, o18, w18, e18, c18, r18⟩ := RdA.at_ hA (i := i) hlt
   obtain ⟨q18, rfl, B18, d18, rfl, hB18, hd18, hm18⟩ := r18
   refine o_v rfl (v_idx he rfl rfl e18 (i) (by omega) hlt) ?_
   refine go 1 ?_
   refine o_v rfl (v_ldI he rfl (c18 2 _ rfl)) ?_
   refine go 3 ?_
   refine sxb 23 rfl (fun h23 p23 => ?_) (fun h23 p23 => ?_)
   ·refine go 3 ?_
    refine sxb 26 rfl (fun h26 p26 => ?_) (fun h26 p26 => ?_)
    ·refine go 12 ?_
     exact q_cut ⟨rfl, rfl, rfl, rfl, (congrArg (fun b => some (Value.bool b)) (by simp only [h12, h23, h26, bS])), trivial⟩ rfl rfl
    ·refine go 3 ?_
     obtain ⟨b30, o30, w30, e30, c30, r30⟩ := RdA.at_ hA (i := i) hlt
     obtain ⟨q30, rfl, B30, d30, rfl, hB30, hd30, hm30⟩ := r30
     refine o_cons (o_yes rfl rfl h26 (o_val rfl (v_idx he rfl rfl e30 (i) (by omega) hlt) ?_))
     refine go 1 ?_
     refine o_cons (o_yes rfl rfl h26 (o_val rfl (v_ldI he rfl (c30 3 _ rfl)) ?_))
     refine go 6 ?_
     exact q_cut ⟨rfl, rfl, rfl, rfl, (congrArg (fun b => some (Value.bool b)) (by simp only [h12, h23, h26, bS])), trivial⟩ rfl rfl
   ·refine go 15 ?_
    exact q_cut ⟨rfl, rfl, rfl, rfl, (congrArg (fun b => some (Value.bool b)) (by simp only [h12, h23, bS])), trivial⟩ rfl rfl
  ·refine cb rfl (fun h36 p36 => ?_) (fun h36 p36 => ?_)
   ·refine go 11 ?_
    refine fin1 rfl rfl ?_
    exact q_v (congrArg Value.bool (List.any_eq_true.2 ⟨l[i], List.getElem_mem hlt, h36⟩).symm)
   ·refine go 9 ?_
    exact q_next (i + 1) ⟨by omega, idx_next (p := (fun x : Part => decide (x.into = s) && (decide (t = nil8) || decide (x.slot = t)))) hn hlt h36⟩ (by omega) rfl sb rfl
 ·refine go 11 ?_
  refine fin1 rfl rfl ?_
  exact q_v (congrArg Value.bool (any_none (fun j x hj => hn j x (by omega))).symm)

theorem ref10heldS (I : IMap) (v : Value) (l : List Part) (hv : RdS I v l) (e : Evt) (h : e.slot ≠ nil8) : FnV Tryz.prog 189 #[.agg #[v], .string e.into, .string e.slot] I (.bool (seatTaken l e)) := by
  have := ref10held I v l hv e.into e.slot
  rwa [held_seat l e h] at this
theorem ref10heldA (I : IMap) (v : Value) (l : List Part) (hv : RdS I v l) (s : ByteArray) : FnV Tryz.prog 189 #[.agg #[v], .string s, .string ⟨#[]⟩] I (.bool (holdsAny l s)) := by
  have := ref10held I v l hv s nil8
  rwa [held_any l s] at this

theorem ref10Step (I : IMap) (vc : Value) (c : List Kind) (hvc : RdS I vc c) (hsc : SmC c) (v : Value) (l : List Part) (hv : RdS I v l) (hsf : SmF l) (e : Evt) (hse : SmE e) (hV : validS c l = true) (hE : validE e = true) :
    FnI Tryz.prog 158 #[.agg #[vc], .agg #[v], .agg e.cells.toArray] I (fun u J => StIs J (applyF c l e) u) := by
 have hA0 : (!validS c l || !validE e) = false := by rw [hV, hE]; rfl
 obtain ⟨hsrt, hlen⟩ := validS_ord hV
 have hl6 : l.length ≤ 1000000 := by omega
 have hv0 := hv
 obtain ⟨A, c0, rfl, hA, hc, hm⟩ := hv
 refine enter Tryz.func158 Tryz.call158 rfl Tryz.ntmps158 rfl (fun w0 => ?_)
 refine go 3 ?_
 refine o_box _ rfl rfl rfl (fun g3 => ?_)
 refine go 1 ?_
 refine o_box _ rfl rfl rfl (fun g4 => ?_)
 refine go 1 ?_
 refine o_box _ rfl rfl rfl (fun g5 => ?_)
 refine go 1 ?_
 refine o_alloc he rfl (fun g6 => ?_)
 refine go 9 ?_
 refine o_callV (ref10At _ _ l hv0 e.part) rfl rfl ?_
 refine go 11 ?_
 refine cb rfl (fun h22 p22 => ?_) (fun h22 p22 => ?_)
 ·refine go 6 ?_
  refine o_callE (refFind _ vc c hvc e.kind) rfl rfl (fun v27 q27 => ?_)
  obtain ⟨vs13, rfl, s13, rfl, hs13⟩ := q27
  refine go 4 ?_
  refine o_alloc he rfl (fun g9 => ?_)
  refine go 1 ?_
  refine o_stw _ he rfl rfl rfl rfl rfl (Enc.one (α := Kind) (I := I) (x := (findK c e.kind).getD zKind) ⟨s13, rfl, hs13⟩) ?_
  refine go 10 ?_
  refine cb rfl (fun h31 p31 => ?_) (fun h31 p31 => ?_)
  ·have hS1 : (findP l e.part).isSome = true := (by rw [← find_idx]; exact h31)
   refine go 3 ?_
   refine o_val rfl (v_build (pl := [(0, 1)]) he he rfl rfl) ?_
   refine go 1 ?_
   refine bring1 ?_
   refine o_stw _ he rfl rfl rfl rfl rfl rfl ?_
   refine go 6 ?_
   refine fin2 rfl ⟨_, _, _, rfl, m0, .inr ⟨_, he, rfl, rfl⟩⟩ rfl ?_
   exact q_i (StIs.fail (by simp only [applyF, hA0, p22, applyMake, hS1, Bool.true_eq_false, decide_true, decide_false, Int.reduceEq, reduceIte, if_true, if_false, Bool.false_eq_true, not_true, not_false_eq_true, bS]))
  ·have hS1 : (findP l e.part).isSome = false := (by rw [← find_idx]; exact h31)
   refine go 9 ?_
   refine cb rfl (fun h34 p34 => ?_) (fun h34 p34 => ?_)
   ·refine go 3 ?_
    refine o_val rfl (v_build (pl := [(0, 1)]) he he rfl rfl) ?_
    refine go 1 ?_
    refine bring1 ?_
    refine o_stw _ he rfl rfl rfl rfl rfl rfl ?_
    refine go 6 ?_
    refine fin2 rfl ⟨_, _, _, rfl, m0, .inr ⟨_, he, rfl, rfl⟩⟩ rfl ?_
    exact q_i (StIs.fail (by simp only [applyF, hA0, p22, applyMake, hS1, p34, Bool.true_eq_false, decide_true, decide_false, Int.reduceEq, reduceIte, if_true, if_false, Bool.false_eq_true, not_true, not_false_eq_true, bS]))
   ·refine go 11 ?_
    refine cb rfl (fun h39 p39 => ?_) (fun h39 p39 => ?_)
    ·have hL : ((l.length : Nat) : Int) = 20000 := by omega
     refine go 3 ?_
     refine o_val rfl (v_build (pl := [(0, 1)]) he he rfl rfl) ?_
     refine go 1 ?_
     refine bring1 ?_
     refine o_stw _ he rfl rfl rfl rfl rfl rfl ?_
     refine go 6 ?_
     refine fin2 rfl ⟨_, _, _, rfl, m0, .inr ⟨_, he, rfl, rfl⟩⟩ rfl ?_
     exact q_i (StIs.fail (by simp only [applyF, hA0, p22, applyMake, hS1, p34, hL, Bool.true_eq_false, decide_true, decide_false, Int.reduceEq, reduceIte, if_true, if_false, Bool.false_eq_true, not_true, not_false_eq_true, bS]))
    ·have hL : ¬ ((l.length : Nat) : Int) = 20000 := by omega
     refine go 14 ?_
     refine o_val rfl (v_build (pl := [(0, 1), (1, 1), (2, 1), (3, 1), (4, 1), (5, 1), (6, 1), (7, 1), (8, 6)]) he he rfl rfl) ?_
     refine go 1 ?_
     refine o_call (ref10with _ _ l hv0 hl6 (newP e) none 0 ⟨_, rfl, RdS.nil'⟩) rfl rfl (fun v51 I51 j51 q51 => ?_)
     obtain ⟨w51, rfl, hw51⟩ := q51
     refine go 1 ?_
     refine bring1 ?_
     refine o_stw _ he rfl rfl rfl rfl rfl (by simp [hw51.one]) ?_
     refine go 5 ?_
     refine fin2 rfl ⟨_, _, _, rfl, m0, .inr ⟨_, he, rfl, rfl⟩⟩ rfl ?_
     rw [with_put (inc_of hsrt)] at hw51
     exact q_i (StIs.put (by simp only [applyF, hA0, p22, applyMake, hS1, p34, hL, Bool.true_eq_false, decide_true, decide_false, Int.reduceEq, reduceIte, if_true, if_false, Bool.false_eq_true, not_true, not_false_eq_true, bS]) hw51)
 ·refine go 9 ?_
  refine c_cut (I' := I) (L' := [(3, .pointer (some ⟨g3, 0, none⟩)), (4, .pointer (some ⟨g4, 0, none⟩)), (5, .pointer (some ⟨g5, 0, none⟩)), (6, .pointer (some ⟨g6, 0, none⟩)), (8, .int .i64 (idxF (fun p : Part => decide (p.name = e.part)) l)), (11, .int .i64 (idxF (fun p : Part => decide (p.name = (otherN e))) l))]) (H' := [.blk g6 134 [.slice none 0 0], .blk g5 56 e.cells, .blk g4 134 [.slice A l.length c0], .blk g3 24 [vc]]) ?_ ?_
  ·refine go 7 ?_
   refine cb rfl (fun h55 p55 => ?_) (fun h55 p55 => ?_)
   ·refine go 5 ?_
    refine o_callV (ref10At _ _ l hv0 e.into) rfl rfl ?_
    refine go 3 ?_
    exact q_cut ⟨rfl, rfl, rfl, rfl, rfl, (congrArg (fun s => some (Value.int .i64 (idxF (fun p : Part => decide (p.name = s)) l))) (by first | exact (if_pos p55).symm | exact (if_neg p55).symm)), trivial⟩ rfl rfl
   ·refine go 2 ?_
    exact q_cut ⟨rfl, rfl, rfl, rfl, rfl, (congrArg (fun s => some (Value.int .i64 (idxF (fun p : Part => decide (p.name = s)) l))) (by first | exact (if_pos p55).symm | exact (if_neg p55).symm)), trivial⟩ rfl rfl
  ·refine go 6 ?_
   refine sxb 62 rfl (fun h62 p62 => ?_) (fun h62 p62 => ?_)
   ·have hS1 : (findP l e.part).isSome = false := (by rw [← find_idx]; simpa using p62)
    refine go 5 ?_
    refine c_true rfl ?_
    refine go 3 ?_
    refine o_val rfl (v_build (pl := [(0, 1)]) he he rfl rfl) ?_
    refine go 1 ?_
    refine o_stw _ he rfl rfl rfl rfl rfl rfl ?_
    refine go 5 ?_
    refine fin2 rfl ⟨_, _, _, rfl, m0, .inr ⟨_, he, rfl, rfl⟩⟩ rfl ?_
    exact q_i (StIs.fail (by simp only [applyF, hA0, p22, applyRest, hS1, Bool.true_eq_false, decide_true, decide_false, Int.reduceEq, reduceIte, if_true, if_false, Bool.false_eq_true, not_true, not_false_eq_true, bS]))
   ·have hS1 : (findP l e.part).isSome = true := (by rw [← find_idx]; simpa using p62)
    refine go 5 ?_
    refine cb rfl (fun h65 p65 => ?_) (fun h65 p65 => ?_)
    ·have hO : (otherO l e).isSome = false := (by rw [otherO_eq, ← find_idx]; simpa using p65)
     refine go 3 ?_
     refine o_val rfl (v_build (pl := [(0, 1)]) he he rfl rfl) ?_
     refine go 1 ?_
     refine o_stw _ he rfl rfl rfl rfl rfl rfl ?_
     refine go 5 ?_
     refine fin2 rfl ⟨_, _, _, rfl, m0, .inr ⟨_, he, rfl, rfl⟩⟩ rfl ?_
     exact q_i (StIs.fail (by simp only [applyF, hA0, p22, applyRest, hS1, hO, Bool.true_eq_false, decide_true, decide_false, Int.reduceEq, reduceIte, if_true, if_false, Bool.false_eq_true, not_true, not_false_eq_true, bS]))
    ·have hO : (otherO l e).isSome = true := (by rw [otherO_eq, ← find_idx]; simpa using p65)
     refine go 7 ?_
     obtain ⟨i1, hi1, ei1, hF1⟩ := (idxF_find (fun p : Part => decide (p.name = e.part)) l).resolve_left (fun h => by omega)
     have hP : partP l e = l[i1] := by rw [partP, show findP l e.part = _ from hF1]; rfl
     have hmem : partP l e ∈ l := by rw [hP]; exact List.getElem_mem hi1
     obtain ⟨b70, o70, w70, e70, c70, r70⟩ := RdA.at_ hA (i := i1) hi1
     rw [← hP] at r70
     obtain ⟨s12, rfl, hs12⟩ := r70
     refine o_v rfl (v_idx he rfl rfl e70 (i1) ei1 hi1) ?_
     refine o_v rfl (v_ldIa he rfl c70 rfl) ?_
     refine go 1 ?_
     refine o_alloc he rfl (fun g12 => ?_)
     refine go 1 ?_
     refine o_stw _ he rfl rfl rfl rfl rfl (Enc.one (α := Part) (I := I) (x := partP l e) ⟨s12, rfl, hs12⟩) ?_
     refine go 7 ?_
     obtain ⟨i2, hi2, ei2, hF2⟩ := (idxF_find (fun p : Part => decide (p.name = otherN e)) l).resolve_left (fun h => by omega)
     have hQ : otherP l e = l[i2] := by rw [otherP, otherO_eq, show findP l (otherN e) = _ from hF2]; rfl
     obtain ⟨b75, o75, w75, e75, c75, r75⟩ := RdA.at_ hA (i := i2) hi2
     rw [← hQ] at r75
     obtain ⟨s13, rfl, hs13⟩ := r75
     refine o_v rfl (v_idx he rfl rfl e75 (i2) ei2 hi2) ?_
     refine o_v rfl (v_ldIa he rfl c75 rfl) ?_
     refine go 1 ?_
     refine o_alloc he rfl (fun g13 => ?_)
     refine go 1 ?_
     refine o_stw _ he rfl rfl rfl rfl rfl (Enc.one (α := Part) (I := I) (x := otherP l e) ⟨s13, rfl, hs13⟩) ?_
     refine go 8 ?_
     refine sxb 79 rfl (fun h79 p79 => ?_) (fun h79 p79 => ?_)
     ·refine go 5 ?_
      refine c_true rfl ?_
      refine go 3 ?_
      refine o_val rfl (v_build (pl := [(0, 1)]) he he rfl rfl) ?_
      refine go 1 ?_
      refine bring2 ?_
      refine o_stw _ he rfl rfl rfl rfl rfl rfl ?_
      refine go 5 ?_
      refine fin2 rfl ⟨_, _, _, rfl, m0, .inr ⟨_, he, rfl, rfl⟩⟩ rfl ?_
      exact q_i (StIs.fail (by simp only [applyF, hA0, p22, applyRest, hS1, hO, h62, h65, h79, Bool.true_eq_false, decide_true, decide_false, Int.reduceEq, reduceIte, if_true, if_false, Bool.false_eq_true, not_true, not_false_eq_true, bS]))
     ·refine go 5 ?_
      refine cb rfl (fun h82 p82 => ?_) (fun h82 p82 => ?_)
      ·refine go 3 ?_
       refine o_val rfl (v_build (pl := [(0, 1)]) he he rfl rfl) ?_
       refine go 1 ?_
       refine bring2 ?_
       refine o_stw _ he rfl rfl rfl rfl rfl rfl ?_
       refine go 5 ?_
       refine fin2 rfl ⟨_, _, _, rfl, m0, .inr ⟨_, he, rfl, rfl⟩⟩ rfl ?_
       exact q_i (StIs.fail (by simp only [applyF, hA0, p22, applyRest, hS1, hO, h62, h65, h79, h82, Bool.true_eq_false, decide_true, decide_false, Int.reduceEq, reduceIte, if_true, if_false, Bool.false_eq_true, not_true, not_false_eq_true, bS]))
      ·refine go 8 ?_
       refine o_callE (refFind _ vc c hvc (partP l e).kind) rfl rfl (fun v88 q88 => ?_)
       obtain ⟨vs14, rfl, s14, rfl, hs14⟩ := q88
       refine go 4 ?_
       refine o_alloc he rfl (fun g14 => ?_)
       refine go 1 ?_
       refine o_stw _ he rfl rfl rfl rfl rfl (Enc.one (α := Kind) (I := I) (x := kindP c l e) ⟨s14, rfl, hs14⟩) ?_
       refine go 4 ?_
       refine c_cutx3 (Ix := (fun J p2 s2 => J)) (Lx := (fun J p2 s2 => [(4, .pointer (some ⟨g4, 0, none⟩)), (6, .pointer (some ⟨g6, 0, none⟩)), (12, .pointer (some ⟨g12, 0, none⟩))])) (Hx := (fun J p2 s2 => [.blk g12 170 (p2.cells s2), .blk g6 134 [.slice none 0 0], .blk g4 134 [.slice A l.length c0]])) (p := (fun J p2 s2 => ILe I J ∧ RdS J s2 p2.props ∧ applyF c l e = putR l p2)) ?_ ?_
       ·refine go 13 ?_
        refine cb rfl (fun h93 p93 => ?_) (fun h93 p93 => ?_)
        ·have hsl := fit_slot hE p93
         refine go 6 ?_
         refine sxb 97 rfl (fun h97 p97 => ?_) (fun h97 p97 => ?_)
         ·refine go 12 ?_
          refine c_true rfl ?_
          refine go 3 ?_
          refine o_val rfl (v_build (pl := [(0, 1)]) he he rfl rfl) ?_
          refine go 1 ?_
          refine bring3 ?_
          refine o_stw _ he rfl rfl rfl rfl rfl rfl ?_
          refine go 7 ?_
          refine fin2 rfl ⟨_, _, _, rfl, m0, .inr ⟨_, he, rfl, rfl⟩⟩ rfl ?_
          exact q_i (StIs.fail (by simp only [applyF, hA0, p22, applyRest, hS1, hO, h82, applyOp, applyFit, applyRemove, applyRun, applyNote, applyScrap, kindP, noted, p22, p62, p65, p79, p82, p93, p97, h62, h65, h79, h82, h93, h97, Bool.true_eq_false, decide_true, decide_false, Int.reduceEq, reduceIte, if_true, if_false, Bool.false_eq_true, not_true, not_false_eq_true, bS]))
         ·refine go 8 ?_
          refine o_yes rfl rfl h97 (o_callV (ref08Takes _ vc c hvc (otherP l e).kind e.slot (partP l e).kind) rfl rfl ?_)
          refine go 4 ?_
          refine cb rfl (fun h107 p107 => ?_) (fun h107 p107 => ?_)
          ·refine go 3 ?_
           refine o_val rfl (v_build (pl := [(0, 1)]) he he rfl rfl) ?_
           refine go 1 ?_
           refine bring3 ?_
           refine o_stw _ he rfl rfl rfl rfl rfl rfl ?_
           refine go 7 ?_
           refine fin2 rfl ⟨_, _, _, rfl, m0, .inr ⟨_, he, rfl, rfl⟩⟩ rfl ?_
           exact q_i (StIs.fail (by simp only [applyF, hA0, p22, applyRest, hS1, hO, h82, applyOp, applyFit, applyRemove, applyRun, applyNote, applyScrap, kindP, noted, p22, p62, p65, p79, p82, p93, p97, p107, h62, h65, h79, h82, h93, h97, h107, Bool.true_eq_false, decide_true, decide_false, Int.reduceEq, reduceIte, if_true, if_false, Bool.false_eq_true, not_true, not_false_eq_true, bS]))
          ·refine go 10 ?_
           refine cb rfl (fun h111 p111 => ?_) (fun h111 p111 => ?_)
           ·refine go 3 ?_
            refine o_val rfl (v_build (pl := [(0, 1)]) he he rfl rfl) ?_
            refine go 1 ?_
            refine bring3 ?_
            refine o_stw _ he rfl rfl rfl rfl rfl rfl ?_
            refine go 7 ?_
            refine fin2 rfl ⟨_, _, _, rfl, m0, .inr ⟨_, he, rfl, rfl⟩⟩ rfl ?_
            exact q_i (StIs.fail (by simp only [applyF, hA0, p22, applyRest, hS1, hO, h82, applyOp, applyFit, applyRemove, applyRun, applyNote, applyScrap, kindP, noted, p22, p62, p65, p79, p82, p93, p97, p107, p111, h62, h65, h79, h82, h93, h97, h107, h111, Bool.true_eq_false, decide_true, decide_false, Int.reduceEq, reduceIte, if_true, if_false, Bool.false_eq_true, not_true, not_false_eq_true, bS]))
           ·refine go 11 ?_
            refine o_callV (ref10heldS _ _ l hv0 e hsl) rfl rfl ?_
            refine go 2 ?_
            refine cb rfl (fun h118 p118 => ?_) (fun h118 p118 => ?_)
            ·refine go 3 ?_
             refine o_val rfl (v_build (pl := [(0, 1)]) he he rfl rfl) ?_
             refine go 1 ?_
             refine bring3 ?_
             refine o_stw _ he rfl rfl rfl rfl rfl rfl ?_
             refine go 7 ?_
             refine fin2 rfl ⟨_, _, _, rfl, m0, .inr ⟨_, he, rfl, rfl⟩⟩ rfl ?_
             exact q_i (StIs.fail (by simp only [applyF, hA0, p22, applyRest, hS1, hO, h82, applyOp, applyFit, applyRemove, applyRun, applyNote, applyScrap, kindP, noted, p22, p62, p65, p79, p82, p93, p97, p107, p111, p118, h62, h65, h79, h82, h93, h97, h107, h111, h118, Bool.true_eq_false, decide_true, decide_false, Int.reduceEq, reduceIte, if_true, if_false, Bool.false_eq_true, not_true, not_false_eq_true, bS]))
            ·refine go 8 ?_
             refine bring2 ?_
             refine o_st1 he rfl rfl rfl rfl ?_
             refine go 7 ?_
             refine o_st1 he rfl rfl rfl rfl ?_
             refine go 3 ?_
             refine bring1 ?_
             refine sx_drop ?_
             refine bring1 ?_
             refine sx_drop ?_
             refine bring2 ?_
             refine sx_drop ?_
             refine bring3 ?_
             refine sx_drop ?_
             exact q_cutx3 (_) ({ partP l e with into := e.into, slot := e.slot }) (_) ⟨ILe.refl _, hs12, by simp only [applyF, hA0, p22, applyRest, hS1, hO, h82, applyOp, applyFit, applyRemove, applyRun, applyNote, applyScrap, kindP, noted, overhauled, p22, p62, p65, p79, p82, p93, p97, p107, p111, p118, h62, h65, h79, h82, h93, h97, h107, h111, h118, Bool.true_eq_false, decide_true, decide_false, Int.reduceEq, reduceIte, if_true, if_false, Bool.false_eq_true, not_true, not_false_eq_true, bS]⟩ sb rfl rfl
        ·refine go 6 ?_
         refine cb rfl (fun h126 p126 => ?_) (fun h126 p126 => ?_)
         ·refine go 8 ?_
          refine cb rfl (fun h130 p130 => ?_) (fun h130 p130 => ?_)
          ·refine go 3 ?_
           refine o_val rfl (v_build (pl := [(0, 1)]) he he rfl rfl) ?_
           refine go 1 ?_
           refine bring3 ?_
           refine o_stw _ he rfl rfl rfl rfl rfl rfl ?_
           refine go 7 ?_
           refine fin2 rfl ⟨_, _, _, rfl, m0, .inr ⟨_, he, rfl, rfl⟩⟩ rfl ?_
           exact q_i (StIs.fail (by simp only [applyF, hA0, p22, applyRest, hS1, hO, h82, applyOp, applyFit, applyRemove, applyRun, applyNote, applyScrap, kindP, noted, p22, p62, p65, p79, p82, p93, p126, p130, h62, h65, h79, h82, h93, h126, h130, Bool.true_eq_false, decide_true, decide_false, Int.reduceEq, reduceIte, if_true, if_false, Bool.false_eq_true, not_true, not_false_eq_true, bS]))
          ·refine go 6 ?_
           refine bring2 ?_
           refine o_st1 he rfl rfl rfl rfl ?_
           refine go 5 ?_
           refine o_st1 he rfl rfl rfl rfl ?_
           refine go 3 ?_
           refine bring1 ?_
           refine sx_drop ?_
           refine bring1 ?_
           refine sx_drop ?_
           refine bring2 ?_
           refine sx_drop ?_
           refine bring3 ?_
           refine sx_drop ?_
           exact q_cutx3 (_) ({ partP l e with into := nil8, slot := nil8 }) (_) ⟨ILe.refl _, hs12, by simp only [applyF, hA0, p22, applyRest, hS1, hO, h82, applyOp, applyFit, applyRemove, applyRun, applyNote, applyScrap, kindP, noted, overhauled, p22, p62, p65, p79, p82, p93, p126, p130, h62, h65, h79, h82, h93, h126, h130, Bool.true_eq_false, decide_true, decide_false, Int.reduceEq, reduceIte, if_true, if_false, Bool.false_eq_true, not_true, not_false_eq_true, bS]⟩ sb rfl rfl
         ·refine go 6 ?_
          refine cb rfl (fun h134 p134 => ?_) (fun h134 p134 => ?_)
          ·refine go 7 ?_
           refine cb rfl (fun h138 p138 => ?_) (fun h138 p138 => ?_)
           ·refine go 3 ?_
            refine o_val rfl (v_build (pl := [(0, 1)]) he he rfl rfl) ?_
            refine go 1 ?_
            refine bring3 ?_
            refine o_stw _ he rfl rfl rfl rfl rfl rfl ?_
            refine go 6 ?_
            refine fin2 rfl ⟨_, _, _, rfl, m0, .inr ⟨_, he, rfl, rfl⟩⟩ rfl ?_
            exact q_i (StIs.fail (by simp only [applyF, hA0, p22, applyRest, hS1, hO, h82, applyOp, applyFit, applyRemove, applyRun, applyNote, applyScrap, kindP, noted, p22, p62, p65, p79, p82, p93, p126, p134, p138, h62, h65, h79, h82, h93, h126, h134, h138, Bool.true_eq_false, decide_true, decide_false, Int.reduceEq, reduceIte, if_true, if_false, Bool.false_eq_true, not_true, not_false_eq_true, bS]))
           ·refine go 3 ?_
            refine sx_drop ?_
            refine sx_drop ?_
            refine bring2 ?_
            refine sx_drop ?_
            refine bring3 ?_
            refine sx_drop ?_
            exact q_cutx3 (_) (partP l e) (_) ⟨ILe.refl _, hs12, by simp only [applyF, hA0, p22, applyRest, hS1, hO, h82, applyOp, applyFit, applyRemove, applyRun, applyNote, applyScrap, kindP, noted, overhauled, p22, p62, p65, p79, p82, p93, p126, p134, p138, h62, h65, h79, h82, h93, h126, h134, h138, Bool.true_eq_false, decide_true, decide_false, Int.reduceEq, reduceIte, if_true, if_false, Bool.false_eq_true, not_true, not_false_eq_true, bS]⟩ sb rfl rfl
          ·refine go 6 ?_
           refine cb rfl (fun h140 p140 => ?_) (fun h140 p140 => ?_)
           ·refine go 6 ?_
            refine o_v rfl (v_imax rfl rfl) ?_
            refine go 2 ?_
            refine bring2 ?_
            refine o_st1 he rfl rfl rfl rfl ?_
            refine go 4 ?_
            refine o_val rfl (v_build (pl := [(0, 2), (2, 2), (4, 2)]) he he rfl rfl) ?_
            refine go 2 ?_
            refine o_st _ _ he rfl rfl rfl rfl rfl rfl rfl ?_
            refine go 3 ?_
            refine bring1 ?_
            refine sx_drop ?_
            refine bring1 ?_
            refine sx_drop ?_
            refine bring2 ?_
            refine sx_drop ?_
            refine bring3 ?_
            refine sx_drop ?_
            exact q_cutx3 (_) (overhauled e (partP l e)) (_) ⟨ILe.refl _, hs12, by simp only [applyF, hA0, p22, applyRest, hS1, hO, h82, applyOp, applyFit, applyRemove, applyRun, applyNote, applyScrap, kindP, noted, overhauled, p22, p62, p65, p79, p82, p93, p126, p134, p140, h62, h65, h79, h82, h93, h126, h134, h140, Bool.true_eq_false, decide_true, decide_false, Int.reduceEq, reduceIte, if_true, if_false, Bool.false_eq_true, not_true, not_false_eq_true, bS]⟩ sb rfl rfl
           ·refine go 6 ?_
            refine cb rfl (fun h150 p150 => ?_) (fun h150 p150 => ?_)
            ·refine go 9 ?_
             refine o_call (ref10Note _ s12 (partP l e).props hs12 (by have := (validS_part hV hmem).2; omega) e.key e.value) rfl rfl (fun v158 I158 j158 q158 => ?_)
             have R158 : RdS I158 v158 (putL Prp.key (partP l e).props ⟨e.key, e.value⟩) := with_put (nm := Prp.key) (x := ⟨e.key, e.value⟩) (inc_of (validS_part hV hmem).1) ▸ q158
             obtain ⟨B158, d158, rfl, h158⟩ := R158
             refine go 2 ?_
             refine bring2 ?_
             refine o_st1 he rfl rfl rfl rfl ?_
             refine go 10 ?_
             refine cb rfl (fun h163 p163 => ?_) (fun h163 p163 => ?_)
             ·refine go 3 ?_
              refine o_val rfl (v_build (pl := [(0, 1)]) he he rfl rfl) ?_
              refine go 1 ?_
              refine bring3 ?_
              refine o_stw _ he rfl rfl rfl rfl rfl rfl ?_
              refine go 6 ?_
              refine fin2 rfl ⟨_, _, _, rfl, m0, .inr ⟨_, he, rfl, rfl⟩⟩ rfl ?_
              exact q_i (StIs.fail (by simp only [applyF, hA0, p22, applyRest, hS1, hO, h82, applyOp, applyFit, applyRemove, applyRun, applyNote, applyScrap, kindP, noted, p22, p62, p65, p79, p82, p93, p126, p134, p140, p150, p163, h62, h65, h79, h82, h93, h126, h134, h140, h150, h163, Bool.true_eq_false, decide_true, decide_false, Int.reduceEq, reduceIte, if_true, if_false, Bool.false_eq_true, not_true, not_false_eq_true, bS]))
             ·refine go 3 ?_
              refine bring1 ?_
              refine sx_drop ?_
              refine bring1 ?_
              refine sx_drop ?_
              refine bring2 ?_
              refine sx_drop ?_
              refine bring3 ?_
              refine sx_drop ?_
              exact q_cutx3 (_) (noted e (partP l e)) (_) ⟨j158, ⟨B158, d158, rfl, h158⟩, by simp only [applyF, hA0, p22, applyRest, hS1, hO, h82, applyOp, applyFit, applyRemove, applyRun, applyNote, applyScrap, kindP, noted, overhauled, p22, p62, p65, p79, p82, p93, p126, p134, p140, p150, p163, h62, h65, h79, h82, h93, h126, h134, h140, h150, h163, Bool.true_eq_false, decide_true, decide_false, Int.reduceEq, reduceIte, if_true, if_false, Bool.false_eq_true, not_true, not_false_eq_true, bS]⟩ sb rfl rfl
            ·refine go 6 ?_
             refine cb rfl (fun h165 p165 => ?_) (fun h165 p165 => ?_)
             ·refine go 7 ?_
              refine sxb 170 rfl (fun h170 p170 => ?_) (fun h170 p170 => ?_)
              ·refine go 7 ?_
               refine c_true rfl ?_
               refine go 3 ?_
               refine o_val rfl (v_build (pl := [(0, 1)]) he he rfl rfl) ?_
               refine go 1 ?_
               refine bring3 ?_
               refine o_stw _ he rfl rfl rfl rfl rfl rfl ?_
               refine go 7 ?_
               refine fin2 rfl ⟨_, _, _, rfl, m0, .inr ⟨_, he, rfl, rfl⟩⟩ rfl ?_
               exact q_i (StIs.fail (by simp only [applyF, hA0, p22, applyRest, hS1, hO, h82, applyOp, applyFit, applyRemove, applyRun, applyNote, applyScrap, kindP, noted, p22, p62, p65, p79, p82, p93, p126, p134, p140, p150, p165, p170, h62, h65, h79, h82, h93, h126, h134, h140, h150, h165, h170, Bool.true_eq_false, decide_true, decide_false, Int.reduceEq, reduceIte, if_true, if_false, Bool.false_eq_true, not_true, not_false_eq_true, bS]))
              ·refine go 4 ?_
               refine o_yes rfl rfl h170 (o_callV (ref10heldA _ _ l hv0 (partP l e).name) rfl rfl ?_)
               refine go 3 ?_
               refine cb rfl (fun h175 p175 => ?_) (fun h175 p175 => ?_)
               ·refine go 3 ?_
                refine o_val rfl (v_build (pl := [(0, 1)]) he he rfl rfl) ?_
                refine go 1 ?_
                refine bring3 ?_
                refine o_stw _ he rfl rfl rfl rfl rfl rfl ?_
                refine go 7 ?_
                refine fin2 rfl ⟨_, _, _, rfl, m0, .inr ⟨_, he, rfl, rfl⟩⟩ rfl ?_
                exact q_i (StIs.fail (by simp only [applyF, hA0, p22, applyRest, hS1, hO, h82, applyOp, applyFit, applyRemove, applyRun, applyNote, applyScrap, kindP, noted, p22, p62, p65, p79, p82, p93, p126, p134, p140, p150, p165, p170, p175, h62, h65, h79, h82, h93, h126, h134, h140, h150, h165, h170, h175, Bool.true_eq_false, decide_true, decide_false, Int.reduceEq, reduceIte, if_true, if_false, Bool.false_eq_true, not_true, not_false_eq_true, bS]))
               ·refine go 5 ?_
                refine bring2 ?_
                refine o_st1 he rfl rfl rfl rfl ?_
                refine go 3 ?_
                refine bring1 ?_
                refine sx_drop ?_
                refine bring1 ?_
                refine sx_drop ?_
                refine bring2 ?_
                refine sx_drop ?_
                refine bring3 ?_
                refine sx_drop ?_
                exact q_cutx3 (_) ({ partP l e with scrapped := true }) (_) ⟨ILe.refl _, hs12, by simp only [applyF, hA0, p22, applyRest, hS1, hO, h82, applyOp, applyFit, applyRemove, applyRun, applyNote, applyScrap, kindP, noted, overhauled, p22, p62, p65, p79, p82, p93, p126, p134, p140, p150, p165, p170, p175, h62, h65, h79, h82, h93, h126, h134, h140, h150, h165, h170, h175, Bool.true_eq_false, decide_true, decide_false, Int.reduceEq, reduceIte, if_true, if_false, Bool.false_eq_true, not_true, not_false_eq_true, bS]⟩ sb rfl rfl
             ·refine go 3 ?_
              refine sx_drop ?_
              refine sx_drop ?_
              refine bring2 ?_
              refine sx_drop ?_
              refine bring3 ?_
              refine sx_drop ?_
              exact q_cutx3 (_) (partP l e) (_) ⟨ILe.refl _, hs12, by simp only [applyF, hA0, p22, applyRest, hS1, hO, h82, applyOp, applyFit, applyRemove, applyRun, applyNote, applyScrap, kindP, noted, overhauled, p22, p62, p65, p79, p82, p93, p126, p134, p140, p150, p165, h62, h65, h79, h82, h93, h126, h134, h140, h150, h165, Bool.true_eq_false, decide_true, decide_false, Int.reduceEq, reduceIte, if_true, if_false, Bool.false_eq_true, not_true, not_false_eq_true, bS]⟩ sb rfl rfl
       ·rintro J p2 s2 ⟨hJ, ⟨B2, d2, rfl, hB2⟩, hA2⟩
        refine go 5 ?_
        refine o_call (ref10with _ _ l (hv0.le hJ) hl6 p2 B2 d2 ⟨_, rfl, B2, d2, rfl, hB2⟩) rfl rfl (fun v180 I180 j180 q180 => ?_)
        obtain ⟨w180, rfl, hw180⟩ := q180
        refine go 1 ?_
        refine bring1 ?_
        refine o_stw _ he rfl rfl rfl rfl rfl (by simp [hw180.one]) ?_
        refine go 4 ?_
        refine fin2 rfl ⟨_, _, _, rfl, m0, .inr ⟨_, he, rfl, rfl⟩⟩ rfl ?_
        rw [with_put (inc_of hsrt)] at hw180
        exact q_i (StIs.put hA2 hw180)

theorem ref10Apply (I : IMap) (vc : Value) (c : List Kind) (hvc : RdS I vc c) (hsc : SmC c) (v : Value) (l : List Part) (hv : RdS I v l) (hsf : SmF l) (e : Evt) (hse : SmE e) :
    FnI Tryz.prog 125 #[.agg #[vc], .agg #[v], .agg e.cells.toArray] I (fun u J => StIs J (applyF c l e) u) := by
 refine enter Tryz.func125 Tryz.call125 rfl Tryz.ntmps125 rfl (fun w0 => ?_)
 refine go 3 ?_
 refine o_box _ rfl rfl rfl (fun g3 => ?_)
 refine go 1 ?_
 refine o_box _ rfl rfl rfl (fun g4 => ?_)
 refine go 1 ?_
 refine o_box _ rfl rfl rfl (fun g5 => ?_)
 refine go 1 ?_
 refine o_alloc he rfl (fun g6 => ?_)
 refine go 5 ?_
 refine c_cut (I' := I) (L' := [(3, .pointer (some ⟨g3, 0, none⟩)), (4, .pointer (some ⟨g4, 0, none⟩)), (5, .pointer (some ⟨g5, 0, none⟩)), (6, .pointer (some ⟨g6, 0, none⟩)), (16, .bool (!validS c l || !validE e))]) (H' := [.blk g6 134 [.slice none 0 0], .blk g5 56 e.cells, .blk g4 134 [v], .blk g3 24 [vc]]) ?_ ?_
 ·refine go 4 ?_
  refine o_callV (ref10Valid _ vc c hvc hsc _ l hv hsf) rfl rfl ?_
  refine go 2 ?_
  refine sxb 12 rfl (fun h12 p12 => ?_) (fun h12 p12 => ?_)
  ·refine go 6 ?_
   exact q_cut ⟨rfl, rfl, rfl, rfl, (congrArg (fun b => some (Value.bool b)) (by simp only [h12, bS])), trivial⟩ rfl rfl
  ·refine go 2 ?_
   refine o_yes rfl rfl h12 (o_callV (ref09Valid _ e hse) rfl rfl ?_)
   refine go 4 ?_
   exact q_cut ⟨rfl, rfl, rfl, rfl, (congrArg (fun b => some (Value.bool b)) (by simp only [h12, bS])), trivial⟩ rfl rfl
 ·refine cb rfl (fun h16 p16 => ?_) (fun h16 p16 => ?_)
  ·refine go 3 ?_
   refine o_val rfl (v_build (pl := [(0, 1)]) he he rfl rfl) ?_
   refine go 1 ?_
   refine o_stw _ he rfl rfl rfl rfl rfl rfl ?_
   refine go 5 ?_
   refine fin2 rfl ⟨_, _, _, rfl, m0, .inr ⟨_, he, rfl, rfl⟩⟩ rfl ?_
   exact q_i (StIs.fail (by simp only [applyF, h16, if_true]))
  ·have hVE : validS c l = true ∧ validE e = true := by revert h16; simp
   refine go 8 ?_
   refine o_call (ref10Step _ vc c hvc hsc _ l hv hsf e hse hVE.1 hVE.2) rfl rfl (fun v21 I21 j21 q21 => ?_)
   obtain ⟨w21, rfl, hw21⟩ := q21
   refine go 3 ?_
   refine o_stw _ he rfl rfl rfl rfl rfl (by simp [hw21.one]) ?_
   refine go 4 ?_
   refine fin2 rfl ⟨_, _, _, rfl, m0, .inr ⟨_, he, rfl, rfl⟩⟩ rfl ?_
   exact q_i ⟨w21, rfl, hw21⟩

theorem ref11Sort (I : IMap) (v : Value) (l : List Evt) (hv : RdS I v l) (hl : l.length ≤ 1000000) :
    FnI Tryz.prog 124 #[v] I (fun u J => RdS J u (sortF l)) := by
 obtain ⟨A, c0, rfl, hA, hc, hm⟩ := hv
 refine enter Tryz.func124 Tryz.call124 rfl Tryz.ntmps124 rfl (fun w0 => ?_)
 refine go 17 ?_
 refine c_loop3 ((0 : Nat)) (_) (I) (fun i v3 J => J)
  (fun i v3 J => [(0, .slice A l.length c0), (3, v3), (4, .int .i64 ((i : Nat) : Int))])
  (fun i v3 J => [])
  (fun i v3 J => i ≤ l.length ∧ ILe I J ∧ RdS J v3 (sortF (l.take i)))
  (fun i v3 J => l.length - i) ⟨Nat.zero_le _, ILe.refl _, RdS.nil'⟩ rfl sb rfl ?_
 intro i v3 J ⟨hi, hJ, hv3⟩
 have hA := hA.le hJ
 obtain ⟨A3, c3, rfl, hA3, hc3, hm3⟩ := id hv3
 have hsl : (sortF (l.take i)).length = i := by rw [sortF_len, List.length_take]; omega
 refine go 9 ?_
 refine cb rfl (fun h10 p10 => ?_) (fun h10 p10 => ?_)
 ·have hlt : i < l.length := by omega
  refine go 12 ?_
  refine c_cutx (α := Nat) (Ix := (fun k => J)) (Lx := (fun k => [(0, .slice A l.length c0), (3, .slice A3 (sortF (l.take i)).length c3), (4, .int .i64 ((i : Nat) : Int)), (5, .int .i64 ((k : Nat) : Int))])) (Hx := (fun k => [])) (p := (fun k => k ≤ i ∧ (∀ j y, k ≤ j → (sortF (l.take i))[j]? = some y → Day.day y > Day.day l[i]) ∧ (k = 0 ∨ ∃ y, (sortF (l.take i))[k - 1]? = some y ∧ Day.day y ≤ Day.day l[i]))) ?_ ?_
  ·refine go 1 ?_
   refine c_loop (α := Nat) i (fun k => J)
    (fun k => [(0, .slice A l.length c0), (3, .slice A3 (sortF (l.take i)).length c3), (4, .int .i64 ((i : Nat) : Int)), (5, .int .i64 ((k : Nat) : Int))])
    (fun k => [])
    (fun k => k ≤ i ∧ ∀ j y, k ≤ j → (sortF (l.take i))[j]? = some y → Day.day y > Day.day l[i])
    (fun k => k) ⟨Nat.le_refl _, fun j y h1 h2 => by have := (List.getElem?_eq_some_iff.1 h2).1; omega⟩ rfl ⟨rfl, rfl, rfl, congrArg (fun z : Nat => some (Value.int .i64 (z : Int))) hsl, trivial⟩ rfl ?_
   intro k ⟨hki, hk1⟩
   refine go 2 ?_
   refine d_startH T.mixed ?_
   refine d_tv 0 rfl rfl (by kernel_rfl) rfl .slnil rfl (v_move rfl) ?_
   refine d_tv 1 rfl rfl (by kernel_rfl) rfl .slnil rfl (v_gtr rfl rfl) ?_
   refine d_tv 2 rfl rfl (by kernel_rfl) rfl .slnil rfl (v_move rfl) ?_
   refine sxb 17 rfl (fun h17 p17 => ?_) (fun h17 p17 => ?_)
   ·refine d_t 3 rfl rfl (by kernel_rfl) rfl (fun _ m => m.keeps .slnil) (y_yes rfl rfl h17 (v_move rfl)) ?_
    refine d_t 4 rfl rfl (by kernel_rfl) rfl (fun _ m => m.keeps .slnil) (y_yes rfl rfl h17 (v_move rfl)) ?_
    refine d_t 5 rfl rfl (by kernel_rfl) rfl (fun _ m => m.keeps .slnil) (y_yes rfl rfl h17 (OV.cast (u := .int .i64 ((k - 1 : Nat) : Int)) (v_sub rfl rfl ⟨by omega, by omega⟩) (congrArg (Value.int .i64) (by omega)))) ?_
    obtain ⟨b21, o21, w21, e21, c21, r21⟩ := RdA.at_ hA3 (i := k - 1) (by omega)
    obtain rfl := r21
    refine d_t 6 rfl rfl (by kernel_rfl) rfl (fun _ m => m.keeps .slnil) (y_yes rfl rfl h17 (v_idx he rfl rfl e21 (k - 1) (by omega) (by omega))) ?_
    refine d_t 7 rfl rfl (by kernel_rfl) rfl (fun _ m => m.keeps .slnil) (y_yes rfl rfl h17 (v_fieldAddr he rfl)) ?_
    refine d_t 8 rfl rfl (by kernel_rfl) rfl (fun _ m => m.keeps .slnil) (y_yes rfl rfl h17 (v_ldI he rfl (c21 1 _ rfl))) ?_
    refine d_t 9 rfl rfl (by kernel_rfl) rfl (fun _ m => m.keeps .slnil) (y_yes rfl rfl h17 (v_move rfl)) ?_
    refine d_t 10 rfl rfl (by kernel_rfl) rfl (fun _ m => m.keeps .slnil) (y_yes rfl rfl h17 (v_move rfl)) ?_
    obtain ⟨b26, o26, w26, e26, c26, r26⟩ := RdA.at_ hA (i := i) hlt
    obtain rfl := r26
    refine d_t 11 rfl rfl (by kernel_rfl) rfl (fun _ m => m.keeps .slnil) (y_yes rfl rfl h17 (v_idx he rfl rfl e26 (i) (by omega) hlt)) ?_
    refine d_t 12 rfl rfl (by kernel_rfl) rfl (fun _ m => m.keeps .slnil) (y_yes rfl rfl h17 (v_fieldAddr he rfl)) ?_
    refine d_t 13 rfl rfl (by kernel_rfl) rfl (fun _ m => m.keeps .slnil) (y_yes rfl rfl h17 (v_ldI he rfl (c26 1 _ rfl))) ?_
    refine d_t 14 rfl rfl (by kernel_rfl) rfl (fun _ m => m.keeps .slnil) (y_yes rfl rfl h17 (v_gtr rfl rfl)) ?_
    refine d_tv 15 rfl rfl (by kernel_rfl) rfl .slnil rfl (v_and_t h17 rfl rfl) ?_
    refine d_done (by kernel_rfl) ?_
    refine go 1 ?_
    refine cb rfl (fun h30 p30 => ?_) (fun h30 p30 => ?_)
    ·refine go 10 ?_
     exact q_next (k - 1) ⟨by omega, fun j y h1 h2 => by
       rcases Nat.lt_or_ge j k with h | h
       · obtain rfl : j = k - 1 := by omega
         rw [List.getElem?_eq_getElem (by omega)] at h2
         cases h2
         exact p30
       · exact hk1 j y h h2⟩ (by omega) rfl ⟨rfl, rfl, rfl, congrArg (fun z : Int => some (Value.int .i64 z)) (by omega), trivial⟩ rfl
    ·refine go 5 ?_
     exact q_cutx k ⟨hki, hk1, .inr ⟨_, List.getElem?_eq_getElem (by omega), Int.not_lt.1 p30⟩⟩ sb rfl rfl
   ·refine d_t 3 rfl rfl (by kernel_rfl) rfl (fun _ m => m.keeps .slnil) (y_no rfl rfl h17) ?_
    refine d_t 4 rfl rfl (by kernel_rfl) rfl (fun _ m => m.keeps .slnil) (y_no rfl rfl h17) ?_
    refine d_t 5 rfl rfl (by kernel_rfl) rfl (fun _ m => m.keeps .slnil) (y_no rfl rfl h17) ?_
    refine d_t 6 rfl rfl (by kernel_rfl) rfl (fun _ m => m.keeps .slnil) (y_no rfl rfl h17) ?_
    refine d_t 7 rfl rfl (by kernel_rfl) rfl (fun _ m => m.keeps .slnil) (y_no rfl rfl h17) ?_
    refine d_t 8 rfl rfl (by kernel_rfl) rfl (fun _ m => m.keeps .slnil) (y_no rfl rfl h17) ?_
    refine d_t 9 rfl rfl (by kernel_rfl) rfl (fun _ m => m.keeps .slnil) (y_no rfl rfl h17) ?_
    refine d_t 10 rfl rfl (by kernel_rfl) rfl (fun _ m => m.keeps .slnil) (y_no rfl rfl h17) ?_
    refine d_t 11 rfl rfl (by kernel_rfl) rfl (fun _ m => m.keeps .slnil) (y_no rfl rfl h17) ?_
    refine d_t 12 rfl rfl (by kernel_rfl) rfl (fun _ m => m.keeps .slnil) (y_no rfl rfl h17) ?_
    refine d_t 13 rfl rfl (by kernel_rfl) rfl (fun _ m => m.keeps .slnil) (y_no rfl rfl h17) ?_
    refine d_t 14 rfl rfl (by kernel_rfl) rfl (fun _ m => m.keeps .slnil) (y_no rfl rfl h17) ?_
    refine d_tv 15 rfl rfl (by kernel_rfl) rfl .slnil rfl (v_and_f h17 rfl) ?_
    refine d_done (by kernel_rfl) ?_
    refine go 1 ?_
    refine c_false rfl ?_
    refine go 5 ?_
    exact q_cutx k ⟨hki, hk1, .inl (by omega)⟩ sb rfl rfl
  ·intro k ⟨hki, hk1, hk2⟩
   refine go 1 ?_
   refine sx_knowI (fun hE8 hf8 => ?_)
   refine d_startH T.mixed ?_
   refine d_tv 0 rfl rfl (by kernel_rfl) rfl .slnil rfl (v_move rfl) ?_
   refine d_tv 1 rfl rfl (by kernel_rfl) rfl .slnil rfl (v_move rfl) ?_
   obtain ⟨b35, o35, w35, e35, c35, r35⟩ := RdA.at_ hA (i := i) hlt
   obtain rfl := r35
   refine d_tv 2 rfl rfl (by kernel_rfl) rfl .slnil rfl (v_idx he rfl rfl e35 (i) (by omega) hlt) ?_
   refine d_tv 3 rfl rfl (by kernel_rfl) rfl .slnil rfl (v_ldIa he rfl c35 rfl) ?_
   refine d_tv 5 rfl rfl (by kernel_rfl) rfl .slnil rfl (v_move rfl) ?_
   refine d_tv 6 rfl rfl (by kernel_rfl) rfl .slnil rfl (v_move rfl) ?_
   refine d_tv 7 rfl rfl (by kernel_rfl) rfl .slnil rfl (v_slice_lo he rfl rfl k rfl (by omega)) ?_
   refine d_one 4 (by kernel_rfl) rfl ?_
   refine o_buildSlice he he rfl rfl rfl rfl rfl rfl rfl (fun v37 => ?_)
   refine d_on (fun _ m => m.keeps (.cons _ .slnil)) ?_
   refine d_one 8 (by kernel_rfl) rfl ?_
   refine o_appendR ((hv3.drop k (by omega))) rfl he he rfl rfl rfl rfl (by simp; omega) (by simp; omega) rfl (fun v41 x41 f41 => ?_)
   refine sx_pubrow (l := l[i] :: (sortF (l.take i)).drop k) rfl (by simp; omega) (.cons rfl f41) (fun I41 j41 R41 => ?_)
   have hA3 := hA3.le j41
   have hv3 := hv3.le j41
   refine d_on (fun _ m => m.keepsI .slnil (j41) hE8 hf8) ?_
   refine d_t 9 rfl rfl (by kernel_rfl) rfl (fun _ m => m.keepsI .slnil (j41) hE8 hf8) (y_v rfl (v_assign rfl)) ?_
   refine d_done (by kernel_rfl) ?_
   refine go 3 ?_
   refine o_buildSlice he he rfl rfl rfl rfl rfl rfl rfl (fun v42 => ?_)
   refine go 2 ?_
   refine o_v rfl (v_slice_hi he rfl rfl k rfl (by omega)) ?_
   refine go 1 ?_
   refine o_appendR ((hv3.take k (by omega))) rfl he he rfl rfl rfl rfl (by simp; omega) (by simp; omega) rfl (fun v46 x46 f46 => ?_)
   refine go 2 ?_
   refine o_appendR (R41) rfl he he rfl rfl rfl rfl (by simp; omega) (by simp; omega) rfl (fun v48 x48 f48 => ?_)
   refine sx_pubrow (l := (sortF (l.take i)).take k ++ l[i] :: (sortF (l.take i)).drop k) rfl (by simp <;> omega) (((Flat.nil.append f46).append f48)) (fun I48 j48 R48 => ?_)
   refine go 10 ?_
   exact q_next3 (i + 1) (_) (_) ⟨by omega, hJ.trans (j41.trans j48), by rw [← take_succ_of hlt, ← ins_right (k := k) (by omega) hk1 (by rcases hk2 with h | h; exact .inl h; exact .inr h)]; simpa using R48⟩ (by omega) rfl sb rfl
 ·refine go 12 ?_
  refine fin1 rfl rfl ?_
  have e : i = l.length := (by omega)
  subst e
  exact q_i (by have h := hv3; rwa [List.take_length] at h ⊢)

theorem ref11Run (I : IMap) (vc : Value) (c : List Kind) (hvc : RdS I vc c) (hsc : SmC c) (v : Value) (l : List Evt) (hv : RdS I v l) (hl : l.length ≤ 1000000) (hse : ∀ e ∈ l, SmE e) :
    FnI Tryz.prog 107 #[.agg #[vc], v] I (fun u J => ∃ w, u = .tuple #[.agg #[w], .int .i64 (runF c l).2.1, .int .i64 (runF c l).2.2] ∧ RdS J w (runF c l).1) := by
 refine enter Tryz.func107 Tryz.call107 rfl Tryz.ntmps107 rfl (fun w0 => ?_)
 refine go 3 ?_
 refine o_box _ rfl rfl rfl (fun g2 => ?_)
 refine go 1 ?_
 refine o_alloc he rfl (fun g4 => ?_)
 refine go 9 ?_
 refine o_callV (refValid _ vc c hvc hsc) rfl rfl ?_
 refine go 3 ?_
 refine cb rfl (fun h14 p14 => ?_) (fun h14 p14 => ?_)
 ·refine go 3 ?_
  refine o_val rfl (v_build (pl := [(0, 1)]) he he rfl rfl) ?_
  refine go 1 ?_
  refine o_stw _ he rfl rfl rfl rfl rfl rfl ?_
  refine go 6 ?_
  refine fin3 rfl ⟨_, _, _, rfl, m0, .inr ⟨_, he, rfl, rfl⟩⟩ rfl rfl ?_
  have hr : runF c l = ([], -1, 1) := by unfold runF; rw [if_pos (by rw [valid_same]; simpa using h14)]
  exact q_i ⟨_, by rw [hr], by rw [hr]; exact RdS.nil'⟩
 ·have hC : validC c = true := by rw [valid_same]; simpa using h14
  refine go 6 ?_
  refine o_call (ref11Sort _ v l hv hl) rfl rfl (fun v17 I17 j17 q17 => ?_)
  have hvc := hvc.le j17
  have q17s := q17
  obtain ⟨A17, c17, rfl, hA17, _, _⟩ := q17
  have hsl := sortF_len l
  refine go 6 ?_
  refine o_alloc he rfl (fun g8 => ?_)
  refine go 9 ?_
  refine c_loop4 (0) ([]) (.slice none 0 0) (I17) (fun i st v8 J => J)
   (fun i st v8 J => [(2, .pointer (some ⟨g2, 0, none⟩)), (4, .pointer (some ⟨g4, 0, none⟩)), (7, .slice A17 (sortF l).length c17), (8, .pointer (some ⟨g8, 0, none⟩)), (9, .int .i64 ((i : Nat) : Int))])
   (fun i st v8 J => [.blk g8 134 [v8], .blk g4 134 [.slice none 0 0], .blk g2 24 [vc]])
   (fun i st v8 J => i ≤ (sortF l).length ∧ ILe I17 J ∧ RdS J v8 st ∧ SmF st ∧ runGo c [] 0 (sortF l) = runGo c st (i : Nat) ((sortF l).drop i))
   (fun i st v8 J => (sortF l).length - i) ⟨Nat.zero_le _, ILe.refl _, RdS.nil', SmF.nil, rfl⟩ rfl sb rfl ?_
  intro i st v8 J ⟨hi, hJ, hv8, hsf, hgo⟩
  have hvc := hvc.le hJ
  have hA17 := hA17.le hJ
  refine go 9 ?_
  refine cb rfl (fun h21 p21 => ?_) (fun h21 p21 => ?_)
  ·have hlt : i < (sortF l).length := by omega
   refine go 5 ?_
   refine sx_knowI (fun hE8 hf8 => ?_)
   refine d_startH T.mixed ?_
   refine d_tv 0 rfl rfl (by kernel_rfl) rfl (.refl _) rfl (v_ldw m2 he rfl rfl) ?_
   refine d_tv 1 rfl rfl (by kernel_rfl) rfl (.refl _) rfl (v_ldw m0 he rfl rfl) ?_
   refine d_tv 2 rfl rfl (by kernel_rfl) rfl (.refl _) rfl (v_move rfl) ?_
   refine d_tv 3 rfl rfl (by kernel_rfl) rfl (.refl _) rfl (v_move rfl) ?_
   obtain ⟨b29, o29, w29, e29, c29, r29⟩ := RdA.at_ hA17 (i := i) hlt
   obtain rfl := r29
   refine d_tv 4 rfl rfl (by kernel_rfl) rfl (.refl _) rfl (v_idx he rfl rfl e29 (i) (by omega) hlt) ?_
   refine d_tv 5 rfl rfl (by kernel_rfl) rfl (.refl _) rfl (v_ldIa he rfl c29 rfl) ?_
   refine d_two 6 10 (by kernel_rfl) rfl rfl ?_ ?_
   ·refine o_call (ref10Apply _ vc c hvc hsc _ st hv8 hsf (sortF l)[i] (hse _ (sortF_mem.1 (List.getElem_mem hlt)))) rfl rfl (fun v31 I31 j31 q31 => ?_)
    obtain ⟨w31, rfl, hw31⟩ := q31
    refine d_on (fun _ m => m.keepsI (.refl _) (j31) hE8 hf8) ?_
    refine d_t 7 rfl rfl (by kernel_rfl) rfl (fun _ m => m.keepsI (.refl _) (j31) hE8 hf8) (y_v rfl (v_move rfl)) ?_
    refine d_t 8 rfl rfl (by kernel_rfl) rfl (fun _ m => m.keepsI (.refl _) (j31) hE8 hf8) (y_v rfl (v_extract rfl rfl)) ?_
    refine d_t 9 rfl rfl (by kernel_rfl) rfl (fun _ m => m.keepsI (.refl _) (j31) hE8 hf8) (y_v rfl (v_extract rfl rfl)) ?_
    refine d_one 10 (by kernel_rfl) rfl ?_
    refine o_alloc he rfl (fun g10 => ?_)
    refine d_on (fun _ m => m.keepsI (.cons _ (.refl _)) (j31) hE8 hf8) ?_
    refine d_one 11 (by kernel_rfl) rfl ?_
    refine o_stw _ he rfl rfl rfl rfl rfl (by simp [hw31.one]) ?_
    refine d_on (fun _ m => m.keepsI (.cons _ (.refl _)) (j31) hE8 hf8) ?_
    refine d_t 12 rfl rfl (by kernel_rfl) rfl (fun _ m => m.keepsI (.cons _ (.refl _)) (j31) hE8 hf8) (y_v rfl (v_assign rfl)) ?_
    refine d_done (by kernel_rfl) ?_
    refine go 8 ?_
    refine cb rfl (fun h35 p35 => ?_) (fun h35 p35 => ?_)
    ·have hok : ¬ (applyF c st (sortF l)[i]).2 = 0 := by simpa using p35
     refine go 3 ?_
     refine o_val rfl (v_build (pl := [(0, 1)]) he he rfl rfl) ?_
     refine go 3 ?_
     refine bring2 ?_
     refine o_stw _ he rfl rfl rfl rfl rfl rfl ?_
     refine go 11 ?_
     refine fin3 rfl ⟨_, _, _, rfl, m0, .inr ⟨_, he, rfl, rfl⟩⟩ rfl rfl ?_
     have hr : runF c l = ([], ((i : Nat) : Int), (applyF c st (sortF l)[i]).2) := by unfold runF; rw [if_neg (by simp [hC]), hgo, run_step hlt, if_neg hok]
     exact q_i ⟨_, by rw [hr]; rfl, by rw [hr]; exact RdS.nil'⟩
    ·have hok : (applyF c st (sortF l)[i]).2 = 0 := by simpa using p35
     refine go 5 ?_
     refine bring1 ?_
     refine o_stw _ he rfl rfl rfl rfl rfl (by simp [hw31.one]) ?_
     refine go 9 ?_
     refine bring1 ?_
     refine sx_drop ?_
     exact q_next4 (i + 1) (_) (_) (_) ⟨by omega, hJ.trans j31, hw31, applyF_sm hsf (hse _ (sortF_mem.1 (List.getElem_mem hlt))), by rw [hgo, run_step hlt, if_pos hok]; rfl⟩ (by omega) rfl sb rfl
   ·refine o_alloc he rfl (fun g10 => ?_)
    refine d_on (fun _ m => m.keeps (.cons _ (.refl _))) ?_
    refine d_one 6 (by kernel_rfl) rfl ?_
    refine o_call (ref10Apply _ vc c hvc hsc _ st hv8 hsf (sortF l)[i] (hse _ (sortF_mem.1 (List.getElem_mem hlt)))) rfl rfl (fun v31 I31 j31 q31 => ?_)
    obtain ⟨w31, rfl, hw31⟩ := q31
    refine d_on (fun _ m => m.keepsI (.cons _ (.refl _)) (j31) hE8 hf8) ?_
    refine d_t 7 rfl rfl (by kernel_rfl) rfl (fun _ m => m.keepsI (.cons _ (.refl _)) (j31) hE8 hf8) (y_v rfl (v_move rfl)) ?_
    refine d_t 8 rfl rfl (by kernel_rfl) rfl (fun _ m => m.keepsI (.cons _ (.refl _)) (j31) hE8 hf8) (y_v rfl (v_extract rfl rfl)) ?_
    refine d_t 9 rfl rfl (by kernel_rfl) rfl (fun _ m => m.keepsI (.cons _ (.refl _)) (j31) hE8 hf8) (y_v rfl (v_extract rfl rfl)) ?_
    refine d_one 11 (by kernel_rfl) rfl ?_
    refine o_stw _ he rfl rfl rfl rfl rfl (by simp [hw31.one]) ?_
    refine d_on (fun _ m => m.keepsI (.cons _ (.refl _)) (j31) hE8 hf8) ?_
    refine d_t 12 rfl rfl (by kernel_rfl) rfl (fun _ m => m.keepsI (.cons _ (.refl _)) (j31) hE8 hf8) (y_v rfl (v_assign rfl)) ?_
    refine d_done (by kernel_rfl) ?_
    refine go 8 ?_
    refine cb rfl (fun h35 p35 => ?_) (fun h35 p35 => ?_)
    ·have hok : ¬ (applyF c st (sortF l)[i]).2 = 0 := by simpa using p35
     refine go 3 ?_
     refine o_val rfl (v_build (pl := [(0, 1)]) he he rfl rfl) ?_
     refine go 3 ?_
     refine bring2 ?_
     refine o_stw _ he rfl rfl rfl rfl rfl rfl ?_
     refine go 11 ?_
     refine fin3 rfl ⟨_, _, _, rfl, m0, .inr ⟨_, he, rfl, rfl⟩⟩ rfl rfl ?_
     have hr : runF c l = ([], ((i : Nat) : Int), (applyF c st (sortF l)[i]).2) := by unfold runF; rw [if_neg (by simp [hC]), hgo, run_step hlt, if_neg hok]
     exact q_i ⟨_, by rw [hr]; rfl, by rw [hr]; exact RdS.nil'⟩
    ·have hok : (applyF c st (sortF l)[i]).2 = 0 := by simpa using p35
     refine go 5 ?_
     refine bring1 ?_
     refine o_stw _ he rfl rfl rfl rfl rfl (by simp [hw31.one]) ?_
     refine go 9 ?_
     refine bring1 ?_
     refine sx_drop ?_
     exact q_next4 (i + 1) (_) (_) (_) ⟨by omega, hJ.trans j31, hw31, applyF_sm hsf (hse _ (sortF_mem.1 (List.getElem_mem hlt))), by rw [hgo, run_step hlt, if_pos hok]; rfl⟩ (by omega) rfl sb rfl
  ·refine go 9 ?_
   refine bring1 ?_
   refine o_stw _ he rfl rfl rfl rfl rfl (by simp [hv8.one]) ?_
   refine go 5 ?_
   refine fin3 rfl ⟨_, _, _, rfl, m0, .inr ⟨_, he, rfl, rfl⟩⟩ rfl rfl ?_
   have hr : runF c l = (st, -1, 0) := by unfold runF; rw [if_neg (by simp [hC]), hgo, List.drop_eq_nil_of_le (by omega)]; rfl
   exact q_i ⟨_, by rw [hr], by rw [hr]; exact hv8⟩

end Go.Proofs.YtoadjlmbdliceaaGreat

/- Walks, printed by a program out of the code of the functions: each theorem is a contract of one function. -/
namespace Go.Proofs.YtoadjlmbdliceaaGreat
open Go Go.Sx
set_option linter.all false
set_option maxRecDepth 20000
set_option maxHeartbeats 4000000
instance T.elt_25 : Has (eltK Tryz.prog 25) (47, 2) := ⟨by kernel_rfl⟩
instance T.elt_28 : Has (eltK Tryz.prog 28) (3, 1) := ⟨by kernel_rfl⟩
instance T.fld_47_0 : Has (fldK Tryz.prog 47 0) (0, false, 1) := ⟨by kernel_rfl⟩
instance T.fld_47_1 : Has (fldK Tryz.prog 47 1) (1, false, 1) := ⟨by kernel_rfl⟩
instance T.ty_25 : Has (tyK Tryz.prog 25) (false, 1) := ⟨by kernel_rfl⟩
instance T.ty_28 : Has (tyK Tryz.prog 28) (false, 1) := ⟨by kernel_rfl⟩
instance T.ty_45 : Has (tyK Tryz.prog 45) (false, 1) := ⟨by kernel_rfl⟩
instance T.ty_47 : Has (tyK Tryz.prog 47) (true, 2) := ⟨by kernel_rfl⟩
instance T.und_25 : Has (Tryz.prog.underlying 25) (.slice 47) := ⟨by kernel_rfl⟩
instance T.und_28 : Has (Tryz.prog.underlying 28) (.slice 3) := ⟨by kernel_rfl⟩
instance T.und_78 : Has (Tryz.prog.underlying 78) (.map 56 4) := ⟨by kernel_rfl⟩
instance T.zero_47 : Has (zeroK Tryz.prog 47) [.slice none 0 0, .bool false] := ⟨by kernel_rfl⟩
theorem keyEvt : KeyOK Tryz.prog 56 encE := key_struct (cells := Evt.cells) (by kernel_rfl) (fun p q => eqS_Evt p q) (fun p => by kernel_rfl) (fun p => by simp [Evt.cells, bits_str, bits_int])

theorem repValid (I : IMap) (r : Rep) (S : Option Addr) (d : Nat) (hr : RdS I (.slice S r.options.length d) r.options) (hs : ∀ e ∈ r.options, SmE e) :
    FnV Tryz.prog 28 #[.agg (r.cells (.slice S r.options.length d)).toArray] I (.bool (validRep r)) := by
 have hSA : RdA I S r.options := (by obtain ⟨_, _, e, h, _⟩ := hr; cases e; exact h)
 have hl4 : d ≤ 9223372036854775807 := (by obtain ⟨_, _, e, h, h1, h2⟩ := hr; cases e; exact h2)
 have hl5 := hr.lenLe
 refine enter Tryz.func28 Tryz.call28 rfl Tryz.ntmps28 rfl (fun w0 => ?_)
 refine go 3 ?_
 refine o_box _ rfl rfl rfl (fun g1 => ?_)
 refine go 5 ?_
 refine c_cut (I' := I) (L' := [(1, .pointer (some ⟨g1, 0, none⟩)), (15, .bool (decide (((r.options.length : Nat) : Int) = 0) || decide ((4 : Int) < (r.options.length : Nat))))]) (H' := [.blk g1 47 (r.cells (.slice S r.options.length d))]) ?_ ?_
 ·refine go 6 ?_
  refine sxb 10 rfl (fun h10 p10 => ?_) (fun h10 p10 => ?_)
  ·refine go 7 ?_
   exact q_cut ⟨rfl, (congrArg (fun b => some (Value.bool b)) (by simp only [h10, bS])), trivial⟩ rfl rfl
  ·refine go 7 ?_
   exact q_cut ⟨rfl, (congrArg (fun b => some (Value.bool b)) (by simp only [h10, bS])), trivial⟩ rfl rfl
 ·refine cb rfl (fun h15 p15 => ?_) (fun h15 p15 => ?_)
  ·refine go 7 ?_
   refine fin1 rfl rfl ?_
   exact q_v (congrArg Value.bool (by simp only [validRep, h15]; rfl))
  ·refine go 5 ?_
   refine o_map0 (encE) he rfl (fun r16 => ?_)
   refine go 13 ?_
   refine c_loop (α := Nat) 0 (fun i => I)
    (fun i => [(1, .pointer (some ⟨g1, 0, none⟩)), (3, .map (some r16)), (18, .slice S r.options.length d), (19, .int .i64 ((r.options.length : Nat) : Int)), (20, .int .i64 ((i : Nat) : Int))])
    (fun i => [.mp r16 (emap encE (kvsOf _root_.id (fun _ => Value.bool true) (r.options.take i))), .blk g1 47 (r.cells (.slice S r.options.length d))])
    (fun i => i ≤ r.options.length ∧ allP optFine r.options i = true)
    (fun i => r.options.length - i) ⟨Nat.zero_le _, rfl⟩ rfl sb rfl ?_
   intro i ⟨hi, hn⟩
   refine go 6 ?_
   refine cb rfl (fun h21 p21 => ?_) (fun h21 p21 => ?_)
   ·have hlt : i < r.options.length := by omega
    refine go 6 ?_
    obtain ⟨b22, o22, w22, e22, c22, r22⟩ := RdA.at_ hSA (i := i) hlt
    obtain rfl := r22
    refine o_v rfl (v_idx he rfl rfl e22 (i) (by omega) hlt) ?_
    refine o_v rfl (v_ldIa he rfl c22 rfl) ?_
    refine go 1 ?_
    refine o_alloc he rfl (fun g5 => ?_)
    refine go 1 ?_
    refine o_stw _ he rfl rfl rfl rfl rfl rfl ?_
    refine go 4 ?_
    refine c_cut (I' := I) (L' := [(1, .pointer (some ⟨g1, 0, none⟩)), (3, .map (some r16)), (18, .slice S r.options.length d), (19, .int .i64 ((r.options.length : Nat) : Int)), (20, .int .i64 ((i : Nat) : Int)), (5, .pointer (some ⟨g5, 0, none⟩)), (31, .bool (hit _root_.id (r.options.take i) r.options[i] || !validE r.options[i]))]) (H' := [.blk g5 56 r.options[i].cells, .mp r16 (emap encE (kvsOf _root_.id (fun _ => Value.bool true) (r.options.take i))), .blk g1 47 (r.cells (.slice S r.options.length d))]) ?_ ?_
    ·refine go 3 ?_
     refine o_v rfl (v_get m1 (keyEvt) he he (r.options[i]) rfl rfl (kvs_hit1 _root_.id _ _)) ?_
     refine go 1 ?_
     refine sxb 27 rfl (fun h27 p27 => ?_) (fun h27 p27 => ?_)
     ·refine go 6 ?_
      exact q_cut ⟨rfl, rfl, rfl, rfl, rfl, rfl, (congrArg (fun b => some (Value.bool b)) (by simp only [h21, h27, bS])), trivial⟩ rfl rfl
     ·refine go 2 ?_
      refine o_yes rfl rfl h27 (o_callV (evValid _ r.options[i] (hs _ (List.getElem_mem hlt))) rfl rfl ?_)
      refine go 4 ?_
      exact q_cut ⟨rfl, rfl, rfl, rfl, rfl, rfl, (congrArg (fun b => some (Value.bool b)) (by simp only [h21, h27, bS])), trivial⟩ rfl rfl
    ·refine cb rfl (fun h31 p31 => ?_) (fun h31 p31 => ?_)
     ·refine go 12 ?_
      refine fin1 rfl rfl ?_
      exact q_v (congrArg Value.bool (by simp only [validRep, h15, allP_not hlt (show optFine (r.options.take i) r.options[i] = false from (congrArg not h31).trans rfl), bS]))
     ·refine go 6 ?_
      have h31n : hit _root_.id (r.options.take i) r.options[i] = false := by revert h31; cases hit _root_.id (r.options.take i) r.options[i] <;> simp
      refine bring1 ?_
      refine o_mapPut (kvsOf _root_.id (fun _ => Value.bool true) (r.options.take (i + 1))) (keyEvt) he (r.options[i]) rfl rfl rfl ((kvs_put _root_.id (fun _ => Value.bool true) (r.options.take i) r.options[i] (hit_none h31n)).trans (by rw [take_succ_of hlt])) ?_
      refine go 8 ?_
      refine bring1 ?_
      refine sx_drop ?_
      exact q_next (i + 1) ⟨by omega, allP_succ hn hlt (show optFine (r.options.take i) r.options[i] = true from (congrArg not h31).trans rfl)⟩ (by omega) rfl sb rfl
   ·refine go 11 ?_
    refine fin1 rfl rfl ?_
    have e : i = r.options.length := (by omega)
    subst e
    exact q_v (congrArg Value.bool (by simp only [validRep, hn, h15]; rfl))

theorem repChoices (I : IMap) (r : Rep) (S : Option Addr) (d : Nat) (hr : RdS I (.slice S r.options.length d) r.options) (hs : ∀ e ∈ r.options, SmE e) :
    FnV Tryz.prog 32 #[.agg (r.cells (.slice S r.options.length d)).toArray] I (.int .i64 (chs r)) := by
 have hl5 := hr.lenLe
 refine enter Tryz.func32 Tryz.call32 rfl Tryz.ntmps32 rfl (fun w0 => ?_)
 refine go 3 ?_
 refine o_box _ rfl rfl rfl (fun g1 => ?_)
 refine go 9 ?_
 refine o_callV (repValid _ r S d hr hs) rfl rfl ?_
 refine go 4 ?_
 refine cb rfl (fun h3 p3 => ?_) (fun h3 p3 => ?_)
 ·refine go 8 ?_
  refine fin1 rfl rfl ?_
  exact q_v (congrArg (Value.int .i64) (by simp only [chs, show validRep r = false by simpa using h3, Bool.true_eq_false, Bool.false_eq_true, if_true, if_false]))
 ·have hl4 := validRep_len (r := r) (by simpa using h3)
  refine go 7 ?_
  refine cb rfl (fun h7 p7 => ?_) (fun h7 p7 => ?_)
  ·refine go 5 ?_
   refine o_v rfl (v_add rfl rfl ⟨by omega, by have := hl4; omega⟩) ?_
   refine go 6 ?_
   refine fin1 rfl rfl ?_
   exact q_v (congrArg (Value.int .i64) (by simp only [chs, show validRep r = true by simpa using h3, h7, Bool.true_eq_false, Bool.false_eq_true, if_true, if_false]))
  ·refine go 12 ?_
   refine fin1 rfl rfl ?_
   exact q_v (congrArg (Value.int .i64) (by simp only [chs, show validRep r = true by simpa using h3, h7, Bool.true_eq_false, Bool.false_eq_true, if_true, if_false]))

theorem hiGiven (I : IMap) (vc : Value) (c : List Kind) (hvc : RdS I vc c) (hsc : SmC c) (v : Value) (l : List Rep) (hv : RdS I v l) (hsl : ∀ r ∈ l, ∀ e ∈ r.options, SmE e) (w : Value) (ch : List Int) (hw : RdS I w ch) (n : Int) :
    FnV Tryz.prog 85 #[.agg #[vc], v, w, .int .i64 n] I (.bool (givenF c l ch n)) := by
 obtain ⟨A, c0, rfl, hA, hc, hm⟩ := hv
 obtain ⟨B, c1, rfl, hB, hc1, hm1⟩ := hw
 refine enter Tryz.func85 Tryz.call85 rfl Tryz.ntmps85 rfl (fun w0 => ?_)
 refine go 3 ?_
 refine o_box _ rfl rfl rfl (fun g4 => ?_)
 refine go 5 ?_
 refine c_cut (I' := I) (L' := [(4, .pointer (some ⟨g4, 0, none⟩)), (1, .slice A l.length c0), (2, .slice B ch.length c1), (3, .int .i64 n), (21, .bool (!validC c || !decide (((ch.length : Nat) : Int) = (l.length : Nat))))]) (H' := [.blk g4 24 [vc]]) ?_ ?_
 ·refine go 3 ?_
  refine o_callV (catValid _ vc c hvc hsc) rfl rfl ?_
  refine go 2 ?_
  refine sxb 15 rfl (fun h15 p15 => ?_) (fun h15 p15 => ?_)
  ·refine go 8 ?_
   exact q_cut ⟨rfl, rfl, rfl, rfl, (congrArg (fun b => some (Value.bool b)) (by simp only [h15, bS])), trivial⟩ rfl rfl
  ·refine go 8 ?_
   exact q_cut ⟨rfl, rfl, rfl, rfl, (congrArg (fun b => some (Value.bool b)) (by simp only [h15, bS])), trivial⟩ rfl rfl
 ·refine cb rfl (fun h21 p21 => ?_) (fun h21 p21 => ?_)
  ·refine go 7 ?_
   refine fin1 rfl rfl ?_
   exact q_v (congrArg Value.bool (by simp only [givenF, h21]; rfl))
  ·have hlc : ch.length = l.length := by revert h21; simp; omega
   refine go 11 ?_
   refine c_loop (α := Nat) 0 (fun i => I)
    (fun i => [(4, .pointer (some ⟨g4, 0, none⟩)), (1, .slice A l.length c0), (2, .slice B ch.length c1), (3, .int .i64 n), (22, .slice A l.length c0), (23, .int .i64 ((l.length : Nat) : Int)), (24, .int .i64 ((i : Nat) : Int))])
    (fun i => [.blk g4 24 [vc]])
    (fun i => i ≤ l.length ∧ allTo (chFine n) l ch i = true)
    (fun i => l.length - i) ⟨Nat.zero_le _, rfl⟩ rfl sb rfl ?_
   intro i ⟨hi, hn⟩
   refine go 6 ?_
   refine cb rfl (fun h25 p25 => ?_) (fun h25 p25 => ?_)
   ·have hlt : i < l.length := by omega
    have hlt2 : i < ch.length := by omega
    refine go 7 ?_
    obtain ⟨b27, o27, w27, e27, c27, r27⟩ := RdA.at_ hA (i := i) hlt
    obtain ⟨q27, rfl, S27, d27, rfl, hS27, hd27, hm27⟩ := r27
    refine o_v rfl (v_idx he rfl rfl e27 (i) (by omega) hlt) ?_
    refine o_v rfl (v_ldIa he rfl c27 rfl) ?_
    refine go 1 ?_
    refine o_alloc he rfl (fun g10 => ?_)
    refine go 2 ?_
    refine o_stw _ he rfl rfl rfl rfl rfl rfl ?_
    refine go 6 ?_
    refine o_callV (repChoices _ l[i] S27 d27 ⟨_, _, rfl, hS27, hd27, hm27⟩ (hsl _ (List.getElem_mem hlt))) rfl rfl ?_
    refine go 4 ?_
    refine c_cut (I' := I) (L' := [(4, .pointer (some ⟨g4, 0, none⟩)), (1, .slice A l.length c0), (2, .slice B ch.length c1), (3, .int .i64 n), (22, .slice A l.length c0), (23, .int .i64 ((l.length : Nat) : Int)), (24, .int .i64 ((i : Nat) : Int)), (48, .bool ((decide (chs l[i] = 0) || decide (ch[i] < n)) || decide (chs l[i] ≤ ch[i])))]) (H' := [.blk g4 24 [vc]]) ?_ ?_
    ·refine go 4 ?_
     refine sxb 33 rfl (fun h33 p33 => ?_) (fun h33 p33 => ?_)
     ·refine go 17 ?_
      refine sx_drop ?_
      exact q_cut ⟨rfl, rfl, rfl, rfl, rfl, rfl, rfl, (congrArg (fun b => some (Value.bool b)) (by simp only [h25, h33, bS])), trivial⟩ rfl rfl
     ·refine go 2 ?_
      obtain ⟨b36, o36, w36, e36, c36, r36⟩ := RdA.at_ hB (i := i) hlt2
      obtain rfl := r36
      refine o_cons (o_yes rfl rfl h33 (o_val rfl (v_idx he rfl rfl e36 (i) (by omega) hlt2) ?_))
      refine o_cons (o_yes rfl rfl h33 (o_val rfl (v_ldI he rfl (c36 0 _ rfl)) ?_))
      refine go 4 ?_
      refine sxb 41 rfl (fun h41 p41 => ?_) (fun h41 p41 => ?_)
      ·refine go 9 ?_
       refine sx_drop ?_
       exact q_cut ⟨rfl, rfl, rfl, rfl, rfl, rfl, rfl, (congrArg (fun b => some (Value.bool b)) (by simp only [h25, h33, h41, bS])), trivial⟩ rfl rfl
      ·refine go 2 ?_
       obtain ⟨b44, o44, w44, e44, c44, r44⟩ := RdA.at_ hB (i := i) hlt2
       obtain rfl := r44
       refine o_cons (o_yes rfl rfl h41 (o_val rfl (v_idx he rfl rfl e44 (i) (by omega) hlt2) ?_))
       refine o_cons (o_yes rfl rfl h41 (o_val rfl (v_ldI he rfl (c44 0 _ rfl)) ?_))
       refine go 5 ?_
       refine sx_drop ?_
       exact q_cut ⟨rfl, rfl, rfl, rfl, rfl, rfl, rfl, (congrArg (fun b => some (Value.bool b)) (by simp only [h25, h33, h41, bS])), trivial⟩ rfl rfl
    ·refine cb rfl (fun h48 p48 => ?_) (fun h48 p48 => ?_)
     ·refine go 11 ?_
      refine fin1 rfl rfl ?_
      exact q_v (congrArg Value.bool (by simp only [givenF, h21, allTo_not (f := chFine n) hlt hlt hlt2 (by simp only [chFine, h48]; rfl), bS]))
     ·refine go 8 ?_
      exact q_next (i + 1) ⟨by omega, allTo_succ hn hlt hlt2 (by simp only [chFine, h48]; rfl)⟩ (by omega) rfl sb rfl
   ·refine go 11 ?_
    refine fin1 rfl rfl ?_
    have e : i = l.length := (by omega)
    subst e
    exact q_v (congrArg Value.bool (by simp only [givenF, hn, h21]; rfl))

theorem hiDays (I : IMap) (A B : Option Addr) (a c b d : Nat) :
    FnI Tryz.prog 108 #[.slice A a c, .slice B b d] I (fun u J => ∃ g2 g3, u = .func (.func 126) #[] #[.pointer (some ⟨g2, 0, none⟩), .pointer (some ⟨g3, 0, none⟩)] ∧ ICells J g2 0 [.slice A a c] ∧ ICells J g3 0 [.slice B b d]) := by
 refine enter Tryz.func108 Tryz.call108 rfl Tryz.ntmps108 rfl (fun w0 => ?_)
 refine go 3 ?_
 refine o_box _ rfl rfl rfl (fun g2 => ?_)
 refine go 1 ?_
 refine o_box _ rfl rfl rfl (fun g3 => ?_)
 refine go 5 ?_
 refine bring1 ?_
 refine sx_pub (fun Ig2 jg2 cg2 => ?_)
 refine sx_pub (fun Ig3 jg3 cg3 => ?_)
 have cg2 := (cg2).le jg3
 refine o_v rfl (v_makeFunc rfl rfl) ?_
 refine go 4 ?_
 refine fin1 rfl rfl ?_
 exact q_i ⟨_, _, rfl, cg2, cg3⟩

theorem daysIt (I : IMap) (v : Value) (l : List Rep) (hv : RdS I v l) (w : Value) (ch : List Int) (hw : RdS I w ch) (hlc : ch.length = l.length) (g2 g3 : Nat) (c2 : ICells I g2 0 [v]) (c3 : ICells I g3 0 [w]) :
    FnIt Tryz.prog 126 [.pointer (some ⟨g2, 0, none⟩), .pointer (some ⟨g3, 0, none⟩)] I (fun _ vs (x : Int) => vs = [ci x]) (fun pre x => pre ++ [x] <+: openDays l ch l.length) (fun pre => pre = openDays l ch l.length) (fun _ => True) := by
 obtain ⟨A, c0, rfl, hA, hc, hm⟩ := hv
 obtain ⟨B, c1, rfl, hB, hc1, hm1⟩ := hw
 intro ly J I1 Hc hI1 hJm hY hJ0
 have hA := hA.le hI1
 have hB := hB.le hI1
 have c2 := c2.le hI1
 have c3 := c3.le hI1
 refine enter Tryz.func126 Tryz.call126 rfl Tryz.ntmps126 rfl (fun w0 => ?_)
 refine go 2 ?_
 refine o_v rfl (v_ldI he rfl (c2 0 _ rfl)) ?_
 refine go 5 ?_
 refine c_loop3 ((0 : Nat)) (I1) (Hc) (fun i I2 Hc => I2)
  (fun i I2 Hc => [(0, .func (.yield ly) #[] #[]), (1, .pointer (some ⟨g2, 0, none⟩)), (2, .pointer (some ⟨g3, 0, none⟩)), (8, .slice A l.length c0), (9, .int .i64 ((l.length : Nat) : Int)), (10, .int .i64 ((i : Nat) : Int))])
  (fun i I2 Hc => Hc)
  (fun i I2 Hc => i ≤ l.length ∧ ILe I1 I2 ∧ J true (openDays l ch i) I2 Hc)
  (fun i I2 Hc => l.length - i) ⟨Nat.zero_le _, ILe.refl _, hJ0⟩ rfl sb rfl ?_
 intro i I2 Hc ⟨hi, hI2, hJ⟩
 have hA := hA.le hI2
 have hB := hB.le hI2
 have c3 := c3.le hI2
 refine go 6 ?_
 refine cb rfl (fun h11 p11 => ?_) (fun h11 p11 => ?_)
 ·have hlt : i < l.length := by omega
  have hlt2 : i < ch.length := by omega
  refine go 7 ?_
  obtain ⟨b13, o13, w13, e13, c13, r13⟩ := RdA.at_ hA (i := i) hlt
  obtain ⟨q13, rfl, S13, d13, rfl, hS13, hd13, hm13⟩ := r13
  refine o_v rfl (v_idx he rfl rfl e13 (i) (by omega) hlt) ?_
  refine o_v rfl (v_ldIa he rfl c13 rfl) ?_
  refine go 1 ?_
  refine o_alloc he rfl (fun g5 => ?_)
  refine go 2 ?_
  refine o_stw _ he rfl rfl rfl rfl rfl rfl ?_
  refine go 11 ?_
  refine c_loop3 ((0 : Nat)) (I2) (Hc) (fun j I3 Hc3 => I3)
   (fun j I3 Hc3 => [(0, .func (.yield ly) #[] #[]), (1, .pointer (some ⟨g2, 0, none⟩)), (2, .pointer (some ⟨g3, 0, none⟩)), (8, .slice A l.length c0), (9, .int .i64 ((l.length : Nat) : Int)), (10, .int .i64 ((i : Nat) : Int)), (4, .int .i64 ((i : Nat) : Int)), (5, .pointer (some ⟨g5, 0, none⟩)), (16, .slice S13 l[i].options.length d13), (17, .int .i64 ((l[i].options.length : Nat) : Int)), (18, .int .i64 ((j : Nat) : Int))])
   (fun j I3 Hc3 => .blk g5 47 (l[i].cells (.slice S13 l[i].options.length d13)) :: Hc3)
   (fun j I3 Hc3 => j ≤ l[i].options.length ∧ ILe I2 I3 ∧ J true (openTo l ch i j) I3 Hc3)
   (fun j I3 Hc3 => l[i].options.length - j) ⟨Nat.zero_le _, ILe.refl _, by rw [openTo_zero]; exact hJ⟩ rfl sb rfl ?_
  intro j I3 Hc3 ⟨hj, hI3, hJ3⟩
  have hB := hB.le hI3
  have c3 := c3.le hI3
  have hS13 := hS13.le hI3
  refine go 6 ?_
  refine cb rfl (fun h19 p19 => ?_) (fun h19 p19 => ?_)
  ·have hlj : j < l[i].options.length := by omega
   refine go 6 ?_
   obtain ⟨b20, o20, w20, e20, c20, r20⟩ := RdA.at_ hS13 (i := j) hlj
   obtain rfl := r20
   refine o_v rfl (v_idx he rfl rfl e20 (j) (by omega) hlj) ?_
   refine o_v rfl (v_ldIa he rfl c20 rfl) ?_
   refine go 1 ?_
   refine o_alloc he rfl (fun g7 => ?_)
   refine go 1 ?_
   refine o_stw _ he rfl rfl rfl rfl rfl rfl ?_
   refine go 4 ?_
   refine o_v rfl (v_ldI he rfl (c3 0 _ rfl)) ?_
   refine go 1 ?_
   obtain ⟨b24, o24, w24, e24, c24, r24⟩ := RdA.at_ hB (i := i) hlt2
   obtain rfl := r24
   refine o_v rfl (v_idx he rfl rfl e24 (i) (by omega) hlt2) ?_
   refine o_v rfl (v_ldI he rfl (c24 0 _ rfl)) ?_
   refine go 2 ?_
   refine sxb 27 rfl (fun h27 p27 => ?_) (fun h27 p27 => ?_)
   ·refine go 4 ?_
    refine o_yes rfl rfl h27 (o_yield2 (l[i].options[j].day) hY (hJm _ _ _ _ _ (ILe.refl _) hJ3) (rfl) (openTo_pre hlt hlt2 p27 hlj) rfl rfl rfl (fun b31 I31 Hc31 j31 hJ31 => ?_))
    refine go 4 ?_
    refine cb rfl (fun h33 p33 => ?_) (fun h33 p33 => ?_)
    ·have hb31 : b31 = false := by simpa using h33
     refine go 9 ?_
     refine fin0 rfl ?_
     refine sx_drop ?_
     refine sx_drop ?_
     subst hb31
     exact q_it false _ hJ31 trivial
    ·have hb31 : b31 = true := by simpa using h33
     refine go 8 ?_
     refine sx_drop ?_
     exact q_next3 (j + 1) (I31) (Hc31) ⟨by omega, hI3.trans j31, by rw [openTo_step hlt hlt2 p27 hlj]; exact hb31 ▸ hJ31⟩ (by omega) rfl sb rfl
   ·refine go 8 ?_
    refine c_false rfl ?_
    refine go 8 ?_
    refine sx_drop ?_
    exact q_next3 (j + 1) (I3) (Hc3) ⟨by omega, hI3, by rw [openTo_skip hlt hlt2 p27 j]; exact hJ3⟩ (by omega) rfl sb rfl
  ·refine go 11 ?_
   refine sx_drop ?_
   exact q_next3 (i + 1) (I3) (Hc3) ⟨by omega, hI2.trans hI3, by rw [← openTo_all hlt hlt2]; exact (show j = l[i].options.length by omega) ▸ hJ3⟩ (by omega) rfl sb rfl
 ·have hil : i = l.length := by omega
  refine go 4 ?_
  refine end0 rfl ?_
  exact q_it true _ hJ (by rw [hil]; rfl)

end Go.Proofs.YtoadjlmbdliceaaGreat

/- Walks, printed by a program out of the code of the functions: each theorem is a contract of one function. -/
namespace Go.Proofs.YtoadjlmbdliceaaGreat
open Go Go.Sx
set_option linter.all false
set_option maxRecDepth 20000
set_option maxHeartbeats 4000000
instance T.by_142 : Has (bytesK Tryz.prog 142) ([.int .i64 0, .int .i64 0, .string ⟨#[]⟩, .string ⟨#[]⟩, .string ⟨#[]⟩, .string ⟨#[]⟩, .string ⟨#[]⟩, .string ⟨#[]⟩, .int .i64 0, .int .i64 0, .int .i64 0, .int .i64 0, .int .i64 0, .int .i64 0, .int .i64 0], 15, 168) := ⟨by kernel_rfl⟩
instance T.elt_140 : Has (eltK Tryz.prog 140) (142, 15) := ⟨by kernel_rfl⟩
instance T.fld_142_0 : Has (fldK Tryz.prog 142 0) (0, true, 14) := ⟨by kernel_rfl⟩
instance T.fld_142_1 : Has (fldK Tryz.prog 142 1) (14, false, 1) := ⟨by kernel_rfl⟩
instance T.pl_142 : Has (plK Tryz.prog 142) [(0, 14), (14, 1)] := ⟨by kernel_rfl⟩
instance T.ty_142 : Has (tyK Tryz.prog 142) (true, 15) := ⟨by kernel_rfl⟩
instance T.und_140 : Has (Tryz.prog.underlying 140) (.slice 142) := ⟨by kernel_rfl⟩
instance T.zero_142 : Has (zeroK Tryz.prog 142) [.int .i64 0, .int .i64 0, .string ⟨#[]⟩, .string ⟨#[]⟩, .string ⟨#[]⟩, .string ⟨#[]⟩, .string ⟨#[]⟩, .string ⟨#[]⟩, .int .i64 0, .int .i64 0, .int .i64 0, .int .i64 0, .int .i64 0, .int .i64 0, .int .i64 0] := ⟨by kernel_rfl⟩
instance T.zero_3 : Has (zeroK Tryz.prog 3) [.int .i64 0] := ⟨by kernel_rfl⟩
theorem swapRangeP (I : IMap) {rest : Rst 15} {cap : Nat} (l : List Pkd) (N : Nat) (hN : l.length = N) (g a b n : Nat) (f : FuncId) (h : a + n ≤ b) (hb : b + n ≤ l.length) (hl : l.length ≤ 1000000) :
    FnM Tryz.prog 209 #[.slice (some ⟨g, 0, none⟩) N cap, .int .i64 ((a : Nat) : Int), .int .i64 ((b : Nat) : Int), .int .i64 ((n : Nat) : Int), .func (.func f) #[] #[]] I (.blk g 142 (evCh (l) ++ rest.l).flatten) (.blk g 142 (evCh (swpN l a b n) ++ rest.l).flatten) := by
 refine enter Tryz.func209 Tryz.call209 rfl Tryz.ntmps209 rfl (fun w0 => ?_)
 refine go 6 ?_
 refine c_loop (α := Nat) 0 (fun i => I)
  (fun i => [(0, .slice (some ⟨g, 0, none⟩) N cap), (1, .int .i64 ((a : Nat) : Int)), (2, .int .i64 ((b : Nat) : Int)), (3, .int .i64 ((n : Nat) : Int)), (10, .int .i64 ((i : Nat) : Int))])
  (fun i => [.blk g 142 (evCh (swpN l a b i) ++ rest.l).flatten])
  (fun i => i ≤ n)
  (fun i => n - i) (Nat.zero_le _) rfl sb rfl ?_
 intro i hi
 refine go 8 ?_
 refine cb rfl (fun h13 p13 => ?_) (fun h13 p13 => ?_)
 ·have hlt : i < n := by omega
  have hm := swpN_len l a b i
  have h1 : a + i < (swpN l a b i).length := by omega
  have h2 : b + i < (swpN l a b i).length := by omega
  refine go 4 ?_
  refine d_start1 T.mixed ?_
  refine d_tv 0 rfl rfl (by kernel_rfl) rfl (.cons _ .slnil) rfl (v_move rfl) ?_
  refine d_tv 1 rfl rfl (by kernel_rfl) rfl (.cons _ .slnil) rfl (v_move rfl) ?_
  refine d_tv 2 rfl rfl (by kernel_rfl) rfl (.cons _ .slnil) rfl (v_move rfl) ?_
  refine d_tv 3 rfl rfl (by kernel_rfl) rfl (.cons _ .slnil) rfl (v_add rfl rfl ⟨by omega, by omega⟩) ?_
  refine d_tv 4 rfl rfl (by kernel_rfl) rfl (.cons _ .slnil) rfl (v_move rfl) ?_
  refine d_tv 5 rfl rfl (by kernel_rfl) rfl (.cons _ .slnil) rfl (v_move rfl) ?_
  refine d_tv 6 rfl rfl (by kernel_rfl) rfl (.cons _ .slnil) rfl (v_move rfl) ?_
  refine d_tv 7 rfl rfl (by kernel_rfl) rfl (.cons _ .slnil) rfl (v_add rfl rfl ⟨by omega, by omega⟩) ?_
  refine d_tv 8 rfl rfl (by kernel_rfl) rfl (.cons _ .slnil) rfl (v_move rfl) ?_
  refine d_tv 9 rfl rfl (by kernel_rfl) rfl (.cons _ .slnil) rfl (v_move rfl) ?_
  refine d_tv 10 rfl rfl (by kernel_rfl) rfl (.cons _ .slnil) rfl (v_move rfl) ?_
  refine d_tv 11 rfl rfl (by kernel_rfl) rfl (.cons _ .slnil) rfl (v_add rfl rfl ⟨by omega, by omega⟩) ?_
  refine d_tv 12 rfl rfl (by kernel_rfl) rfl (.cons _ .slnil) rfl (v_idx he rfl rfl rfl (b + i) (by omega) (by omega)) ?_
  refine d_tv 14 rfl rfl (by kernel_rfl) rfl (.cons _ .slnil) rfl (v_move rfl) ?_
  refine d_tv 15 rfl rfl (by kernel_rfl) rfl (.cons _ .slnil) rfl (v_move rfl) ?_
  refine d_tv 16 rfl rfl (by kernel_rfl) rfl (.cons _ .slnil) rfl (v_move rfl) ?_
  refine d_tv 17 rfl rfl (by kernel_rfl) rfl (.cons _ .slnil) rfl (v_add rfl rfl ⟨by omega, by omega⟩) ?_
  refine d_tv 18 rfl rfl (by kernel_rfl) rfl (.cons _ .slnil) rfl (v_idx he rfl rfl rfl (a + i) (by omega) (by omega)) ?_
  refine d_two 13 19 (by kernel_rfl) rfl rfl ?_ ?_
  ·refine o_val rfl (v_ldc m0 ((evCh_ukP _).append rest.uk) he rfl (b + i) (by omega) (evCh_restP h2)) ?_
   refine d_on (fun _ m => m.keeps (.cons _ .slnil)) ?_
   refine d_one 19 (by kernel_rfl) rfl ?_
   refine o_val rfl (v_ldc m0 ((evCh_ukP _).append rest.uk) he rfl (a + i) (by omega) (evCh_restP h1)) ?_
   refine d_on (fun _ m => m.keeps (.cons _ .slnil)) ?_
   refine d_tv 20 rfl rfl (by kernel_rfl) rfl (.cons _ .slnil) rfl (v_idx he rfl rfl rfl (a + i) (by omega) (by omega)) ?_
   refine d_one 21 (by kernel_rfl) rfl ?_
   refine o_stc _ (a + i) (by first | exact (evCh_ukP _).append rest.uk | exact ((evCh_ukP _).append rest.uk).set rfl _) he rfl rfl rfl rfl rfl (by omega) (by simp [evCh_len]; omega) ?_
   refine d_on (fun _ m => m.keeps (.cons _ .slnil)) ?_
   refine d_tv 22 rfl rfl (by kernel_rfl) rfl (.cons _ .slnil) rfl (v_idx he rfl rfl rfl (b + i) (by omega) (by omega)) ?_
   refine d_one 23 (by kernel_rfl) rfl ?_
   refine o_stc _ (b + i) (by first | exact (evCh_ukP _).append rest.uk | exact ((evCh_ukP _).append rest.uk).set rfl _) he rfl rfl rfl rfl rfl (by omega) (by simp [evCh_len]; omega) ?_
   refine d_on (fun _ m => m.keeps (.cons _ .slnil)) ?_
   refine d_done (by kernel_rfl) ?_
   refine go 8 ?_
   exact q_next (i + 1) (by omega) (by omega) rfl sb (by rw [swpN]; first | rw [← evCh_swpR h1 h2] | rw [← evCh_swpR' h1 h2 (by omega)])
  ·refine o_val rfl (v_ldc m0 ((evCh_ukP _).append rest.uk) he rfl (a + i) (by omega) (evCh_restP h1)) ?_
   refine d_on (fun _ m => m.keeps (.cons _ .slnil)) ?_
   refine d_one 13 (by kernel_rfl) rfl ?_
   refine o_val rfl (v_ldc m0 ((evCh_ukP _).append rest.uk) he rfl (b + i) (by omega) (evCh_restP h2)) ?_
   refine d_on (fun _ m => m.keeps (.cons _ .slnil)) ?_
   refine d_tv 20 rfl rfl (by kernel_rfl) rfl (.cons _ .slnil) rfl (v_idx he rfl rfl rfl (a + i) (by omega) (by omega)) ?_
   refine d_one 21 (by kernel_rfl) rfl ?_
   refine o_stc _ (a + i) (by first | exact (evCh_ukP _).append rest.uk | exact ((evCh_ukP _).append rest.uk).set rfl _) he rfl rfl rfl rfl rfl (by omega) (by simp [evCh_len]; omega) ?_
   refine d_on (fun _ m => m.keeps (.cons _ .slnil)) ?_
   refine d_tv 22 rfl rfl (by kernel_rfl) rfl (.cons _ .slnil) rfl (v_idx he rfl rfl rfl (b + i) (by omega) (by omega)) ?_
   refine d_one 23 (by kernel_rfl) rfl ?_
   refine o_stc _ (b + i) (by first | exact (evCh_ukP _).append rest.uk | exact ((evCh_ukP _).append rest.uk).set rfl _) he rfl rfl rfl rfl rfl (by omega) (by simp [evCh_len]; omega) ?_
   refine d_on (fun _ m => m.keeps (.cons _ .slnil)) ?_
   refine d_done (by kernel_rfl) ?_
   refine go 8 ?_
   exact q_next (i + 1) (by omega) (by omega) rfl sb (by rw [swpN]; first | rw [← evCh_swpR h1 h2] | rw [← evCh_swpR' h1 h2 (by omega)])
 ·refine go 4 ?_
  refine end0 rfl ?_
  obtain rfl : i = n := by omega
  exact q_m

theorem insSortP (I : IMap) {rest : Rst 15} {cap : Nat} (l : List Pkd) (N : Nat) (hN : l.length = N) (g a b : Nat) (f : FuncId) (hp : ∀ x y : Pkd, FnV Tryz.prog f #[.agg (Day.ch x).toArray, .agg (Day.ch y).toArray] I (.int .i64 ((Day.day x - Day.day y)))) (hab : a ≤ b) (hb : b ≤ l.length) (hl : l.length ≤ 1000000) :
    FnX Tryz.prog 159 #[.slice (some ⟨g, 0, none⟩) N cap, .int .i64 ((a : Nat) : Int), .int .i64 ((b : Nat) : Int), .func (.func f) #[] #[]] I [.blk g 142 (evCh (l) ++ rest.l).flatten] (fun u r => u = .tuple #[] ∧ ∃ m, r = .blk g 142 (evCh (m) ++ rest.l).flatten ∧ Seg l m a b) := by
 refine enter Tryz.func159 Tryz.call159 rfl Tryz.ntmps159 rfl (fun w0 => ?_)
 refine go 3 ?_
 refine o_v rfl (OV.cast (u := .int .i64 ((a + 1 : Nat) : Int)) (v_add rfl rfl ⟨by omega, by omega⟩) (congrArg (Value.int .i64) (by omega))) ?_
 refine go 4 ?_
 refine c_loop2 (a + 1) (l) (fun i m => I)
  (fun i m => [(0, .slice (some ⟨g, 0, none⟩) N cap), (1, .int .i64 ((a : Nat) : Int)), (2, .int .i64 ((b : Nat) : Int)), (3, .func (.func f) #[] #[]), (8, .int .i64 ((i : Nat) : Int))])
  (fun i m => [.blk g 142 (evCh (m) ++ rest.l).flatten])
  (fun i m => a + 1 ≤ i ∧ (i ≤ b ∨ (m = l ∧ i = a + 1)) ∧ Seg l m a i)
  (fun i m => b - i) ⟨Nat.le_refl _, .inr ⟨rfl, rfl⟩, Seg.one l a⟩ rfl sb rfl ?_
 intro i m ⟨h1, h2, hs⟩
 refine go 8 ?_
 refine cb rfl (fun h14 p14 => ?_) (fun h14 p14 => ?_)
 ·have hlt : i < b := by omega
  refine go 11 ?_
  refine c_loop2 (i) (m) (fun j k => I)
   (fun j k => [(0, .slice (some ⟨g, 0, none⟩) N cap), (1, .int .i64 ((a : Nat) : Int)), (2, .int .i64 ((b : Nat) : Int)), (3, .func (.func f) #[] #[]), (8, .int .i64 ((i : Nat) : Int)), (9, .int .i64 ((j : Nat) : Int))])
   (fun j k => [.blk g 142 (evCh (k) ++ rest.l).flatten])
   (fun j k => a ≤ j ∧ j ≤ i ∧ Ins l k a i j)
   (fun j k => j) ⟨by omega, Nat.le_refl _, Ins.start hs⟩ rfl sb rfl ?_
  intro j k ⟨hj1, hj2, hk⟩
  have hkl := hk.len
  refine go 2 ?_
  refine d_startH T.mixed ?_
  refine d_tv 0 rfl rfl (by kernel_rfl) rfl (.refl _) rfl (v_move rfl) ?_
  refine d_tv 1 rfl rfl (by kernel_rfl) rfl (.refl _) rfl (v_move rfl) ?_
  refine d_tv 2 rfl rfl (by kernel_rfl) rfl (.refl _) rfl (v_gtr rfl rfl) ?_
  refine d_tv 3 rfl rfl (by kernel_rfl) rfl (.refl _) rfl (v_move rfl) ?_
  refine sxb 21 rfl (fun h21 p21 => ?_) (fun h21 p21 => ?_)
  ·have hjk : j < k.length := by omega
   have hjk1 : j - 1 < k.length := by omega
   refine d_t 4 rfl rfl (by kernel_rfl) rfl (fun _ m => m.keeps (.refl _)) (y_yes rfl rfl h21 (v_move rfl)) ?_
   refine d_t 5 rfl rfl (by kernel_rfl) rfl (fun _ m => m.keeps (.refl _)) (y_yes rfl rfl h21 (v_move rfl)) ?_
   refine d_t 6 rfl rfl (by kernel_rfl) rfl (fun _ m => m.keeps (.refl _)) (y_yes rfl rfl h21 (v_move rfl)) ?_
   refine d_t 7 rfl rfl (by kernel_rfl) rfl (fun _ m => m.keeps (.refl _)) (y_yes rfl rfl h21 (v_idx he rfl rfl rfl (j) (by omega) (by omega))) ?_
   refine d_t 8 rfl rfl (by kernel_rfl) rfl (fun _ m => m.keeps (.refl _)) (y_yes rfl rfl h21 (v_ldc m0 ((evCh_ukP _).append rest.uk) he rfl (j) (by omega) (evCh_restP hjk))) ?_
   refine d_t 9 rfl rfl (by kernel_rfl) rfl (fun _ m => m.keeps (.refl _)) (y_yes rfl rfl h21 (v_move rfl)) ?_
   refine d_t 10 rfl rfl (by kernel_rfl) rfl (fun _ m => m.keeps (.refl _)) (y_yes rfl rfl h21 (v_move rfl)) ?_
   refine d_t 11 rfl rfl (by kernel_rfl) rfl (fun _ m => m.keeps (.refl _)) (y_yes rfl rfl h21 (v_sub rfl rfl ⟨by omega, by omega⟩)) ?_
   refine d_t 12 rfl rfl (by kernel_rfl) rfl (fun _ m => m.keeps (.refl _)) (y_yes rfl rfl h21 (v_idx he rfl rfl rfl (j - 1) (by omega) (by omega))) ?_
   refine d_t 13 rfl rfl (by kernel_rfl) rfl (fun _ m => m.keeps (.refl _)) (y_yes rfl rfl h21 (v_ldc m0 ((evCh_ukP _).append rest.uk) he rfl (j - 1) (by omega) (evCh_restP hjk1))) ?_
   refine d_one 14 (by kernel_rfl) rfl ?_
   refine o_yes rfl rfl h21 (o_callV (hp _ _) rfl rfl ?_)
   refine d_on (fun _ m => m.keeps (.refl _)) ?_
   refine d_t 15 rfl rfl (by kernel_rfl) rfl (fun _ m => m.keeps (.refl _)) (y_yes rfl rfl h21 (v_lss rfl rfl)) ?_
   refine d_tv 16 rfl rfl (by kernel_rfl) rfl (.refl _) rfl (v_and_t h21 rfl rfl) ?_
   refine d_done (by kernel_rfl) ?_
   refine go 1 ?_
   refine cb rfl (fun h34 p34 => ?_) (fun h34 p34 => ?_)
   ·refine go 4 ?_
    refine d_start1 T.mixed ?_
    refine d_tv 0 rfl rfl (by kernel_rfl) rfl (.cons _ .slnil) rfl (v_move rfl) ?_
    refine d_tv 1 rfl rfl (by kernel_rfl) rfl (.cons _ .slnil) rfl (v_move rfl) ?_
    refine d_tv 2 rfl rfl (by kernel_rfl) rfl (.cons _ .slnil) rfl (v_move rfl) ?_
    refine d_tv 3 rfl rfl (by kernel_rfl) rfl (.cons _ .slnil) rfl (v_move rfl) ?_
    refine d_tv 4 rfl rfl (by kernel_rfl) rfl (.cons _ .slnil) rfl (v_sub rfl rfl ⟨by omega, by omega⟩) ?_
    refine d_tv 5 rfl rfl (by kernel_rfl) rfl (.cons _ .slnil) rfl (v_move rfl) ?_
    refine d_tv 6 rfl rfl (by kernel_rfl) rfl (.cons _ .slnil) rfl (v_move rfl) ?_
    refine d_tv 7 rfl rfl (by kernel_rfl) rfl (.cons _ .slnil) rfl (v_sub rfl rfl ⟨by omega, by omega⟩) ?_
    refine d_tv 8 rfl rfl (by kernel_rfl) rfl (.cons _ .slnil) rfl (v_idx he rfl rfl rfl (j - 1) (by omega) (by omega)) ?_
    refine d_tv 10 rfl rfl (by kernel_rfl) rfl (.cons _ .slnil) rfl (v_move rfl) ?_
    refine d_tv 11 rfl rfl (by kernel_rfl) rfl (.cons _ .slnil) rfl (v_move rfl) ?_
    refine d_tv 12 rfl rfl (by kernel_rfl) rfl (.cons _ .slnil) rfl (v_idx he rfl rfl rfl (j) (by omega) (by omega)) ?_
    refine d_two 9 13 (by kernel_rfl) rfl rfl ?_ ?_
    ·refine o_val rfl (v_ldc m0 ((evCh_ukP _).append rest.uk) he rfl (j - 1) (by omega) (evCh_restP hjk1)) ?_
     refine d_on (fun _ m => m.keeps (.cons _ .slnil)) ?_
     refine d_one 13 (by kernel_rfl) rfl ?_
     refine o_val rfl (v_ldc m0 ((evCh_ukP _).append rest.uk) he rfl (j) (by omega) (evCh_restP hjk)) ?_
     refine d_on (fun _ m => m.keeps (.cons _ .slnil)) ?_
     refine d_tv 14 rfl rfl (by kernel_rfl) rfl (.cons _ .slnil) rfl (v_idx he rfl rfl rfl (j) (by omega) (by omega)) ?_
     refine d_one 15 (by kernel_rfl) rfl ?_
     refine o_stc _ (j) (by first | exact (evCh_ukP _).append rest.uk | exact ((evCh_ukP _).append rest.uk).set rfl _) he rfl rfl rfl rfl rfl (by omega) (by simp [evCh_len]; omega) ?_
     refine d_on (fun _ m => m.keeps (.cons _ .slnil)) ?_
     refine d_tv 16 rfl rfl (by kernel_rfl) rfl (.cons _ .slnil) rfl (v_idx he rfl rfl rfl (j - 1) (by omega) (by omega)) ?_
     refine d_one 17 (by kernel_rfl) rfl ?_
     refine o_stc _ (j - 1) (by first | exact (evCh_ukP _).append rest.uk | exact ((evCh_ukP _).append rest.uk).set rfl _) he rfl rfl rfl rfl rfl (by omega) (by simp [evCh_len]; omega) ?_
     refine d_on (fun _ m => m.keeps (.cons _ .slnil)) ?_
     refine d_done (by kernel_rfl) ?_
     refine go 4 ?_
     refine o_v rfl (OV.cast (u := .int .i64 ((j - 1 : Nat) : Int)) (v_sub rfl rfl ⟨by omega, by omega⟩) (congrArg (Value.int .i64) (by omega))) ?_
     refine go 3 ?_
     exact q_next2 (j - 1) (swp k j (j - 1)) ⟨by omega, by omega, hk.step (by omega) (by omega) (by omega) (by have := p34; simp only [subI_neg] at this; rw [dayAt_eq (by omega), dayAt_eq (by omega)]; exact this)⟩ (by omega) rfl sb (by first | rw [← evCh_swpR (show j < k.length by omega) (show j - 1 < k.length by omega)] | rw [← evCh_swpR' (show j < k.length by omega) (show j - 1 < k.length by omega) (by omega)])
    ·refine o_val rfl (v_ldc m0 ((evCh_ukP _).append rest.uk) he rfl (j) (by omega) (evCh_restP hjk)) ?_
     refine d_on (fun _ m => m.keeps (.cons _ .slnil)) ?_
     refine d_one 9 (by kernel_rfl) rfl ?_
     refine o_val rfl (v_ldc m0 ((evCh_ukP _).append rest.uk) he rfl (j - 1) (by omega) (evCh_restP hjk1)) ?_
     refine d_on (fun _ m => m.keeps (.cons _ .slnil)) ?_
     refine d_tv 14 rfl rfl (by kernel_rfl) rfl (.cons _ .slnil) rfl (v_idx he rfl rfl rfl (j) (by omega) (by omega)) ?_
     refine d_one 15 (by kernel_rfl) rfl ?_
     refine o_stc _ (j) (by first | exact (evCh_ukP _).append rest.uk | exact ((evCh_ukP _).append rest.uk).set rfl _) he rfl rfl rfl rfl rfl (by omega) (by simp [evCh_len]; omega) ?_
     refine d_on (fun _ m => m.keeps (.cons _ .slnil)) ?_
     refine d_tv 16 rfl rfl (by kernel_rfl) rfl (.cons _ .slnil) rfl (v_idx he rfl rfl rfl (j - 1) (by omega) (by omega)) ?_
     refine d_one 17 (by kernel_rfl) rfl ?_
     refine o_stc _ (j - 1) (by first | exact (evCh_ukP _).append rest.uk | exact ((evCh_ukP _).append rest.uk).set rfl _) he rfl rfl rfl rfl rfl (by omega) (by simp [evCh_len]; omega) ?_
     refine d_on (fun _ m => m.keeps (.cons _ .slnil)) ?_
     refine d_done (by kernel_rfl) ?_
     refine go 4 ?_
     refine o_v rfl (OV.cast (u := .int .i64 ((j - 1 : Nat) : Int)) (v_sub rfl rfl ⟨by omega, by omega⟩) (congrArg (Value.int .i64) (by omega))) ?_
     refine go 3 ?_
     exact q_next2 (j - 1) (swp k j (j - 1)) ⟨by omega, by omega, hk.step (by omega) (by omega) (by omega) (by have := p34; simp only [subI_neg] at this; rw [dayAt_eq (by omega), dayAt_eq (by omega)]; exact this)⟩ (by omega) rfl sb (by first | rw [← evCh_swpR (show j < k.length by omega) (show j - 1 < k.length by omega)] | rw [← evCh_swpR' (show j < k.length by omega) (show j - 1 < k.length by omega) (by omega)])
   ·refine go 12 ?_
    exact q_next2 (i + 1) (k) ⟨by omega, .inl (by omega), hk.done (by omega) (by omega) (.inr (by have := p34; simp only [subI_neg] at this; rw [dayAt_eq (by omega), dayAt_eq (by omega)]; omega))⟩ (by omega) rfl sb rfl
  ·refine d_t 4 rfl rfl (by kernel_rfl) rfl (fun _ m => m.keeps (.refl _)) (y_no rfl rfl h21) ?_
   refine d_t 5 rfl rfl (by kernel_rfl) rfl (fun _ m => m.keeps (.refl _)) (y_no rfl rfl h21) ?_
   refine d_t 6 rfl rfl (by kernel_rfl) rfl (fun _ m => m.keeps (.refl _)) (y_no rfl rfl h21) ?_
   refine d_t 7 rfl rfl (by kernel_rfl) rfl (fun _ m => m.keeps (.refl _)) (y_no rfl rfl h21) ?_
   refine d_t 8 rfl rfl (by kernel_rfl) rfl (fun _ m => m.keeps (.refl _)) (y_no rfl rfl h21) ?_
   refine d_t 9 rfl rfl (by kernel_rfl) rfl (fun _ m => m.keeps (.refl _)) (y_no rfl rfl h21) ?_
   refine d_t 10 rfl rfl (by kernel_rfl) rfl (fun _ m => m.keeps (.refl _)) (y_no rfl rfl h21) ?_
   refine d_t 11 rfl rfl (by kernel_rfl) rfl (fun _ m => m.keeps (.refl _)) (y_no rfl rfl h21) ?_
   refine d_t 12 rfl rfl (by kernel_rfl) rfl (fun _ m => m.keeps (.refl _)) (y_no rfl rfl h21) ?_
   refine d_t 13 rfl rfl (by kernel_rfl) rfl (fun _ m => m.keeps (.refl _)) (y_no rfl rfl h21) ?_
   refine d_t 14 rfl rfl (by kernel_rfl) rfl (fun _ m => m.keeps (.refl _)) (y_no rfl rfl h21) ?_
   refine d_t 15 rfl rfl (by kernel_rfl) rfl (fun _ m => m.keeps (.refl _)) (y_no rfl rfl h21) ?_
   refine d_tv 16 rfl rfl (by kernel_rfl) rfl (.refl _) rfl (v_and_f h21 rfl) ?_
   refine d_done (by kernel_rfl) ?_
   refine go 1 ?_
   refine c_false rfl ?_
   refine go 12 ?_
   exact q_next2 (i + 1) (k) ⟨by omega, .inl (by omega), hk.done (by omega) (by omega) (.inl (by omega))⟩ (by omega) rfl sb rfl
 ·refine go 4 ?_
  refine end0 rfl ?_
  exact q_x (by refine ⟨rfl, m, rfl, ?_⟩; rcases h2 with h2 | ⟨rfl, h2⟩; exact (show i = b by omega) ▸ hs; exact Seg.none (by omega))

theorem rotateP (I : IMap) {rest : Rst 15} {cap : Nat} (l : List Pkd) (N : Nat) (hN : l.length = N) (g a m b : Nat) (f : FuncId) (ham : a < m) (hmb : m < b) (hb : b ≤ l.length) (hl : l.length ≤ 1000000) :
    FnX Tryz.prog 191 #[.slice (some ⟨g, 0, none⟩) N cap, .int .i64 ((a : Nat) : Int), .int .i64 ((m : Nat) : Int), .int .i64 ((b : Nat) : Int), .func (.func f) #[] #[]] I [.blk g 142 (evCh (l) ++ rest.l).flatten] (fun u r => u = .tuple #[] ∧ ∃ k, r = .blk g 142 (evCh (k) ++ rest.l).flatten ∧ k.length = l.length ∧ ∀ q, k[q]? = rotG (l[·]?) m (m - a) (b - m) q) := by
 refine enter Tryz.func191 Tryz.call191 rfl Tryz.ntmps191 rfl (fun w0 => ?_)
 refine go 4 ?_
 refine o_v rfl (OV.cast (u := .int .i64 ((m - a : Nat) : Int)) (v_sub rfl rfl ⟨by omega, by omega⟩) (congrArg (Value.int .i64) (by omega))) ?_
 refine go 7 ?_
 refine o_v rfl (OV.cast (u := .int .i64 ((b - m : Nat) : Int)) (v_sub rfl rfl ⟨by omega, by omega⟩) (congrArg (Value.int .i64) (by omega))) ?_
 refine go 5 ?_
 refine c_loop3 (m - a) (b - m) (l) (fun i j k => I)
  (fun i j k => [(0, .slice (some ⟨g, 0, none⟩) N cap), (1, .int .i64 ((a : Nat) : Int)), (2, .int .i64 ((m : Nat) : Int)), (3, .int .i64 ((b : Nat) : Int)), (4, .func (.func f) #[] #[]), (10, .int .i64 ((i : Nat) : Int)), (11, .int .i64 ((j : Nat) : Int))])
  (fun i j k => [.blk g 142 (evCh (k) ++ rest.l).flatten])
  (fun i j k => 1 ≤ i ∧ 1 ≤ j ∧ i ≤ m ∧ m + j ≤ l.length ∧ k.length = l.length ∧ ∀ q, rotG (k[·]?) m i j q = rotG (l[·]?) m (m - a) (b - m) q)
  (fun i j k => i + j) ⟨by omega, by omega, by omega, by omega, rfl, fun q => rfl⟩ rfl sb rfl ?_
 intro i j k ⟨hi1, hj1, him, hmj, hkl, hk⟩
 refine go 8 ?_
 refine cb rfl (fun h20 p20 => ?_) (fun h20 p20 => ?_)
 ·refine go 10 ?_
  refine cb rfl (fun h23 p23 => ?_) (fun h23 p23 => ?_)
  ·refine go 5 ?_
   refine o_v rfl (OV.cast (u := .int .i64 ((m - i : Nat) : Int)) (v_sub rfl rfl ⟨by omega, by omega⟩) (congrArg (Value.int .i64) (by omega))) ?_
   refine go 4 ?_
   refine o_callM (swapRangeP _ k N (by omega) g (m - i) m j f (by omega) (by omega) (by omega)) rfl rfl ?_
   refine go 5 ?_
   refine o_v rfl (OV.cast (u := .int .i64 ((i - j : Nat) : Int)) (v_sub rfl rfl ⟨by omega, by omega⟩) (congrArg (Value.int .i64) (by omega))) ?_
   refine go 4 ?_
   exact q_next3 (i - j) (j) (swpN k (m - i) m j) ⟨by omega, by omega, by omega, by omega, (swpN_len _ _ _ _).trans hkl, fun q => (rot_gt (by omega) (by omega) (swpN_get _ (by omega) (by omega)) q).trans (hk q)⟩ (by omega) rfl sb rfl
  ·refine go 5 ?_
   refine o_v rfl (OV.cast (u := .int .i64 ((m - i : Nat) : Int)) (v_sub rfl rfl ⟨by omega, by omega⟩) (congrArg (Value.int .i64) (by omega))) ?_
   refine go 4 ?_
   refine o_v rfl (OV.cast (u := .int .i64 ((m + j - i : Nat) : Int)) (v_sub rfl rfl ⟨by omega, by omega⟩) (congrArg (Value.int .i64) (by omega))) ?_
   refine go 3 ?_
   refine o_callM (swapRangeP _ k N (by omega) g (m - i) (m + j - i) i f (by omega) (by omega) (by omega)) rfl rfl ?_
   refine go 5 ?_
   refine o_v rfl (OV.cast (u := .int .i64 ((j - i : Nat) : Int)) (v_sub rfl rfl ⟨by omega, by omega⟩) (congrArg (Value.int .i64) (by omega))) ?_
   refine go 4 ?_
   exact q_next3 (i) (j - i) (swpN k (m - i) (m + j - i) i) ⟨by omega, by omega, by omega, by omega, (swpN_len _ _ _ _).trans hkl, fun q => (rot_lt (by omega) (by omega) (swpN_get _ (by omega) (by omega)) q).trans (hk q)⟩ (by omega) rfl sb rfl
 ·obtain rfl : i = j := by have := p20; omega
  refine go 9 ?_
  refine o_v rfl (OV.cast (u := .int .i64 ((m - i : Nat) : Int)) (v_sub rfl rfl ⟨by omega, by omega⟩) (congrArg (Value.int .i64) (by omega))) ?_
  refine go 4 ?_
  refine o_callM (swapRangeP _ k N (by omega) g (m - i) m i f (by omega) (by omega) (by omega)) rfl rfl ?_
  refine go 1 ?_
  refine end0 rfl ?_
  exact q_x ⟨rfl, swpN k (m - i) m i, rfl, (swpN_len _ _ _ _).trans hkl, fun q => (rot_eq him (swpN_get _ (by omega) (by omega)) q).trans (hk q)⟩

theorem symMergeWP (I : IMap) {rest : Rst 15} {cap : Nat} (N g : Nat) (f : FuncId) (hp : ∀ x y : Pkd, FnV Tryz.prog f #[.agg (Day.ch x).toArray, .agg (Day.ch y).toArray] I (.int .i64 ((Day.day x - Day.day y)))) (hN0 : N ≤ 1000000) (W : Nat) (ih : ∀ (l : List Pkd) (a m b : Nat), l.length = N → b - a < W → a < m → m < b → b ≤ l.length → SrtD l a m → SrtD l m b → FnX Tryz.prog 160 #[.slice (some ⟨g, 0, none⟩) N cap, .int .i64 ((a : Nat) : Int), .int .i64 ((m : Nat) : Int), .int .i64 ((b : Nat) : Int), .func (.func f) #[] #[]] I [.blk g 142 (evCh (l) ++ rest.l).flatten] (fun u r => u = .tuple #[] ∧ ∃ m, r = .blk g 142 (evCh (m) ++ rest.l).flatten ∧ Seg l m a b)) (l : List Pkd) (a m b : Nat) (hN : l.length = N) (hW : b - a ≤ W) (ham : a < m) (hmb : m < b) (hb : b ≤ l.length) (m1 : SrtD l a m) (m2 : SrtD l m b) :
    FnX Tryz.prog 160 #[.slice (some ⟨g, 0, none⟩) N cap, .int .i64 ((a : Nat) : Int), .int .i64 ((m : Nat) : Int), .int .i64 ((b : Nat) : Int), .func (.func f) #[] #[]] I [.blk g 142 (evCh (l) ++ rest.l).flatten] (fun u r => u = .tuple #[] ∧ ∃ m, r = .blk g 142 (evCh (m) ++ rest.l).flatten ∧ Seg l m a b) := by
 refine enter Tryz.func160 Tryz.call160 rfl Tryz.ntmps160 rfl (fun w0 => ?_)
 refine go 5 ?_
 refine o_v rfl (OV.cast (u := .int .i64 ((m - a : Nat) : Int)) (v_sub rfl rfl ⟨by omega, by omega⟩) (congrArg (Value.int .i64) (by omega))) ?_
 refine go 3 ?_
 refine cb rfl (fun h28 p28 => ?_) (fun h28 p28 => ?_)
 ·obtain rfl : m = a + 1 := by omega
  refine go 14 ?_
  refine c_loop2 (a + 1) (b) (fun i j => I)
   (fun i j => [(0, .slice (some ⟨g, 0, none⟩) N cap), (1, .int .i64 ((a : Nat) : Int)), (2, .int .i64 ((a + 1 : Nat) : Int)), (3, .int .i64 ((b : Nat) : Int)), (4, .func (.func f) #[] #[]), (10, .int .i64 ((i : Nat) : Int)), (11, .int .i64 ((j : Nat) : Int))])
   (fun i j => [.blk g 142 (evCh (l) ++ rest.l).flatten])
   (fun i j => a + 1 ≤ i ∧ i ≤ j ∧ j ≤ b ∧ (∀ q, a + 1 ≤ q → q < i → dayAt l q < dayAt l a) ∧ (∀ q, j ≤ q → q < b → dayAt l a ≤ dayAt l q))
   (fun i j => j - i) ⟨by omega, by omega, by omega, fun q _ _ => by omega, fun q _ _ => by omega⟩ rfl sb rfl ?_
  intro i j ⟨hi1, hij, hjb, hlo, hhi⟩
  refine go 8 ?_
  refine cb rfl (fun h33 p33 => ?_) (fun h33 p33 => ?_)
  ·have hh : (i + j) / 2 < l.length := by omega
   have ha0 : a < l.length := by omega
   refine go 8 ?_
   refine o_v rfl (v_conv he he rfl (m := (i : Int) + (j : Int)) (wrap_u64 _ (by omega) (by omega))) ?_
   refine o_v rfl (v_shr1 rfl (by decide)) ?_
   refine o_v rfl (v_conv he he rfl (m := (((i + j) / 2 : Nat) : Int)) (by rw [IntKind.wrap_i64]; omega)) ?_
   refine go 4 ?_
   refine d_startH T.mixed ?_
   refine d_tv 0 rfl rfl (by kernel_rfl) rfl (.refl _) rfl (v_move rfl) ?_
   refine d_tv 1 rfl rfl (by kernel_rfl) rfl (.refl _) rfl (v_move rfl) ?_
   refine d_tv 2 rfl rfl (by kernel_rfl) rfl (.refl _) rfl (v_move rfl) ?_
   refine d_tv 3 rfl rfl (by kernel_rfl) rfl (.refl _) rfl (v_idx he rfl rfl rfl ((i + j) / 2) (by omega) (by omega)) ?_
   refine d_tv 4 rfl rfl (by kernel_rfl) rfl (.refl _) rfl (v_ldc m0 ((evCh_ukP _).append rest.uk) he rfl ((i + j) / 2) (by omega) (evCh_restP hh)) ?_
   refine d_tv 5 rfl rfl (by kernel_rfl) rfl (.refl _) rfl (v_move rfl) ?_
   refine d_tv 6 rfl rfl (by kernel_rfl) rfl (.refl _) rfl (v_move rfl) ?_
   refine d_tv 7 rfl rfl (by kernel_rfl) rfl (.refl _) rfl (v_idx he rfl rfl rfl (a) (by omega) (by omega)) ?_
   refine d_tv 8 rfl rfl (by kernel_rfl) rfl (.refl _) rfl (v_ldc m0 ((evCh_ukP _).append rest.uk) he rfl (a) (by omega) (evCh_restP ha0)) ?_
   refine d_one 9 (by kernel_rfl) rfl ?_
   refine o_callV (hp _ _) rfl rfl ?_
   refine d_on (fun _ m => m.keeps (.refl _)) ?_
   refine d_tv 10 rfl rfl (by kernel_rfl) rfl (.refl _) rfl (v_lss rfl rfl) ?_
   refine d_done (by kernel_rfl) ?_
   refine go 1 ?_
   refine cb rfl (fun h50 p50 => ?_) (fun h50 p50 => ?_)
   ·refine go 7 ?_
    exact q_next2 ((i + j) / 2 + 1) (j) ⟨by omega, by omega, by omega, fun q q1 q2 => by have := m2.le (p := q) (q := (i + j) / 2) q1 (by omega) (by omega); have := day_ltP p50; omega, hhi⟩ (by omega) rfl sb rfl
   ·refine go 6 ?_
    exact q_next2 (i) ((i + j) / 2) ⟨by omega, by omega, by omega, hlo, fun q q1 q2 => by have := m2.le (p := (i + j) / 2) (q := q) (by omega) q1 q2; have := day_geP p50; omega⟩ (by omega) rfl sb rfl
  ·obtain rfl : i = j := by omega
   refine go 13 ?_
   refine c_loop (α := Nat) 0 (fun t => I)
    (fun t => [(0, .slice (some ⟨g, 0, none⟩) N cap), (1, .int .i64 ((a : Nat) : Int)), (2, .int .i64 ((a + 1 : Nat) : Int)), (3, .int .i64 ((b : Nat) : Int)), (4, .func (.func f) #[] #[]), (10, .int .i64 ((i : Nat) : Int)), (13, .int .i64 ((a + t : Nat) : Int))])
    (fun t => [.blk g 142 (evCh (bub l a t) ++ rest.l).flatten])
    (fun t => a + t + 1 ≤ i)
    (fun t => i - t) (by omega) rfl sb rfl ?_
   intro t ht
   refine go 5 ?_
   refine o_v rfl (OV.cast (u := .int .i64 ((i - 1 : Nat) : Int)) (v_sub rfl rfl ⟨by omega, by omega⟩) (congrArg (Value.int .i64) (by omega))) ?_
   refine go 3 ?_
   refine cb rfl (fun h58 p58 => ?_) (fun h58 p58 => ?_)
   ·have hbl := bub_len l a t
    have hk1 : a + t < (bub l a t).length := by omega
    have hk2 : a + t + 1 < (bub l a t).length := by omega
    refine go 4 ?_
    refine d_start1 T.mixed ?_
    refine d_tv 0 rfl rfl (by kernel_rfl) rfl (.cons _ .slnil) rfl (v_move rfl) ?_
    refine d_tv 1 rfl rfl (by kernel_rfl) rfl (.cons _ .slnil) rfl (v_move rfl) ?_
    refine d_tv 2 rfl rfl (by kernel_rfl) rfl (.cons _ .slnil) rfl (v_move rfl) ?_
    refine d_tv 3 rfl rfl (by kernel_rfl) rfl (.cons _ .slnil) rfl (v_move rfl) ?_
    refine d_tv 4 rfl rfl (by kernel_rfl) rfl (.cons _ .slnil) rfl (OV.cast (u := .int .i64 ((a + t + 1 : Nat) : Int)) (v_add rfl rfl ⟨by omega, by omega⟩) (congrArg (Value.int .i64) (by omega))) ?_
    refine d_tv 5 rfl rfl (by kernel_rfl) rfl (.cons _ .slnil) rfl (v_move rfl) ?_
    refine d_tv 6 rfl rfl (by kernel_rfl) rfl (.cons _ .slnil) rfl (v_move rfl) ?_
    refine d_tv 7 rfl rfl (by kernel_rfl) rfl (.cons _ .slnil) rfl (OV.cast (u := .int .i64 ((a + t + 1 : Nat) : Int)) (v_add rfl rfl ⟨by omega, by omega⟩) (congrArg (Value.int .i64) (by omega))) ?_
    refine d_tv 8 rfl rfl (by kernel_rfl) rfl (.cons _ .slnil) rfl (v_idx he rfl rfl rfl (a + t + 1) (by omega) (by omega)) ?_
    refine d_tv 10 rfl rfl (by kernel_rfl) rfl (.cons _ .slnil) rfl (v_move rfl) ?_
    refine d_tv 11 rfl rfl (by kernel_rfl) rfl (.cons _ .slnil) rfl (v_move rfl) ?_
    refine d_tv 12 rfl rfl (by kernel_rfl) rfl (.cons _ .slnil) rfl (v_idx he rfl rfl rfl (a + t) (by omega) (by omega)) ?_
    refine d_two 9 13 (by kernel_rfl) rfl rfl ?_ ?_
    ·refine o_val rfl (v_ldc m0 ((evCh_ukP _).append rest.uk) he rfl (a + t + 1) (by omega) (evCh_restP hk2)) ?_
     refine d_on (fun _ m => m.keeps (.cons _ .slnil)) ?_
     refine d_one 13 (by kernel_rfl) rfl ?_
     refine o_val rfl (v_ldc m0 ((evCh_ukP _).append rest.uk) he rfl (a + t) (by omega) (evCh_restP hk1)) ?_
     refine d_on (fun _ m => m.keeps (.cons _ .slnil)) ?_
     refine d_tv 14 rfl rfl (by kernel_rfl) rfl (.cons _ .slnil) rfl (v_idx he rfl rfl rfl (a + t) (by omega) (by omega)) ?_
     refine d_one 15 (by kernel_rfl) rfl ?_
     refine o_stc _ (a + t) (by first | exact (evCh_ukP _).append rest.uk | exact ((evCh_ukP _).append rest.uk).set rfl _) he rfl rfl rfl rfl rfl (by omega) (by simp [evCh_len]; omega) ?_
     refine d_on (fun _ m => m.keeps (.cons _ .slnil)) ?_
     refine d_tv 16 rfl rfl (by kernel_rfl) rfl (.cons _ .slnil) rfl (v_idx he rfl rfl rfl (a + t + 1) (by omega) (by omega)) ?_
     refine d_one 17 (by kernel_rfl) rfl ?_
     refine o_stc _ (a + t + 1) (by first | exact (evCh_ukP _).append rest.uk | exact ((evCh_ukP _).append rest.uk).set rfl _) he rfl rfl rfl rfl rfl (by omega) (by simp [evCh_len]; omega) ?_
     refine d_on (fun _ m => m.keeps (.cons _ .slnil)) ?_
     refine d_done (by kernel_rfl) ?_
     refine go 4 ?_
     refine o_v rfl (OV.cast (u := .int .i64 ((a + (t + 1) : Nat) : Int)) (v_add rfl rfl ⟨by omega, by omega⟩) (congrArg (Value.int .i64) (by omega))) ?_
     refine go 3 ?_
     exact q_next (t + 1) (by omega) (by omega) rfl sb (by rw [bub]; first | rw [← evCh_swpR hk1 hk2] | rw [← evCh_swpR' hk1 hk2 (by omega)])
    ·refine o_val rfl (v_ldc m0 ((evCh_ukP _).append rest.uk) he rfl (a + t) (by omega) (evCh_restP hk1)) ?_
     refine d_on (fun _ m => m.keeps (.cons _ .slnil)) ?_
     refine d_one 9 (by kernel_rfl) rfl ?_
     refine o_val rfl (v_ldc m0 ((evCh_ukP _).append rest.uk) he rfl (a + t + 1) (by omega) (evCh_restP hk2)) ?_
     refine d_on (fun _ m => m.keeps (.cons _ .slnil)) ?_
     refine d_tv 14 rfl rfl (by kernel_rfl) rfl (.cons _ .slnil) rfl (v_idx he rfl rfl rfl (a + t) (by omega) (by omega)) ?_
     refine d_one 15 (by kernel_rfl) rfl ?_
     refine o_stc _ (a + t) (by first | exact (evCh_ukP _).append rest.uk | exact ((evCh_ukP _).append rest.uk).set rfl _) he rfl rfl rfl rfl rfl (by omega) (by simp [evCh_len]; omega) ?_
     refine d_on (fun _ m => m.keeps (.cons _ .slnil)) ?_
     refine d_tv 16 rfl rfl (by kernel_rfl) rfl (.cons _ .slnil) rfl (v_idx he rfl rfl rfl (a + t + 1) (by omega) (by omega)) ?_
     refine d_one 17 (by kernel_rfl) rfl ?_
     refine o_stc _ (a + t + 1) (by first | exact (evCh_ukP _).append rest.uk | exact ((evCh_ukP _).append rest.uk).set rfl _) he rfl rfl rfl rfl rfl (by omega) (by simp [evCh_len]; omega) ?_
     refine d_on (fun _ m => m.keeps (.cons _ .slnil)) ?_
     refine d_done (by kernel_rfl) ?_
     refine go 4 ?_
     refine o_v rfl (OV.cast (u := .int .i64 ((a + (t + 1) : Nat) : Int)) (v_add rfl rfl ⟨by omega, by omega⟩) (congrArg (Value.int .i64) (by omega))) ?_
     refine go 3 ?_
     exact q_next (t + 1) (by omega) (by omega) rfl sb (by rw [bub]; first | rw [← evCh_swpR hk1 hk2] | rw [← evCh_swpR' hk1 hk2 (by omega)])
   ·refine go 7 ?_
    refine fin0 rfl ?_
    exact q_x ⟨rfl, _, rfl, (show i - 1 - a = t by omega) ▸ merge_up m2 hi1 hjb hb hlo hhi⟩
 ·have hma : a + 2 ≤ m := by omega
  refine go 7 ?_
  refine o_v rfl (OV.cast (u := .int .i64 ((b - m : Nat) : Int)) (v_sub rfl rfl ⟨by omega, by omega⟩) (congrArg (Value.int .i64) (by omega))) ?_
  refine go 3 ?_
  refine cb rfl (fun h80 p80 => ?_) (fun h80 p80 => ?_)
  ·obtain rfl : b = m + 1 := by omega
   refine go 14 ?_
   refine c_loop2 (a) (m) (fun i j => I)
    (fun i j => [(0, .slice (some ⟨g, 0, none⟩) N cap), (1, .int .i64 ((a : Nat) : Int)), (2, .int .i64 ((m : Nat) : Int)), (3, .int .i64 ((m + 1 : Nat) : Int)), (4, .func (.func f) #[] #[]), (14, .int .i64 ((i : Nat) : Int)), (15, .int .i64 ((j : Nat) : Int))])
    (fun i j => [.blk g 142 (evCh (l) ++ rest.l).flatten])
    (fun i j => a ≤ i ∧ i ≤ j ∧ j ≤ m ∧ (∀ q, a ≤ q → q < i → dayAt l q ≤ dayAt l m) ∧ (∀ q, j ≤ q → q < m → dayAt l m < dayAt l q))
    (fun i j => j - i) ⟨by omega, by omega, by omega, fun q _ _ => by omega, fun q _ _ => by omega⟩ rfl sb rfl ?_
   intro i j ⟨hi1, hij, hjb, hlo, hhi⟩
   refine go 8 ?_
   refine cb rfl (fun h85 p85 => ?_) (fun h85 p85 => ?_)
   ·have hh : (i + j) / 2 < l.length := by omega
    have hm0 : m < l.length := by omega
    refine go 8 ?_
    refine o_v rfl (v_conv he he rfl (m := (i : Int) + (j : Int)) (wrap_u64 _ (by omega) (by omega))) ?_
    refine o_v rfl (v_shr1 rfl (by decide)) ?_
    refine o_v rfl (v_conv he he rfl (m := (((i + j) / 2 : Nat) : Int)) (by rw [IntKind.wrap_i64]; omega)) ?_
    refine go 4 ?_
    refine d_startH T.mixed ?_
    refine d_tv 0 rfl rfl (by kernel_rfl) rfl (.refl _) rfl (v_move rfl) ?_
    refine d_tv 1 rfl rfl (by kernel_rfl) rfl (.refl _) rfl (v_move rfl) ?_
    refine d_tv 2 rfl rfl (by kernel_rfl) rfl (.refl _) rfl (v_move rfl) ?_
    refine d_tv 3 rfl rfl (by kernel_rfl) rfl (.refl _) rfl (v_idx he rfl rfl rfl (m) (by omega) (by omega)) ?_
    refine d_tv 4 rfl rfl (by kernel_rfl) rfl (.refl _) rfl (v_ldc m0 ((evCh_ukP _).append rest.uk) he rfl (m) (by omega) (evCh_restP hm0)) ?_
    refine d_tv 5 rfl rfl (by kernel_rfl) rfl (.refl _) rfl (v_move rfl) ?_
    refine d_tv 6 rfl rfl (by kernel_rfl) rfl (.refl _) rfl (v_move rfl) ?_
    refine d_tv 7 rfl rfl (by kernel_rfl) rfl (.refl _) rfl (v_idx he rfl rfl rfl ((i + j) / 2) (by omega) (by omega)) ?_
    refine d_tv 8 rfl rfl (by kernel_rfl) rfl (.refl _) rfl (v_ldc m0 ((evCh_ukP _).append rest.uk) he rfl ((i + j) / 2) (by omega) (evCh_restP hh)) ?_
    refine d_one 9 (by kernel_rfl) rfl ?_
    refine o_callV (hp _ _) rfl rfl ?_
    refine d_on (fun _ m => m.keeps (.refl _)) ?_
    refine d_tv 10 rfl rfl (by kernel_rfl) rfl (.refl _) rfl (v_lss rfl rfl) ?_
    refine d_tv 11 rfl rfl (by kernel_rfl) rfl (.refl _) rfl (v_not rfl) ?_
    refine d_done (by kernel_rfl) ?_
    refine go 1 ?_
    refine cb rfl (fun h103 p103 => ?_) (fun h103 p103 => ?_)
    ·refine go 7 ?_
     exact q_next2 ((i + j) / 2 + 1) (j) ⟨by omega, by omega, by omega, fun q q1 q2 => by have := m1.le (p := q) (q := (i + j) / 2) q1 (by omega) (by omega); have := day_geP p103; omega, hhi⟩ (by omega) rfl sb rfl
    ·refine go 6 ?_
     exact q_next2 (i) ((i + j) / 2) ⟨by omega, by omega, by omega, hlo, fun q q1 q2 => by have := m1.le (p := (i + j) / 2) (q := q) (by omega) q1 q2; have := day_ltP p103; omega⟩ (by omega) rfl sb rfl
   ·obtain rfl : i = j := by omega
    refine go 13 ?_
    refine c_loop (α := Nat) 0 (fun t => I)
     (fun t => [(0, .slice (some ⟨g, 0, none⟩) N cap), (1, .int .i64 ((a : Nat) : Int)), (2, .int .i64 ((m : Nat) : Int)), (3, .int .i64 ((m + 1 : Nat) : Int)), (4, .func (.func f) #[] #[]), (14, .int .i64 ((i : Nat) : Int)), (17, .int .i64 ((m - t : Nat) : Int))])
     (fun t => [.blk g 142 (evCh (bud l m t) ++ rest.l).flatten])
     (fun t => t + i ≤ m)
     (fun t => m - t) (by omega) rfl ⟨rfl, rfl, rfl, rfl, rfl, rfl, congrArg (fun z : Int => some (Value.int .i64 z)) (by omega), trivial⟩ rfl ?_
    intro t ht
    refine go 8 ?_
    refine cb rfl (fun h110 p110 => ?_) (fun h110 p110 => ?_)
    ·have hbl := bud_len l m t
     have hk1 : m - t < (bud l m t).length := by omega
     have hk2 : m - t - 1 < (bud l m t).length := by omega
     refine go 4 ?_
     refine d_start1 T.mixed ?_
     refine d_tv 0 rfl rfl (by kernel_rfl) rfl (.cons _ .slnil) rfl (v_move rfl) ?_
     refine d_tv 1 rfl rfl (by kernel_rfl) rfl (.cons _ .slnil) rfl (v_move rfl) ?_
     refine d_tv 2 rfl rfl (by kernel_rfl) rfl (.cons _ .slnil) rfl (v_move rfl) ?_
     refine d_tv 3 rfl rfl (by kernel_rfl) rfl (.cons _ .slnil) rfl (v_move rfl) ?_
     refine d_tv 4 rfl rfl (by kernel_rfl) rfl (.cons _ .slnil) rfl (OV.cast (u := .int .i64 ((m - t - 1 : Nat) : Int)) (v_sub rfl rfl ⟨by omega, by omega⟩) (congrArg (Value.int .i64) (by omega))) ?_
     refine d_tv 5 rfl rfl (by kernel_rfl) rfl (.cons _ .slnil) rfl (v_move rfl) ?_
     refine d_tv 6 rfl rfl (by kernel_rfl) rfl (.cons _ .slnil) rfl (v_move rfl) ?_
     refine d_tv 7 rfl rfl (by kernel_rfl) rfl (.cons _ .slnil) rfl (OV.cast (u := .int .i64 ((m - t - 1 : Nat) : Int)) (v_sub rfl rfl ⟨by omega, by omega⟩) (congrArg (Value.int .i64) (by omega))) ?_
     refine d_tv 8 rfl rfl (by kernel_rfl) rfl (.cons _ .slnil) rfl (v_idx he rfl rfl rfl (m - t - 1) (by omega) (by omega)) ?_
     refine d_tv 10 rfl rfl (by kernel_rfl) rfl (.cons _ .slnil) rfl (v_move rfl) ?_
     refine d_tv 11 rfl rfl (by kernel_rfl) rfl (.cons _ .slnil) rfl (v_move rfl) ?_
     refine d_tv 12 rfl rfl (by kernel_rfl) rfl (.cons _ .slnil) rfl (v_idx he rfl rfl rfl (m - t) (by omega) (by omega)) ?_
     refine d_two 9 13 (by kernel_rfl) rfl rfl ?_ ?_
     ·refine o_val rfl (v_ldc m0 ((evCh_ukP _).append rest.uk) he rfl (m - t - 1) (by omega) (evCh_restP hk2)) ?_
      refine d_on (fun _ m => m.keeps (.cons _ .slnil)) ?_
      refine d_one 13 (by kernel_rfl) rfl ?_
      refine o_val rfl (v_ldc m0 ((evCh_ukP _).append rest.uk) he rfl (m - t) (by omega) (evCh_restP hk1)) ?_
      refine d_on (fun _ m => m.keeps (.cons _ .slnil)) ?_
      refine d_tv 14 rfl rfl (by kernel_rfl) rfl (.cons _ .slnil) rfl (v_idx he rfl rfl rfl (m - t) (by omega) (by omega)) ?_
      refine d_one 15 (by kernel_rfl) rfl ?_
      refine o_stc _ (m - t) (by first | exact (evCh_ukP _).append rest.uk | exact ((evCh_ukP _).append rest.uk).set rfl _) he rfl rfl rfl rfl rfl (by omega) (by simp [evCh_len]; omega) ?_
      refine d_on (fun _ m => m.keeps (.cons _ .slnil)) ?_
      refine d_tv 16 rfl rfl (by kernel_rfl) rfl (.cons _ .slnil) rfl (v_idx he rfl rfl rfl (m - t - 1) (by omega) (by omega)) ?_
      refine d_one 17 (by kernel_rfl) rfl ?_
      refine o_stc _ (m - t - 1) (by first | exact (evCh_ukP _).append rest.uk | exact ((evCh_ukP _).append rest.uk).set rfl _) he rfl rfl rfl rfl rfl (by omega) (by simp [evCh_len]; omega) ?_
      refine d_on (fun _ m => m.keeps (.cons _ .slnil)) ?_
      refine d_done (by kernel_rfl) ?_
      refine go 4 ?_
      refine o_v rfl (OV.cast (u := .int .i64 ((m - (t + 1) : Nat) : Int)) (v_sub rfl rfl ⟨by omega, by omega⟩) (congrArg (Value.int .i64) (by omega))) ?_
      refine go 3 ?_
      exact q_next (t + 1) (by omega) (by omega) rfl sb (by rw [bud]; first | rw [← evCh_swpR hk1 hk2] | rw [← evCh_swpR' hk1 hk2 (by omega)])
     ·refine o_val rfl (v_ldc m0 ((evCh_ukP _).append rest.uk) he rfl (m - t) (by omega) (evCh_restP hk1)) ?_
      refine d_on (fun _ m => m.keeps (.cons _ .slnil)) ?_
      refine d_one 9 (by kernel_rfl) rfl ?_
      refine o_val rfl (v_ldc m0 ((evCh_ukP _).append rest.uk) he rfl (m - t - 1) (by omega) (evCh_restP hk2)) ?_
      refine d_on (fun _ m => m.keeps (.cons _ .slnil)) ?_
      refine d_tv 14 rfl rfl (by kernel_rfl) rfl (.cons _ .slnil) rfl (v_idx he rfl rfl rfl (m - t) (by omega) (by omega)) ?_
      refine d_one 15 (by kernel_rfl) rfl ?_
      refine o_stc _ (m - t) (by first | exact (evCh_ukP _).append rest.uk | exact ((evCh_ukP _).append rest.uk).set rfl _) he rfl rfl rfl rfl rfl (by omega) (by simp [evCh_len]; omega) ?_
      refine d_on (fun _ m => m.keeps (.cons _ .slnil)) ?_
      refine d_tv 16 rfl rfl (by kernel_rfl) rfl (.cons _ .slnil) rfl (v_idx he rfl rfl rfl (m - t - 1) (by omega) (by omega)) ?_
      refine d_one 17 (by kernel_rfl) rfl ?_
      refine o_stc _ (m - t - 1) (by first | exact (evCh_ukP _).append rest.uk | exact ((evCh_ukP _).append rest.uk).set rfl _) he rfl rfl rfl rfl rfl (by omega) (by simp [evCh_len]; omega) ?_
      refine d_on (fun _ m => m.keeps (.cons _ .slnil)) ?_
      refine d_done (by kernel_rfl) ?_
      refine go 4 ?_
      refine o_v rfl (OV.cast (u := .int .i64 ((m - (t + 1) : Nat) : Int)) (v_sub rfl rfl ⟨by omega, by omega⟩) (congrArg (Value.int .i64) (by omega))) ?_
      refine go 3 ?_
      exact q_next (t + 1) (by omega) (by omega) rfl sb (by rw [bud]; first | rw [← evCh_swpR hk1 hk2] | rw [← evCh_swpR' hk1 hk2 (by omega)])
    ·refine go 7 ?_
     refine fin0 rfl ?_
     exact q_x ⟨rfl, _, rfl, (show m - i = t by omega) ▸ merge_down m1 hi1 hjb (by omega) hlo hhi⟩
  ·have hmb2 : m + 2 ≤ b := by omega
   refine go 7 ?_
   refine o_v rfl (v_conv he he rfl (m := (a : Int) + (b : Int)) (wrap_u64 _ (by omega) (by omega))) ?_
   refine o_v rfl (v_shr1 rfl (by decide)) ?_
   refine o_v rfl (v_conv he he rfl (m := (((a + b) / 2 : Nat) : Int)) (by rw [IntKind.wrap_i64]; omega)) ?_
   refine go 7 ?_
   refine o_v rfl (OV.cast (u := .int .i64 ((((a + b) / 2) + m : Nat) : Int)) (v_add rfl rfl ⟨by omega, by omega⟩) (congrArg (Value.int .i64) (by omega))) ?_
   refine go 10 ?_
   refine c_cutx2 (Ix := (fun S R => I)) (Lx := (fun S R => [(0, .slice (some ⟨g, 0, none⟩) N cap), (1, .int .i64 ((a : Nat) : Int)), (2, .int .i64 ((m : Nat) : Int)), (3, .int .i64 ((b : Nat) : Int)), (4, .func (.func f) #[] #[]), (18, .int .i64 ((((a + b) / 2) : Nat) : Int)), (19, .int .i64 ((((a + b) / 2) + m : Nat) : Int)), (20, .int .i64 ((S : Nat) : Int)), (21, .int .i64 ((R : Nat) : Int))])) (Hx := (fun S R => [.blk g 142 (evCh (l) ++ rest.l).flatten])) (p := (fun S R => (((a + b) / 2) < m ∧ S = ((a + b) / 2) + m - b ∧ R = ((a + b) / 2)) ∨ (m ≤ ((a + b) / 2) ∧ S = a ∧ R = m))) ?_ ?_
   ·refine go 7 ?_
    refine cb rfl (fun h140 p140 => ?_) (fun h140 p140 => ?_)
    ·refine go 4 ?_
     refine o_v rfl (OV.cast (u := .int .i64 ((((a + b) / 2) + m - b : Nat) : Int)) (v_sub rfl rfl ⟨by omega, by omega⟩) (congrArg (Value.int .i64) (by omega))) ?_
     refine go 8 ?_
     exact q_cutx2 (((a + b) / 2) + m - b) (((a + b) / 2)) (.inl ⟨by omega, rfl, rfl⟩) sb rfl rfl
    ·refine go 11 ?_
     exact q_cutx2 (a) (m) (.inr ⟨by omega, rfl, rfl⟩) sb rfl rfl
   ·intro S R hS
    refine go 3 ?_
    refine o_v rfl (OV.cast (u := .int .i64 ((((a + b) / 2) + m - 1 : Nat) : Int)) (v_sub rfl rfl ⟨by omega, by omega⟩) (congrArg (Value.int .i64) (by omega))) ?_
    refine go 5 ?_
    refine c_loop2 (S) (R) (fun s r => I)
     (fun s r => [(0, .slice (some ⟨g, 0, none⟩) N cap), (1, .int .i64 ((a : Nat) : Int)), (2, .int .i64 ((m : Nat) : Int)), (3, .int .i64 ((b : Nat) : Int)), (4, .func (.func f) #[] #[]), (18, .int .i64 ((((a + b) / 2) : Nat) : Int)), (19, .int .i64 ((((a + b) / 2) + m : Nat) : Int)), (20, .int .i64 ((s : Nat) : Int)), (21, .int .i64 ((r : Nat) : Int)), (22, .int .i64 ((((a + b) / 2) + m - 1 : Nat) : Int))])
     (fun s r => [.blk g 142 (evCh (l) ++ rest.l).flatten])
     (fun s r => S ≤ s ∧ s ≤ r ∧ r ≤ R ∧ (∀ q, S ≤ q → q < s → dayAt l q ≤ dayAt l (((a + b) / 2) + m - 1 - q)) ∧ (∀ q, r ≤ q → q < R → dayAt l (((a + b) / 2) + m - 1 - q) < dayAt l q))
     (fun s r => r - s) ⟨by omega, by omega, by omega, fun q _ _ => by omega, fun q _ _ => by omega⟩ rfl sb rfl ?_
    intro s r ⟨hs1, hsr, hrR, hlo, hhi⟩
    refine go 8 ?_
    refine cb rfl (fun h151 p151 => ?_) (fun h151 p151 => ?_)
    ·have hh : (s + r) / 2 < l.length := by omega
     have hh2 : ((a + b) / 2) + m - 1 - (s + r) / 2 < l.length := by omega
     refine go 8 ?_
     refine o_v rfl (v_conv he he rfl (m := (s : Int) + (r : Int)) (wrap_u64 _ (by omega) (by omega))) ?_
     refine o_v rfl (v_shr1 rfl (by decide)) ?_
     refine o_v rfl (v_conv he he rfl (m := (((s + r) / 2 : Nat) : Int)) (by rw [IntKind.wrap_i64]; omega)) ?_
     refine go 4 ?_
     refine d_startH T.mixed ?_
     refine d_tv 0 rfl rfl (by kernel_rfl) rfl (.refl _) rfl (v_move rfl) ?_
     refine d_tv 1 rfl rfl (by kernel_rfl) rfl (.refl _) rfl (v_move rfl) ?_
     refine d_tv 2 rfl rfl (by kernel_rfl) rfl (.refl _) rfl (v_move rfl) ?_
     refine d_tv 3 rfl rfl (by kernel_rfl) rfl (.refl _) rfl (v_move rfl) ?_
     refine d_tv 4 rfl rfl (by kernel_rfl) rfl (.refl _) rfl (OV.cast (u := .int .i64 ((((a + b) / 2) + m - 1 - (s + r) / 2 : Nat) : Int)) (v_sub rfl rfl ⟨by omega, by omega⟩) (congrArg (Value.int .i64) (by omega))) ?_
     refine d_tv 5 rfl rfl (by kernel_rfl) rfl (.refl _) rfl (v_idx he rfl rfl rfl (((a + b) / 2) + m - 1 - (s + r) / 2) (by omega) (by omega)) ?_
     refine d_tv 6 rfl rfl (by kernel_rfl) rfl (.refl _) rfl (v_ldc m0 ((evCh_ukP _).append rest.uk) he rfl (((a + b) / 2) + m - 1 - (s + r) / 2) (by omega) (evCh_restP hh2)) ?_
     refine d_tv 7 rfl rfl (by kernel_rfl) rfl (.refl _) rfl (v_move rfl) ?_
     refine d_tv 8 rfl rfl (by kernel_rfl) rfl (.refl _) rfl (v_move rfl) ?_
     refine d_tv 9 rfl rfl (by kernel_rfl) rfl (.refl _) rfl (v_idx he rfl rfl rfl ((s + r) / 2) (by omega) (by omega)) ?_
     refine d_tv 10 rfl rfl (by kernel_rfl) rfl (.refl _) rfl (v_ldc m0 ((evCh_ukP _).append rest.uk) he rfl ((s + r) / 2) (by omega) (evCh_restP hh)) ?_
     refine d_one 11 (by kernel_rfl) rfl ?_
     refine o_callV (hp _ _) rfl rfl ?_
     refine d_on (fun _ m => m.keeps (.refl _)) ?_
     refine d_tv 12 rfl rfl (by kernel_rfl) rfl (.refl _) rfl (v_lss rfl rfl) ?_
     refine d_tv 13 rfl rfl (by kernel_rfl) rfl (.refl _) rfl (v_not rfl) ?_
     refine d_done (by kernel_rfl) ?_
     refine go 1 ?_
     refine cb rfl (fun h171 p171 => ?_) (fun h171 p171 => ?_)
     ·refine go 7 ?_
      exact q_next2 ((s + r) / 2 + 1) (r) ⟨by omega, by omega, by omega, spl_up m1 m2 ham hmb rfl hS (h := (s + r) / 2) (r := r) (by omega) (by omega) hrR (day_geP p171), hhi⟩ (by omega) rfl sb rfl
     ·refine go 6 ?_
      exact q_next2 (s) ((s + r) / 2) ⟨by omega, by omega, by omega, hlo, spl_dn m1 m2 ham hmb rfl hS (h := (s + r) / 2) (s := s) hs1 (by omega) (by omega) (day_ltP p171)⟩ (by omega) rfl sb rfl
    ·obtain rfl : s = r := by omega
     obtain ⟨hx, hy⟩ := spl_fin m1 m2 ham hmb rfl hS hs1 hrR hlo hhi
     have g0 : a ≤ s := by omega
     have g1 : s ≤ m := by omega
     have g2 : m ≤ ((a + b) / 2 + m - s) := by omega
     have g3 : ((a + b) / 2 + m - s) ≤ b := by omega
     have hc : s + (((a + b) / 2 + m - s) - m) = ((a + b) / 2) := by omega
     refine go 9 ?_
     refine o_v rfl (OV.cast (u := .int .i64 ((((a + b) / 2 + m - s) : Nat) : Int)) (v_sub rfl rfl ⟨by omega, by omega⟩) (congrArg (Value.int .i64) (by omega))) ?_
     refine go 4 ?_
     refine c_cutx (α := List Pkd) (Ix := (fun k => I)) (Lx := (fun k => [(0, .slice (some ⟨g, 0, none⟩) N cap), (1, .int .i64 ((a : Nat) : Int)), (2, .int .i64 ((m : Nat) : Int)), (3, .int .i64 ((b : Nat) : Int)), (4, .func (.func f) #[] #[]), (18, .int .i64 ((((a + b) / 2) : Nat) : Int)), (20, .int .i64 ((s : Nat) : Int)), (24, .int .i64 ((((a + b) / 2 + m - s) : Nat) : Int))])) (Hx := (fun k => [.blk g 142 (evCh (k) ++ rest.l).flatten])) (p := (fun k => Rot l k a s m ((a + b) / 2 + m - s) b)) ?_ ?_
     ·refine go 6 ?_
      refine sxb 181 rfl (fun h181 p181 => ?_) (fun h181 p181 => ?_)
      ·refine go 6 ?_
       refine cb rfl (fun h185 p185 => ?_) (fun h185 p185 => ?_)
       ·refine go 7 ?_
        refine o_callX1 (rotateP _ l N hN g s m ((a + b) / 2 + m - s) f (by omega) (by omega) (by omega) (by omega)) rfl rfl (fun v191 s191 q191 => ?_)
        obtain ⟨rfl, k, rfl, hkl, hk⟩ := q191
        refine go 2 ?_
        exact q_cutx k (Rot.of g1 g2 (by omega) hkl hk hx) sb rfl rfl
       ·refine go 2 ?_
        exact q_cutx l (Rot.id (by omega) g1 g2) sb rfl rfl
      ·refine go 6 ?_
       refine c_false rfl ?_
       refine go 2 ?_
       exact q_cutx l (Rot.id (by omega) g1 g2) sb rfl rfl
     ·intro k hk
      refine go 1 ?_
      refine c_cutx (α := List Pkd) (Ix := (fun k1 => I)) (Lx := (fun k1 => [(0, .slice (some ⟨g, 0, none⟩) N cap), (1, .int .i64 ((a : Nat) : Int)), (2, .int .i64 ((m : Nat) : Int)), (3, .int .i64 ((b : Nat) : Int)), (4, .func (.func f) #[] #[]), (18, .int .i64 ((((a + b) / 2) : Nat) : Int)), (20, .int .i64 ((s : Nat) : Int)), (24, .int .i64 ((((a + b) / 2 + m - s) : Nat) : Int))])) (Hx := (fun k1 => [.blk g 142 (evCh (k1) ++ rest.l).flatten])) (p := (fun k1 => Seg k k1 a ((a + b) / 2))) ?_ ?_
      ·refine go 6 ?_
       refine sxb 195 rfl (fun h195 p195 => ?_) (fun h195 p195 => ?_)
       ·refine go 6 ?_
        refine cb rfl (fun h199 p199 => ?_) (fun h199 p199 => ?_)
        ·refine go 7 ?_
         refine o_callX1 (ih k a s ((a + b) / 2) (hk.len.trans hN) (by omega) (by omega) (by omega) (by have := hk.len; omega) (hk.p1 m1 g1) ((hk.p2 m2 g1 g2 g3).sub (Nat.le_refl _) (by omega))) rfl rfl (fun v205 s205 q205 => ?_)
         obtain ⟨rfl, k1, rfl, hk1⟩ := q205
         refine go 2 ?_
         exact q_cutx k1 hk1 sb rfl rfl
        ·refine go 2 ?_
         exact q_cutx k (Seg.refl' (hk.left m1 m2 g1 g2 g3 hc (by omega) g0)) sb rfl rfl
       ·refine go 6 ?_
        refine c_false rfl ?_
        refine go 2 ?_
        exact q_cutx k (Seg.refl' (hk.left m1 m2 g1 g2 g3 hc (by omega) g0)) sb rfl rfl
      ·intro k1 hk1
       have hl1 : k1.length = N := hk1.len.trans (hk.len.trans hN)
       refine go 6 ?_
       refine sxb 209 rfl (fun h209 p209 => ?_) (fun h209 p209 => ?_)
       ·refine go 6 ?_
        refine cb rfl (fun h213 p213 => ?_) (fun h213 p213 => ?_)
        ·refine go 7 ?_
         refine o_callX1 (ih k1 ((a + b) / 2) ((a + b) / 2 + m - s) b hl1 (by omega) (by omega) (by omega) (by omega) (hk1.keepD (Nat.le_refl _) ((hk.p3 m1 g0 g1 g2).sub (by omega) (Nat.le_refl _))) (hk1.keepD (by omega) (hk.p4 m2 g1 g2))) rfl rfl (fun v219 s219 q219 => ?_)
         obtain ⟨rfl, k2, rfl, hk2⟩ := q219
         refine go 1 ?_
         refine end0 rfl ?_
         exact q_x ⟨rfl, k2, rfl, hk.done m1 m2 g0 g1 g2 g3 hb hc hx hy hk1 hk2⟩
        ·refine go 1 ?_
         refine end0 rfl ?_
         exact q_x ⟨rfl, k1, rfl, hk.done m1 m2 g0 g1 g2 g3 hb hc hx hy hk1 (Seg.refl' (hk1.keepD (Nat.le_refl _) (hk.right m1 m2 g0 g1 g2 hc (by omega) g3)))⟩
       ·refine go 6 ?_
        refine c_false rfl ?_
        refine go 1 ?_
        refine end0 rfl ?_
        exact q_x ⟨rfl, k1, rfl, hk.done m1 m2 g0 g1 g2 g3 hb hc hx hy hk1 (Seg.refl' (hk1.keepD (Nat.le_refl _) (hk.right m1 m2 g0 g1 g2 hc (by omega) g3)))⟩

theorem symMergeP (I : IMap) {rest : Rst 15} {cap : Nat} (N g : Nat) (f : FuncId) (hp : ∀ x y : Pkd, FnV Tryz.prog f #[.agg (Day.ch x).toArray, .agg (Day.ch y).toArray] I (.int .i64 ((Day.day x - Day.day y)))) (hN0 : N ≤ 1000000) (W : Nat) : ∀ (l : List Pkd) (a m b : Nat), l.length = N → b - a ≤ W → a < m → m < b → b ≤ l.length → SrtD l a m → SrtD l m b → FnX Tryz.prog 160 #[.slice (some ⟨g, 0, none⟩) N cap, .int .i64 ((a : Nat) : Int), .int .i64 ((m : Nat) : Int), .int .i64 ((b : Nat) : Int), .func (.func f) #[] #[]] I [.blk g 142 (evCh (l) ++ rest.l).flatten] (fun u r => u = .tuple #[] ∧ ∃ m, r = .blk g 142 (evCh (m) ++ rest.l).flatten ∧ Seg l m a b) := by
  induction W using Nat.strongRecOn with
  | _ W ih => exact fun l a m b hN hW ham hmb hb m1 m2 => symMergeWP I N g f hp hN0 W (fun l' a' m' b' h1 h2 h3 h4 h5 h6 h7 => ih (b' - a') h2 l' a' m' b' h1 (Nat.le_refl _) h3 h4 h5 h6 h7) l a m b hN hW ham hmb hb m1 m2

theorem stableP (I : IMap) {rest : Rst 15} {cap : Nat} (N g : Nat) (f : FuncId) (hp : ∀ x y : Pkd, FnV Tryz.prog f #[.agg (Day.ch x).toArray, .agg (Day.ch y).toArray] I (.int .i64 ((Day.day x - Day.day y)))) (hN0 : N ≤ 1000000) (l : List Pkd) (hN : l.length = N) :
    FnX Tryz.prog 127 #[.slice (some ⟨g, 0, none⟩) N cap, .int .i64 ((N : Nat) : Int), .func (.func f) #[] #[]] I [.blk g 142 (evCh (l) ++ rest.l).flatten] (fun u r => u = .tuple #[] ∧ ∃ m, r = .blk g 142 (evCh (m) ++ rest.l).flatten ∧ Stb l m ∧ SrtD m 0 N) := by
 refine enter Tryz.func127 Tryz.call127 rfl Tryz.ntmps127 rfl (fun w0 => ?_)
 refine go 14 ?_
 refine c_loop2 (0) (l) (fun a m => I)
  (fun a m => [(0, .slice (some ⟨g, 0, none⟩) N cap), (1, .int .i64 ((N : Nat) : Int)), (2, .func (.func f) #[] #[]), (6, .int .i64 20), (7, .int .i64 ((a : Nat) : Int)), (8, .int .i64 ((a + 20 : Nat) : Int))])
  (fun a m => [.blk g 142 (evCh (m) ++ rest.l).flatten])
  (fun a m => a ≤ N ∧ Stb l m ∧ Pre m 20 a)
  (fun a m => N - a) ⟨Nat.zero_le _, Stb.refl l, .zero⟩ rfl sb rfl ?_
 intro a m ⟨ha, hs, hP⟩
 have hmN : m.length = N := hs.1.symm.trans hN
 refine go 8 ?_
 refine cb rfl (fun h13 p13 => ?_) (fun h13 p13 => ?_)
 ·refine go 10 ?_
  refine o_callX1 (insSortP _ m N hmN g a (a + 20) f hp (by omega) (by omega) (by omega)) rfl rfl (fun v18 s18 q18 => ?_)
  obtain ⟨rfl, k18, rfl, h18⟩ := q18
  refine go 11 ?_
  refine o_v rfl (OV.cast (u := .int .i64 ((a + 20 + 20 : Nat) : Int)) (v_add rfl rfl ⟨by omega, by omega⟩) (congrArg (Value.int .i64) (by omega))) ?_
  refine go 4 ?_
  exact q_next2 (a + 20) (k18) ⟨by omega, hs.trans h18.stb, hP.put h18⟩ (by omega) rfl sb rfl
 ·refine go 12 ?_
  refine o_callX1 (insSortP _ m N hmN g a N f hp ha (by omega) (by omega)) rfl rfl (fun v27 s27 q27 => ?_)
  obtain ⟨rfl, m3, rfl, h27⟩ := q27
  refine go 3 ?_
  refine c_loop2 (20) (m3) (fun q m => I)
   (fun q m => [(0, .slice (some ⟨g, 0, none⟩) N cap), (1, .int .i64 ((N : Nat) : Int)), (2, .func (.func f) #[] #[]), (6, .int .i64 ((q : Nat) : Int))])
   (fun q m => [.blk g 142 (evCh (m) ++ rest.l).flatten])
   (fun q m => 1 ≤ q ∧ Stb l m ∧ Blk m q N 0)
   (fun q m => N - q) ⟨by omega, hs.trans h27.stb, hP.last h27 ha (by omega)⟩ rfl sb rfl ?_
  intro q m ⟨hq, hs, hB⟩
  have hmN : m.length = N := hs.1.symm.trans hN
  refine go 8 ?_
  refine cb rfl (fun h30 p30 => ?_) (fun h30 p30 => ?_)
  ·refine go 6 ?_
   refine o_v rfl (OV.cast (u := .int .i64 ((2 * q : Nat) : Int)) (v_mul rfl rfl ⟨by omega, by omega⟩) (congrArg (Value.int .i64) (by omega))) ?_
   refine go 6 ?_
   refine c_loop2 (0) (m) (fun a k => I)
    (fun a k => [(0, .slice (some ⟨g, 0, none⟩) N cap), (1, .int .i64 ((N : Nat) : Int)), (2, .func (.func f) #[] #[]), (6, .int .i64 ((q : Nat) : Int)), (7, .int .i64 ((a : Nat) : Int)), (8, .int .i64 ((a + 2 * q : Nat) : Int))])
    (fun a k => [.blk g 142 (evCh (k) ++ rest.l).flatten])
    (fun a k => a ≤ N ∧ Stb l k ∧ Pre k (2 * q) a ∧ Blk k q N a)
    (fun a k => N - a) ⟨Nat.zero_le _, hs, .zero, hB⟩ rfl ⟨rfl, rfl, rfl, rfl, rfl, congrArg (fun z : Int => some (Value.int .i64 z)) (by omega), trivial⟩ rfl ?_
   intro a k ⟨ha, hkS, hkP, hkB⟩
   have hkN : k.length = N := hkS.1.symm.trans hN
   refine go 8 ?_
   refine cb rfl (fun h35 p35 => ?_) (fun h35 p35 => ?_)
   ·obtain ⟨t1, t2, t3⟩ := hkB.two (by omega) hq
    refine go 9 ?_
    refine o_v rfl (OV.cast (u := .int .i64 ((a + q : Nat) : Int)) (v_add rfl rfl ⟨by omega, by omega⟩) (congrArg (Value.int .i64) (by omega))) ?_
    refine go 3 ?_
    refine o_callX1 (symMergeP _ N g f hp hN0 _ k a (a + q) (a + 2 * q) hkN (Nat.le_refl _) (by omega) (by omega) (by omega) t1 t2) rfl rfl (fun v43 s43 q43 => ?_)
    obtain ⟨rfl, k43, rfl, h43⟩ := q43
    refine go 11 ?_
    refine o_v rfl (OV.cast (u := .int .i64 ((2 * q : Nat) : Int)) (v_mul rfl rfl ⟨by omega, by omega⟩) (congrArg (Value.int .i64) (by omega))) ?_
    refine o_v rfl (OV.cast (u := .int .i64 ((a + 2 * q + 2 * q : Nat) : Int)) (v_add rfl rfl ⟨by omega, by omega⟩) (congrArg (Value.int .i64) (by omega))) ?_
    refine go 4 ?_
    exact q_next2 (a + 2 * q) (k43) ⟨by omega, hkS.trans h43.stb, hkP.put h43, t3.same fun z z1 z2 => h43.out z (.inr (by omega))⟩ (by omega) rfl sb rfl
   ·refine go 6 ?_
    refine c_cutx (α := List Pkd) (Ix := (fun k => I)) (Lx := (fun k => [(0, .slice (some ⟨g, 0, none⟩) N cap), (1, .int .i64 ((N : Nat) : Int)), (2, .func (.func f) #[] #[]), (6, .int .i64 ((q : Nat) : Int))])) (Hx := (fun k => [.blk g 142 (evCh (k) ++ rest.l).flatten])) (p := (fun k => Stb l k ∧ Blk k (2 * q) N 0)) ?_ ?_
    ·refine go 4 ?_
     refine o_v rfl (OV.cast (u := .int .i64 ((a + q : Nat) : Int)) (v_add rfl rfl ⟨by omega, by omega⟩) (congrArg (Value.int .i64) (by omega))) ?_
     refine go 10 ?_
     refine cb rfl (fun h54 p54 => ?_) (fun h54 p54 => ?_)
     ·obtain ⟨t1, t2⟩ := hkB.one (by omega)
      refine go 7 ?_
      refine o_callX1 (symMergeP _ N g f hp hN0 _ k a (a + q) N hkN (Nat.le_refl _) (by omega) (by omega) (by omega) t1 (t2 (by omega))) rfl rfl (fun v60 s60 q60 => ?_)
      obtain ⟨rfl, k60, rfl, h60⟩ := q60
      refine go 2 ?_
      exact q_cutx k60 ⟨hkS.trans h60.stb, hkP.last h60 ha (by omega)⟩ sb rfl rfl
     ·refine go 2 ?_
      exact q_cutx k ⟨hkS, hkP.last (Seg.refl' (hkB.all (by omega))) ha (by omega)⟩ sb rfl rfl
    ·intro k ⟨hkS, hkB⟩
     refine go 2 ?_
     refine o_v rfl (OV.cast (u := .int .i64 ((2 * q : Nat) : Int)) (v_mul rfl rfl ⟨by omega, by omega⟩) (congrArg (Value.int .i64) (by omega))) ?_
     refine go 4 ?_
     exact q_next2 (2 * q) (k) ⟨by omega, hkS, hkB⟩ (by omega) rfl sb rfl
  ·refine go 4 ?_
   refine end0 rfl ?_
   exact q_x ⟨rfl, m, rfl, hs, hB.all (by omega)⟩

theorem sortStableP (I : IMap) {rest : Rst 15} {cap : Nat} (N g : Nat) (f : FuncId) (hp : ∀ x y : Pkd, FnV Tryz.prog f #[.agg (Day.ch x).toArray, .agg (Day.ch y).toArray] I (.int .i64 ((Day.day x - Day.day y)))) (hN0 : N ≤ 1000000) (l : List Pkd) (hN : l.length = N) :
    FnX Tryz.prog 109 #[.slice (some ⟨g, 0, none⟩) N cap, .func (.func f) #[] #[]] I [.blk g 142 (evCh (l) ++ rest.l).flatten] (fun u r => u = .tuple #[] ∧ ∃ m, r = .blk g 142 (evCh (m) ++ rest.l).flatten ∧ Stb l m ∧ SrtD m 0 N) := by
 refine enter Tryz.func109 Tryz.call109 rfl Tryz.ntmps109 rfl (fun w0 => ?_)
 refine go 6 ?_
 refine o_callX1 (stableP _ N g f hp hN0 l hN) rfl rfl (fun v8 s8 q8 => ?_)
 obtain ⟨rfl, m8, rfl, h8⟩ := q8
 refine go 1 ?_
 refine end0 rfl ?_
 exact q_x ⟨rfl, m8, rfl, h8⟩

theorem insSortNil (I : IMap) (f : FuncId) :
    FnV Tryz.prog 159 #[.slice none 0 0, .int .i64 0, .int .i64 0, .func (.func f) #[] #[]] I (.tuple #[]) := by
 refine enter Tryz.func159 Tryz.call159 rfl Tryz.ntmps159 rfl (fun w0 => ?_)
 refine go 3 ?_
 refine o_v rfl (OV.cast (u := .int .i64 1) (v_add rfl rfl ⟨by omega, by omega⟩) rfl) ?_
 refine go 4 ?_
 refine c_loop (α := Nat) 0 (fun i => I)
  (fun i => [(0, .slice none 0 0), (1, .int .i64 0), (2, .int .i64 0), (3, .func (.func f) #[] #[]), (8, .int .i64 1)])
  (fun i => [])
  (fun i => True)
  (fun i => 0) trivial rfl sb rfl ?_
 intro i _
 refine go 8 ?_
 refine cb rfl (fun h14 p14 => ?_) (fun h14 p14 => ?_)
 ·exact absurd p14 (by decide)
 ·refine go 4 ?_
  refine end0 rfl ?_
  exact q_v rfl

theorem stableNil (I : IMap) (f : FuncId) :
    FnV Tryz.prog 127 #[.slice none 0 0, .int .i64 0, .func (.func f) #[] #[]] I (.tuple #[]) := by
 refine enter Tryz.func127 Tryz.call127 rfl Tryz.ntmps127 rfl (fun w0 => ?_)
 refine go 14 ?_
 refine c_loop (α := Nat) 0 (fun i => I)
  (fun i => [(0, .slice none 0 0), (1, .int .i64 0), (2, .func (.func f) #[] #[]), (6, .int .i64 20), (7, .int .i64 0), (8, .int .i64 20)])
  (fun i => [])
  (fun i => True)
  (fun i => 0) trivial rfl sb rfl ?_
 intro i _
 refine go 8 ?_
 refine cb rfl (fun h13 p13 => ?_) (fun h13 p13 => ?_)
 ·exact absurd p13 (by decide)
 ·refine go 12 ?_
  refine o_callV (insSortNil _ f) rfl rfl ?_
  refine go 3 ?_
  refine c_loop (α := Nat) 0 (fun i => I)
   (fun i => [(0, .slice none 0 0), (1, .int .i64 0), (2, .func (.func f) #[] #[]), (6, .int .i64 20)])
   (fun i => [])
   (fun i => True)
   (fun i => 0) trivial rfl sb rfl ?_
  intro i _
  refine go 8 ?_
  refine cb rfl (fun h30 p30 => ?_) (fun h30 p30 => ?_)
  ·exact absurd p30 (by decide)
  ·refine go 4 ?_
   refine end0 rfl ?_
   exact q_v rfl

theorem sortNil (I : IMap) (f : FuncId) :
    FnV Tryz.prog 109 #[.slice none 0 0, .func (.func f) #[] #[]] I (.tuple #[]) := by
 refine enter Tryz.func109 Tryz.call109 rfl Tryz.ntmps109 rfl (fun w0 => ?_)
 refine go 6 ?_
 refine o_callV (stableNil _ f) rfl rfl ?_
 refine go 1 ?_
 refine end0 rfl ?_
 exact q_v rfl

theorem sortPk (I : IMap) (v : Value) (l : List Pkd) (hN0 : l.length ≤ 1000000) (f : FuncId) (hp : ∀ x y : Pkd, FnV Tryz.prog f #[.agg (Day.ch x).toArray, .agg (Day.ch y).toArray] I (.int .i64 (Day.day x - Day.day y))) :
    FnX Tryz.prog 109 #[v, .func (.func f) #[] #[]] I [.row v 142 15 l.length (evCh l).flatten] (fun u r => u = .tuple #[] ∧ r = .row v 142 15 l.length (evCh (sortF l)).flatten) :=
  FnX.of_rowV (args := fun v => [v, .func (.func f) #[] #[]]) (evCh_ukP l) (evCh_len l)
    (fun h0 hv => by
      obtain rfl := List.eq_nil_of_length_eq_zero h0
      subst hv
      exact FnX.of_V (sortNil I f))
    (fun g cap rest hv hR hc hl => by
      subst hv
      refine FnX.back (yss := evCh (sortF l)) (evCh_ukP _) hR (by rw [evCh_len, sortF_len]) hc hl ?_
      refine FnH.mono (sortStableP I (rest := ⟨rest, hR⟩) (cap := cap) l.length g f hp hN0 l rfl) fun u I' H' hI h => ?_
      obtain ⟨h1, r', h2, h3, m, h4, h5, h6⟩ := h
      have hml : m.length = l.length := h5.1.symm
      obtain rfl := sortF_is h5 (SrtD.pw (by rw [hml]; exact h6))
      exact ⟨h1, r', h2, ⟨h3, rfl⟩, h4⟩)

theorem pkByDay (I : IMap) (x y : Pkd) :
    FnV Tryz.prog 110 #[.agg (Day.ch x).toArray, .agg (Day.ch y).toArray] I (.int .i64 (Day.day x - Day.day y)) := by
 refine enter Tryz.func110 Tryz.call110 rfl Tryz.ntmps110 rfl (fun w0 => ?_)
 show SX _ _ _ (argsL [.agg x.cells.toArray, .agg y.cells.toArray] 0) _ _
 refine go 3 ?_
 refine o_box _ rfl rfl rfl (fun g2 => ?_)
 refine go 1 ?_
 refine o_box _ rfl rfl rfl (fun g3 => ?_)
 refine go 11 ?_
 refine o_v rfl (v_sub rfl rfl ⟨by have := x.lo; have := x.hi; have := y.lo; have := y.hi; omega, by have := x.lo; have := x.hi; have := y.lo; have := y.hi; omega⟩) ?_
 refine go 4 ?_
 refine fin1 rfl rfl ?_
 exact q_v rfl

theorem followStep (I : IMap) (vc : Value) (c : List Kind) (hvc : RdS I vc c) (hsc : SmC c) (g1 : Nat) (c1 : ICells I g1 0 [vc]) (g2 : Nat) (v : Value) (st : List Part) (hv : RdS I v st) (hsf : SmF st) (e : Evt) (hse : SmE e) :
    FnG Tryz.prog 111 #[.agg e.cells.toArray, .pointer (some ⟨g1, 0, none⟩), .pointer (some ⟨g2, 0, none⟩)] I (.blk g2 134 [v]) (fun u J r => u = .int .i64 (applyF c st e).2 ∧ ∃ w, r = .blk g2 134 [w] ∧ RdS J w (applyF c st e).1) := by
 refine enter Tryz.func111 Tryz.call111 rfl Tryz.ntmps111 rfl (fun w0 => ?_)
 refine go 3 ?_
 refine o_box _ rfl rfl rfl (fun g3 => ?_)
 refine go 5 ?_
 refine o_v rfl (v_ldIa he rfl c1 rfl) ?_
 refine go 3 ?_
 refine o_call (flApply _ vc c hvc hsc v st hv hsf e hse) rfl rfl (fun v9 I9 j9 q9 => ?_)
 obtain ⟨w9, rfl, hw9⟩ := q9
 refine go 4 ?_
 refine bring1 ?_
 refine o_stw _ he rfl rfl rfl rfl rfl (by simp [hw9.one]) ?_
 refine go 10 ?_
 refine fin1 rfl rfl ?_
 refine bring1 ?_
 refine sx_drop ?_
 exact q_g ⟨rfl, w9, rfl, hw9⟩

theorem hiFollow (I : IMap) (vc : Value) (c : List Kind) (hvc : RdS I vc c) (hsc : SmC c) (v : Value) (l : List Rep) (hv : RdS I v l) (hl : l.length ≤ 1000000) (hsl : ∀ r ∈ l, ∀ e ∈ r.options, SmE e) (hgd : ∀ r ∈ l, validRep r = true) (w : Value) (ch : List Int) (hw : RdS I w ch) (hlc : ch.length = l.length) (day : Int) :
    FnI Tryz.prog 86 #[.agg #[vc], v, w, .int .i64 day] I (fun u J => u = .tuple #[.int .i64 (followF c l ch day).1, .int .i64 (followF c l ch day).2]) := by
 obtain ⟨A, c0, rfl, hA, hc, hm⟩ := hv
 obtain ⟨B, c1, rfl, hB, hc1, hm1⟩ := hw
 refine enter Tryz.func86 Tryz.call86 rfl Tryz.ntmps86 rfl (fun w0 => ?_)
 refine go 3 ?_
 refine o_box _ rfl rfl rfl (fun g4 => ?_)
 refine go 6 ?_
 refine sx_nilrow 142 15 ?_
 refine go 12 ?_
 refine c_loop4 ((0 : Nat)) (_) ([]) ([]) (fun i v xs out => I)
  (fun i v xs out => [(4, .pointer (some ⟨g4, 0, none⟩)), (2, .slice B ch.length c1), (3, .int .i64 day), (10, v), (19, .slice A l.length c0), (20, .int .i64 ((l.length : Nat) : Int)), (21, .int .i64 ((i : Nat) : Int))])
  (fun i v xs out => [.row v 142 15 out.length xs, .blk g4 24 [vc]])
  (fun i v xs out => i ≤ l.length ∧ pickF day l ch i = out ∧ Flat I xs out)
  (fun i v xs out => l.length - i) ⟨Nat.zero_le _, rfl, .nil⟩ rfl sb rfl ?_
 intro i v xs out ⟨hi, hw, hF⟩
 have hol : out.length ≤ i := by rw [← hw]; exact pick_len _ _ _ _
 refine go 6 ?_
 refine cb rfl (fun h22 p22 => ?_) (fun h22 p22 => ?_)
 ·have hlt : i < l.length := by omega
  have hlt2 : i < ch.length := by omega
  refine go 7 ?_
  obtain ⟨b24, o24, w24, e24, c24, r24⟩ := RdA.at_ hA (i := i) hlt
  obtain ⟨q24, rfl, S24, d24, rfl, hS24, hd24, hm24⟩ := r24
  refine o_v rfl (v_idx he rfl rfl e24 (i) (by omega) hlt) ?_
  refine o_v rfl (v_ldIa he rfl c24 rfl) ?_
  refine go 1 ?_
  refine o_alloc he rfl (fun g12 => ?_)
  refine go 2 ?_
  refine o_stw _ he rfl rfl rfl rfl rfl rfl ?_
  refine go 6 ?_
  obtain ⟨b28, o28, w28, e28, c28, r28⟩ := RdA.at_ hB (i := i) hlt2
  obtain rfl := r28
  refine o_v rfl (v_idx he rfl rfl e28 (i) (by omega) hlt2) ?_
  refine o_v rfl (v_ldI he rfl (c28 0 _ rfl)) ?_
  refine go 8 ?_
  refine sxb 32 rfl (fun h32 p32 => ?_) (fun h32 p32 => ?_)
  ·refine go 7 ?_
   refine sxb 39 rfl (fun h39 p39 => ?_) (fun h39 p39 => ?_)
   ·have hk : ch[i].toNat < l[i].options.length := by omega
    have hday := validE_day (validRep_e (hgd _ (List.getElem_mem hlt)) _ (List.getElem_mem hk))
    refine go 3 ?_
    obtain ⟨b43, o43, w43, e43, c43, r43⟩ := RdA.at_ hS24 (i := ch[i].toNat) hk
    obtain rfl := r43
    refine o_cons (o_yes rfl rfl h39 (o_val rfl (v_idx he rfl rfl e43 (ch[i].toNat) (by omega) hk) ?_))
    refine go 1 ?_
    refine o_cons (o_yes rfl rfl h39 (o_val rfl (v_ldI he rfl (c43 1 _ rfl)) ?_))
    refine go 5 ?_
    refine cb rfl (fun h48 p48 => ?_) (fun h48 p48 => ?_)
    ·refine go 5 ?_
     obtain ⟨b53, o53, w53, e53, c53, r53⟩ := RdA.at_ hS24 (i := ch[i].toNat) hk
     obtain rfl := r53
     refine o_v rfl (v_idx he rfl rfl e53 (ch[i].toNat) (by omega) hk) ?_
     refine o_v rfl (v_ldIa he rfl c53 rfl) ?_
     refine go 2 ?_
     refine o_val rfl (v_build (pl := [(0, 14), (14, 1)]) he he rfl rfl) ?_
     refine go 1 ?_
     refine o_buildSlice he he rfl rfl rfl rfl rfl rfl rfl (fun v57 => ?_)
     refine go 1 ?_
     refine bring2 ?_
     refine o_appendO he he rfl rfl rfl rfl rfl (by omega) (by omega) rfl (fun v58 => ?_)
     refine go 9 ?_
     refine bring1 ?_
     refine sx_drop ?_
     refine bring1 ?_
     refine sx_drop ?_
     exact q_next4 (i + 1) (_) (_) (out ++ [⟨l[i].options[ch[i].toNat], i, hday.1, hday.2⟩]) ⟨by omega, pk_yes hlt hlt2 hw p32 hk p48 hday, hF.append (.one rfl)⟩ (by omega) rfl sb (by first | rfl | (simp only [List.length_append, List.length_singleton]; rfl) | simp only [List.length_append, List.length_singleton])
    ·refine go 8 ?_
     refine sx_drop ?_
     exact q_next4 (i + 1) (_) (_) (out) ⟨by omega, pk_late hlt hlt2 hw hk p48, hF⟩ (by omega) rfl sb (by first | rfl | (simp only [List.length_append, List.length_singleton]; rfl) | simp only [List.length_append, List.length_singleton])
   ·refine go 11 ?_
    refine c_false rfl ?_
    refine go 8 ?_
    refine sx_drop ?_
    exact q_next4 (i + 1) (_) (_) (out) ⟨by omega, pk_big hlt hlt2 hw p39, hF⟩ (by omega) rfl sb (by first | rfl | (simp only [List.length_append, List.length_singleton]; rfl) | simp only [List.length_append, List.length_singleton])
  ·refine go 18 ?_
   refine c_false rfl ?_
   refine go 8 ?_
   refine sx_drop ?_
   exact q_next4 (i + 1) (_) (_) (out) ⟨by omega, pk_neg hlt hlt2 hw p32, hF⟩ (by omega) rfl sb (by first | rfl | (simp only [List.length_append, List.length_singleton]; rfl) | simp only [List.length_append, List.length_singleton])
 ·have e : i = l.length := (by omega)
  subst e
  refine go 9 ?_
  obtain ⟨xss, rfl, hx⟩ := FlatC.of hF
  obtain rfl := evCh_ofP hx
  refine o_callX1 (sortPk _ v out (by omega) 110 (fun x y => pkByDay _ x y)) rfl rfl (fun v61 s61 q61 => ?_)
  obtain ⟨rfl, rfl⟩ := q61
  have hso := sortF_len out
  refine sx_pubrow (l := sortF out) rfl (by rw [sortF_len]) ((evCh_flatP _).flat) (fun I61 j61 R61 => ?_)
  have hvc := hvc.le j61
  refine go 5 ?_
  refine o_alloc he rfl (fun g14 => ?_)
  refine go 4 ?_
  obtain ⟨A6, c6, rfl, hA6, _, _⟩ := R61
  refine bring1 ?_
  refine sx_pub (fun Ig4 jg4 cg4 => ?_)
  have hvc := hvc.le jg4
  have hA6 := hA6.le jg4
  refine o_v rfl (v_makeFunc rfl rfl) ?_
  refine go 12 ?_
  refine c_loop4 (0) ([]) (.slice none 0 0) (Ig4) (fun i st v14 J => J)
   (fun i st v14 J => [(15, .func (.func 111) #[] #[.pointer (some ⟨g4, 0, none⟩), .pointer (some ⟨g14, 0, none⟩)]), (63, .slice A6 (sortF out).length c6), (64, .int .i64 (((sortF out).length : Nat) : Int)), (65, .int .i64 ((i : Nat) : Int))])
   (fun i st v14 J => [.blk g14 134 [v14]])
   (fun i st v14 J => i ≤ (sortF out).length ∧ ILe Ig4 J ∧ RdS J v14 st ∧ SmF st ∧ followGo c [] (sortF out) = followGo c st ((sortF out).drop i))
   (fun i st v14 J => (sortF out).length - i) ⟨Nat.zero_le _, ILe.refl _, RdS.nil', SmF.nil, rfl⟩ rfl sb rfl ?_
  intro i st v14 J ⟨hi, hJ, hv14, hsf, hgo⟩
  have hvc := hvc.le hJ
  have hA6 := hA6.le hJ
  have cg4 := cg4.le hJ
  refine go 6 ?_
  refine cb rfl (fun h66 p66 => ?_) (fun h66 p66 => ?_)
  ·have hlt : i < (sortF out).length := by omega
   have hse : SmE (sortF out)[i].e := by
     obtain ⟨r, hr, he⟩ := pick_mem (day := day) (l := l) (ch := ch) (n := l.length) (p := (sortF out)[i]) (by rw [hw]; exact sortF_mem.1 (List.getElem_mem hlt))
     exact hsl r hr _ he
   refine go 6 ?_
   obtain ⟨b67, o67, w67, e67, c67, r67⟩ := RdA.at_ hA6 (i := i) hlt
   obtain rfl := r67
   refine o_v rfl (v_idx he rfl rfl e67 (i) (by omega) hlt) ?_
   refine o_v rfl (v_ldIa he rfl c67 rfl) ?_
   refine go 1 ?_
   refine o_alloc he rfl (fun g17 => ?_)
   refine go 1 ?_
   refine o_stw _ he rfl rfl rfl rfl rfl rfl ?_
   refine go 6 ?_
   refine o_v rfl (v_ldp ((sortF out)[i].e.cells) m0 he rfl rfl rfl) ?_
   refine go 1 ?_
   refine bring1 ?_
   refine o_callG (followStep _ vc c hvc hsc g4 cg4 g14 v14 st hv14 hsf (sortF out)[i].e hse) rfl rfl (fun v72 I72 s72 j72 q72 => ?_)
   obtain ⟨rfl, w72, rfl, hw72⟩ := q72
   refine go 9 ?_
   refine cb rfl (fun h74 p74 => ?_) (fun h74 p74 => ?_)
   ·have hok : ¬ (applyF c st (sortF out)[i].e).2 = 0 := by simpa using p74
    refine go 15 ?_
    refine fin2 rfl rfl rfl ?_
    exact q_i (by simp only [followF, hw, hgo, follow_step hlt, if_neg hok])
   ·have hok : (applyF c st (sortF out)[i].e).2 = 0 := by simpa using p74
    refine go 8 ?_
    refine bring1 ?_
    refine sx_drop ?_
    exact q_next4 (i + 1) (_) (_) (I72) ⟨by omega, hJ.trans j72, hw72, applyF_sm hsf hse, by rw [hgo, follow_step hlt, if_pos hok]⟩ (by omega) rfl sb rfl
  ·refine go 12 ?_
   refine fin2 rfl rfl rfl ?_
   exact q_i (by simp only [followF, hw, hgo, List.drop_eq_nil_of_le (show (sortF out).length ≤ i by omega)]; rfl)

theorem hiFails (I : IMap) (vc : Value) (c : List Kind) (hvc : RdS I vc c) (hsc : SmC c) (v : Value) (l : List Rep) (hv : RdS I v l) (hl : l.length ≤ 1000000) (hsl : ∀ r ∈ l, ∀ e ∈ r.options, SmE e) (w : Value) (ch : List Int) (hw : RdS I w ch) :
    FnI Tryz.prog 50 #[.agg #[vc], v, w] I (fun u J => u = .tuple #[.int .i64 (failsF c l ch).1, .int .i64 (failsF c l ch).2]) := by
 refine enter Tryz.func50 Tryz.call50 rfl Tryz.ntmps50 rfl (fun w0 => ?_)
 refine go 3 ?_
 refine o_box _ rfl rfl rfl (fun g3 => ?_)
 refine go 11 ?_
 refine o_callV (hiGiven _ vc c hvc hsc _ l hv hsl _ ch hw 0) rfl rfl ?_
 refine go 3 ?_
 refine cb rfl (fun h12 p12 => ?_) (fun h12 p12 => ?_)
 ·refine go 8 ?_
  refine fin2 rfl rfl rfl ?_
  exact q_i (by rw [failsF, if_pos (by simpa using h12)])
 ·obtain ⟨hlc, hgd⟩ := given_all (c := c) (l := l) (ch := ch) (n := 0) (by simpa using h12)
  refine go 8 ?_
  refine o_call (hiFollow _ vc c hvc hsc _ l hv hl hsl hgd _ ch hw hlc 40001) rfl rfl (fun v16 I16 j16 q16 => ?_)
  obtain rfl := q16
  refine go 7 ?_
  refine fin2 rfl rfl rfl ?_
  exact q_i (by rw [failsF, if_neg (by simp [show givenF c l ch 0 = true by simpa using h12])]; rfl)

theorem hiIs (I : IMap) (vc : Value) (c : List Kind) (hvc : RdS I vc c) (hsc : SmC c) (v : Value) (l : List Rep) (hv : RdS I v l) (hl : l.length ≤ 1000000) (hsl : ∀ r ∈ l, ∀ e ∈ r.options, SmE e) (w : Value) (ch : List Int) (hw : RdS I w ch) :
    FnI Tryz.prog 25 #[.agg #[vc], v, w] I (fun u J => u = .bool (isF c l ch)) := by
 refine enter Tryz.func25 Tryz.call25 rfl Tryz.ntmps25 rfl (fun w0 => ?_)
 refine go 3 ?_
 refine o_box _ rfl rfl rfl (fun g3 => ?_)
 refine go 9 ?_
 refine o_call (hiFails _ vc c hvc hsc _ l hv hl hsl _ ch hw) rfl rfl (fun v13 I13 j13 q13 => ?_)
 obtain rfl := q13
 refine go 15 ?_
 refine fin1 rfl rfl ?_
 exact q_i rfl

theorem hiFalse (I : IMap) (vc : Value) (c : List Kind) (hvc : RdS I vc c) (hsc : SmC c) (v : Value) (l : List Rep) (hv : RdS I v l) (hl : l.length ≤ 1000000) (hsl : ∀ r ∈ l, ∀ e ∈ r.options, SmE e) (w : Value) (ch : List Int) (hw : RdS I w ch) :
    FnI Tryz.prog 82 #[.agg #[vc], v, w] I (fun u J => u = .bool (falseF c l ch)) := by
 have hv0 := hv
 have hw0 := hw
 obtain ⟨A, c0, rfl, _, _, _⟩ := hv0
 obtain ⟨B, c1, rfl, _, _, _⟩ := hw0
 refine enter Tryz.func82 Tryz.call82 rfl Tryz.ntmps82 rfl (fun w0 => ?_)
 refine go 3 ?_
 refine o_box _ rfl rfl rfl (fun g3 => ?_)
 refine go 10 ?_
 refine o_callV (hiGiven _ vc c hvc hsc _ l hv hsl _ ch hw (-1)) rfl rfl ?_
 refine go 3 ?_
 refine cb rfl (fun h15 p15 => ?_) (fun h15 p15 => ?_)
 ·refine go 7 ?_
  refine fin1 rfl rfl ?_
  exact q_i (by rw [falseF, if_pos (by simpa using h15)])
 ·obtain ⟨hlc, hgd⟩ := given_all (c := c) (l := l) (ch := ch) (n := (-1)) (by simpa using h15)
  refine go 5 ?_
  refine o_alloc he rfl (fun g7 => ?_)
  refine go 1 ?_
  refine o_stw _ he rfl rfl rfl rfl rfl rfl ?_
  refine go 8 ?_
  refine o_call (hiDays _ A B _ c0 _ c1) rfl rfl (fun v18 I18 j18 q18 => ?_)
  have hvc := hvc.le j18
  have hv := hv.le j18
  have hw := hw.le j18
  obtain ⟨g2, g5, rfl, c2, c3⟩ := q18
  refine go 3 ?_
  refine c_range (σ := Int) (ps := [19]) 40001 (fun m => [.blk g7 3 [ci m]]) (fun pre I m => m = leastF pre) (fun pre I m cd => False) rfl Tryz.call126 (daysIt _ _ l hv _ ch hw hlc g2 g5 c2 c3) (fun I vs x h => by rw [h]; rfl) rfl (fun pre I I' s hI h => h) (fun _ _ _ _ _ _ h => h) (rfl) rfl ?_ ?_ ?_
  ·rintro r E1 pre x vs I1 m hI1 rfl rfl hpf
   refine sx_exp1 ?_
   refine go 3 ?_
   refine r_begin ?_
   refine go 4 ?_
   refine o_v rfl (v_imin rfl rfl) ?_
   refine go 1 ?_
   refine bring2 ?_
   refine o_stw _ he rfl rfl rfl rfl rfl rfl ?_
   refine go 2 ?_
   refine bring2 ?_
   refine bring2 ?_
   exact r_next (_) (hI1) ((by rw [least_snoc])) rfl
  ·rintro D pre I1 m hI1 hfull rfl
   refine sx_app1 ?_
   refine go 9 ?_
   refine o_call (hiFollow _ vc c (hvc.le hI1) hsc _ l (hv.le hI1) hl hsl hgd _ ch (hw.le hI1) hlc (leastF pre)) rfl rfl (fun v28 I28 j28 q28 => ?_)
   obtain rfl := q28
   refine go 15 ?_
   refine q_mark ?_
   refine fin1 rfl rfl ?_
   exact q_i (by rw [falseF, if_neg (by simp [show givenF c l ch (-1) = true by simpa using h15]), hfull])
  ·rintro D pre I1 m cd hI1 hpart h
   exact h.elim

end Go.Proofs.YtoadjlmbdliceaaGreat

/- Walks, printed by a program out of the code of the functions: each theorem is a contract of one function. -/
namespace Go.Proofs.YtoadjlmbdliceaaGreat
open Go Go.Sx
set_option linter.all false
set_option maxRecDepth 20000
set_option maxHeartbeats 4000000
theorem ref13Valid (I : IMap) (r : Rep) (S : Option Addr) (d : Nat) (hr : RdS I (.slice S r.options.length d) r.options) (hs : ∀ e ∈ r.options, SmE e) :
    FnV Tryz.prog 76 #[.agg (r.cells (.slice S r.options.length d)).toArray] I (.bool (validRep r)) := by
 have hSA : RdA I S r.options := (by obtain ⟨_, _, e, h, _⟩ := hr; cases e; exact h)
 have hl4 : d ≤ 9223372036854775807 := (by obtain ⟨_, _, e, h, h1, h2⟩ := hr; cases e; exact h2)
 have hl5 := hr.lenLe
 refine enter Tryz.func76 Tryz.call76 rfl Tryz.ntmps76 rfl (fun w0 => ?_)
 refine go 3 ?_
 refine o_box _ rfl rfl rfl (fun g1 => ?_)
 refine go 5 ?_
 refine c_cut (I' := I) (L' := [(1, .pointer (some ⟨g1, 0, none⟩)), (14, .bool (decide (((r.options.length : Nat) : Int) < 1) || decide ((4 : Int) < (r.options.length : Nat))))]) (H' := [.blk g1 47 (r.cells (.slice S r.options.length d))]) ?_ ?_
 ·refine go 6 ?_
  refine sxb 9 rfl (fun h9 p9 => ?_) (fun h9 p9 => ?_)
  ·refine go 7 ?_
   exact q_cut ⟨rfl, (congrArg (fun b => some (Value.bool b)) (by simp only [h9, bS])), trivial⟩ rfl rfl
  ·refine go 7 ?_
   exact q_cut ⟨rfl, (congrArg (fun b => some (Value.bool b)) (by simp only [h9, bS])), trivial⟩ rfl rfl
 ·refine cb rfl (fun h14 p14 => ?_) (fun h14 p14 => ?_)
  ·refine go 7 ?_
   refine fin1 rfl rfl ?_
   exact q_v (congrArg Value.bool (by simp only [validRep, show decide (((r.options.length : Nat) : Int) = 0) = decide (((r.options.length : Nat) : Int) < 1) from by rw [decide_eq_decide]; omega, h14]; rfl))
  ·refine go 9 ?_
   refine c_loop (α := Nat) 0 (fun i => I)
    (fun i => [(1, .pointer (some ⟨g1, 0, none⟩)), (3, .int .i64 ((i : Nat) : Int))])
    (fun i => [.blk g1 47 (r.cells (.slice S r.options.length d))])
    (fun i => i ≤ r.options.length ∧ allP optFine r.options i = true)
    (fun i => r.options.length - i) ⟨Nat.zero_le _, rfl⟩ rfl sb rfl ?_
   intro i ⟨hi, hn⟩
   refine go 10 ?_
   refine cb rfl (fun h19 p19 => ?_) (fun h19 p19 => ?_)
   ·have hlt : i < r.options.length := by omega
    refine go 10 ?_
    obtain ⟨b25, o25, w25, e25, c25, r25⟩ := RdA.at_ hSA (i := i) hlt
    obtain rfl := r25
    refine o_v rfl (v_idx he rfl rfl e25 (i) (by omega) hlt) ?_
    refine o_v rfl (v_ldIa he rfl c25 rfl) ?_
    refine go 1 ?_
    refine o_callV (ref09Valid _ r.options[i] (hs _ (List.getElem_mem hlt))) rfl rfl ?_
    refine go 3 ?_
    refine cb rfl (fun h28 p28 => ?_) (fun h28 p28 => ?_)
    ·refine go 12 ?_
     refine fin1 rfl rfl ?_
     exact q_v (congrArg Value.bool (by simp only [validRep, show decide (((r.options.length : Nat) : Int) = 0) = decide (((r.options.length : Nat) : Int) < 1) from by rw [decide_eq_decide]; omega, h14, allP_not hlt (show optFine (r.options.take i) r.options[i] = false by simp only [optFine, show validE r.options[i] = false by simpa using h28, bS]), bS]))
    ·refine go 8 ?_
     refine c_loop (α := Nat) 0 (fun m => I)
      (fun m => [(1, .pointer (some ⟨g1, 0, none⟩)), (3, .int .i64 ((i : Nat) : Int)), (4, .int .i64 ((m : Nat) : Int))])
      (fun m => [.blk g1 47 (r.cells (.slice S r.options.length d))])
      (fun m => m ≤ i ∧ ∀ j x, j < m → r.options[j]? = some x → decide (x = r.options[i]) = false)
      (fun m => i - m) ⟨Nat.zero_le _, fun j x hj => absurd hj (Nat.not_lt_zero j)⟩ rfl sb rfl ?_
     intro m ⟨hmm, hq⟩
     refine go 8 ?_
     refine cb rfl (fun h31 p31 => ?_) (fun h31 p31 => ?_)
     ·have hlm : m < r.options.length := by omega
      refine go 5 ?_
      refine d_startH T.mixed ?_
      refine d_tv 0 rfl rfl (by kernel_rfl) rfl (.refl _) rfl (v_fieldAddr he rfl) ?_
      refine d_tv 1 rfl rfl (by kernel_rfl) rfl (.refl _) rfl (v_ld m0 he rfl rfl) ?_
      refine d_tv 2 rfl rfl (by kernel_rfl) rfl (.refl _) rfl (v_move rfl) ?_
      obtain ⟨b37, o37, w37, e37, c37, r37⟩ := RdA.at_ hSA (i := m) hlm
      obtain rfl := r37
      refine d_tv 3 rfl rfl (by kernel_rfl) rfl (.refl _) rfl (v_idx he rfl rfl e37 (m) (by omega) hlm) ?_
      refine d_tv 4 rfl rfl (by kernel_rfl) rfl (.refl _) rfl (v_ldIa he rfl c37 rfl) ?_
      refine d_tv 5 rfl rfl (by kernel_rfl) rfl (.refl _) rfl (v_fieldAddr he rfl) ?_
      refine d_tv 6 rfl rfl (by kernel_rfl) rfl (.refl _) rfl (v_ld m0 he rfl rfl) ?_
      refine d_tv 7 rfl rfl (by kernel_rfl) rfl (.refl _) rfl (v_move rfl) ?_
      obtain ⟨b42, o42, w42, e42, c42, r42⟩ := RdA.at_ hSA (i := i) hlt
      obtain rfl := r42
      refine d_tv 8 rfl rfl (by kernel_rfl) rfl (.refl _) rfl (v_idx he rfl rfl e42 (i) (by omega) hlt) ?_
      refine d_tv 9 rfl rfl (by kernel_rfl) rfl (.refl _) rfl (v_ldIa he rfl c42 rfl) ?_
      refine d_tv 10 rfl rfl (by kernel_rfl) rfl (.refl _) rfl (v_steql T.eqg_56 (eqS_Evt r.options[m] r.options[i]) rfl rfl) ?_
      refine d_done (by kernel_rfl) ?_
      refine go 1 ?_
      refine cb rfl (fun h44 p44 => ?_) (fun h44 p44 => ?_)
      ·refine go 15 ?_
       refine fin1 rfl rfl ?_
       exact q_v (congrArg Value.bool (by simp only [validRep, show decide (((r.options.length : Nat) : Int) = 0) = decide (((r.options.length : Nat) : Int) < 1) from by rw [decide_eq_decide]; omega, h14, allP_not hlt (show optFine (r.options.take i) r.options[i] = false by simp only [optFine, hit_take_yes (show m < i by omega) hlm h44, bS]), bS]))
      ·refine go 9 ?_
       exact q_next (m + 1) ⟨by omega, idx_next (p := fun x => decide (x = r.options[i])) hq (show m < r.options.length by omega) h44⟩ (by omega) rfl sb rfl
     ·refine go 12 ?_
      exact q_next (i + 1) ⟨by omega, allP_succ hn hlt (by simp only [optFine, hit_take_no hq (show i ≤ m by omega), p28, bS])⟩ (by omega) rfl sb rfl
   ·refine go 11 ?_
    refine fin1 rfl rfl ?_
    have e : i = r.options.length := (by omega)
    subst e
    exact q_v (congrArg Value.bool (by simp only [validRep, hn, show decide (((r.options.length : Nat) : Int) = 0) = decide (((r.options.length : Nat) : Int) < 1) from by rw [decide_eq_decide]; omega, h14]; rfl))

theorem ref13Choices (I : IMap) (r : Rep) (S : Option Addr) (d : Nat) (hr : RdS I (.slice S r.options.length d) r.options) (hs : ∀ e ∈ r.options, SmE e) :
    FnV Tryz.prog 66 #[.agg (r.cells (.slice S r.options.length d)).toArray] I (.int .i64 (chs r)) := by
 have hl5 := hr.lenLe
 refine enter Tryz.func66 Tryz.call66 rfl Tryz.ntmps66 rfl (fun w0 => ?_)
 refine go 3 ?_
 refine o_box _ rfl rfl rfl (fun g1 => ?_)
 refine go 8 ?_
 refine o_callV (ref13Valid _ r S d hr hs) rfl rfl ?_
 refine go 3 ?_
 refine cb rfl (fun h5 p5 => ?_) (fun h5 p5 => ?_)
 ·refine go 7 ?_
  refine fin1 rfl rfl ?_
  exact q_v (congrArg (Value.int .i64) (by simp only [chs, show validRep r = false by simpa using h5, Bool.true_eq_false, Bool.false_eq_true, if_true, if_false]))
 ·have hl4 := validRep_len (r := r) (by simpa using h5)
  refine go 9 ?_
  refine cb rfl (fun h7 p7 => ?_) (fun h7 p7 => ?_)
  ·refine go 5 ?_
   refine o_v rfl (v_add rfl rfl ⟨by omega, by have := hl4; omega⟩) ?_
   refine go 5 ?_
   refine fin1 rfl rfl ?_
   exact q_v (congrArg (Value.int .i64) (by simp only [chs, show validRep r = true by simpa using h5, h7, Bool.true_eq_false, Bool.false_eq_true, if_true, if_false]))
  ·refine go 11 ?_
   refine fin1 rfl rfl ?_
   exact q_v (congrArg (Value.int .i64) (by simp only [chs, show validRep r = true by simpa using h5, h7, Bool.true_eq_false, Bool.false_eq_true, if_true, if_false]))

theorem ref13Few (I : IMap) (v : Value) (l : List Rep) (hv : RdS I v l) (n : Int) :
    FnV Tryz.prog 30 #[v, .int .i64 n] I (.bool (fewR l n)) := by
 obtain ⟨A, c0, rfl, hA, hc, hm⟩ := hv
 refine enter Tryz.func30 Tryz.call30 rfl Tryz.ntmps30 rfl (fun w0 => ?_)
 refine go 12 ?_
 refine c_loop (α := Nat) 0 (fun i => I)
  (fun i => [(0, .slice A l.length c0), (1, .int .i64 n), (5, .int .i64 ((i : Nat) : Int))])
  (fun i => [])
  (fun i => i ≤ l.length ∧ allP (fun _ r => fewE r.options 6) l i = true)
  (fun i => l.length - i) ⟨Nat.zero_le _, rfl⟩ rfl sb rfl ?_
 intro i ⟨hi, hn⟩
 refine go 8 ?_
 refine sxb 10 rfl (fun h10 p10 => ?_) (fun h10 p10 => ?_)
 ·have hlt : i < l.length := by omega
  refine go 7 ?_
  refine cb rfl (fun h15 p15 => ?_) (fun h15 p15 => ?_)
  ·have hlt : i < l.length := by omega
   refine go 8 ?_
   obtain ⟨b20, o20, w20, e20, c20, r20⟩ := RdA.at_ hA (i := i) hlt
   obtain ⟨q20, rfl, S20, d20, rfl, hS20, hd20, hm20⟩ := r20
   refine o_v rfl (v_idx he rfl rfl e20 (i) (by omega) hlt) ?_
   refine go 1 ?_
   refine o_v rfl (v_ldI he rfl (c20 0 _ rfl)) ?_
   refine go 1 ?_
   refine o_callV (refFewE _ _ l[i].options ⟨_, _, rfl, hS20, hd20, hm20⟩ 6) rfl rfl ?_
   refine go 3 ?_
   refine cb rfl (fun h24 p24 => ?_) (fun h24 p24 => ?_)
   ·refine go 11 ?_
    refine fin1 rfl rfl ?_
    exact q_v (congrArg Value.bool (by simp only [fewR, allP_not (f := fun _ r => fewE r.options 6) hlt (by simpa using h24), bS]))
   ·refine go 9 ?_
    exact q_next (i + 1) ⟨by omega, allP_succ hn hlt (by simpa using h24)⟩ (by omega) rfl sb rfl
  ·refine go 15 ?_
   refine fin1 rfl rfl ?_
   exact q_v (congrArg Value.bool (by rw [fewR, show decide (((l.length : Nat) : Int) ≤ n) = false from decide_eq_false (by omega)]; simp))
 ·refine go 7 ?_
  refine c_false rfl ?_
  refine go 15 ?_
  refine fin1 rfl rfl ?_
  have e : i = l.length := (by omega)
  subst e
  exact q_v (congrArg Value.bool (by simp only [fewR, hn, bS]))

theorem ref15Given (I : IMap) (vc : Value) (c : List Kind) (hvc : RdS I vc c) (hsc : SmC c) (v : Value) (l : List Rep) (hv : RdS I v l) (hsl : ∀ r ∈ l, ∀ e ∈ r.options, SmE e) :
    FnV Tryz.prog 65 #[.agg #[vc], v] I (.bool (givF c l)) := by
 obtain ⟨A, c0, rfl, hA, hc, hm⟩ := hv
 refine enter Tryz.func65 Tryz.call65 rfl Tryz.ntmps65 rfl (fun w0 => ?_)
 refine go 3 ?_
 refine o_box _ rfl rfl rfl (fun g2 => ?_)
 refine go 8 ?_
 refine o_callV (refValid _ vc c hvc hsc) rfl rfl ?_
 refine go 3 ?_
 refine cb rfl (fun h8 p8 => ?_) (fun h8 p8 => ?_)
 ·refine go 7 ?_
  refine fin1 rfl rfl ?_
  exact q_v (congrArg Value.bool (by simp only [givF, valid_same, show validR c = false by simpa using h8, bS]))
 ·refine go 9 ?_
  refine sx_drop ?_
  refine c_loop (α := Nat) 0 (fun i => I)
   (fun i => [(1, .slice A l.length c0), (5, .int .i64 ((i : Nat) : Int))])
   (fun i => [])
   (fun i => i ≤ l.length ∧ allP (fun _ r => validRep r) l i = true)
   (fun i => l.length - i) ⟨Nat.zero_le _, rfl⟩ rfl sb rfl ?_
  intro i ⟨hi, hn⟩
  refine go 9 ?_
  refine cb rfl (fun h12 p12 => ?_) (fun h12 p12 => ?_)
  ·have hlt : i < l.length := by omega
   refine go 8 ?_
   obtain ⟨b17, o17, w17, e17, c17, r17⟩ := RdA.at_ hA (i := i) hlt
   obtain ⟨q17, rfl, S17, d17, rfl, hS17, hd17, hm17⟩ := r17
   refine o_v rfl (v_idx he rfl rfl e17 (i) (by omega) hlt) ?_
   refine o_v rfl (v_ldIa he rfl c17 rfl) ?_
   refine go 1 ?_
   refine o_callV (ref13Valid _ l[i] S17 d17 ⟨_, _, rfl, hS17, hd17, hm17⟩ (hsl _ (List.getElem_mem hlt))) rfl rfl ?_
   refine go 3 ?_
   refine cb rfl (fun h20 p20 => ?_) (fun h20 p20 => ?_)
   ·refine go 11 ?_
    refine fin1 rfl rfl ?_
    exact q_v (congrArg Value.bool (by simp only [givF, allP_not (f := fun _ r => validRep r) hlt (by simpa using h20), bS]))
   ·refine go 9 ?_
    exact q_next (i + 1) ⟨by omega, allP_succ hn hlt (by simpa using h20)⟩ (by omega) rfl sb rfl
  ·refine go 11 ?_
   refine fin1 rfl rfl ?_
   have e : i = l.length := (by omega)
   subst e
   exact q_v (congrArg Value.bool (by simp only [givF, valid_same, show validR c = true by simpa using h8, hn, bS]))

end Go.Proofs.YtoadjlmbdliceaaGreat

