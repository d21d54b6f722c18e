/- Walks, printed by a program out of the code of the functions: each theorem is a contract of one function. -/
import Derived.Test.YtkmdojpfccjnoaaGreatW21
import Derived.Test.YtkmdojpfccjnoaaGreatRepS
import Derived.Test.YtkmdojpfccjnoaaGreatSxKey2
namespace Go.Proofs.YtkmdojpfccjnoaaGreat
open Go Go.Sx
set_option linter.all false
set_option maxRecDepth 20000
set_option maxHeartbeats 4000000
instance T.elt_25 : Has (eltK Tryz.prog 25) (37, 2) := ⟨by kernel_rfl⟩
instance T.elt_26 : Has (eltK Tryz.prog 26) (3, 1) := ⟨by kernel_rfl⟩
instance T.fld_37_0 : Has (fldK Tryz.prog 37 0) (0, false, 1) := ⟨by kernel_rfl⟩
instance T.fld_37_1 : Has (fldK Tryz.prog 37 1) (1, false, 1) := ⟨by kernel_rfl⟩
instance T.ty_25 : Has (tyK Tryz.prog 25) (false, 1) := ⟨by kernel_rfl⟩
instance T.ty_26 : Has (tyK Tryz.prog 26) (false, 1) := ⟨by kernel_rfl⟩
instance T.ty_35 : Has (tyK Tryz.prog 35) (false, 1) := ⟨by kernel_rfl⟩
instance T.ty_37 : Has (tyK Tryz.prog 37) (true, 2) := ⟨by kernel_rfl⟩
instance T.und_25 : Has (Tryz.prog.underlying 25) (.slice 37) := ⟨by kernel_rfl⟩
instance T.und_26 : Has (Tryz.prog.underlying 26) (.slice 3) := ⟨by kernel_rfl⟩
instance T.und_79 : Has (Tryz.prog.underlying 79) (.map 53 4) := ⟨by kernel_rfl⟩
instance T.zero_37 : Has (zeroK Tryz.prog 37) [.slice none 0 0, .bool false] := ⟨by kernel_rfl⟩
theorem keyEvt : KeyOK Tryz.prog 53 encE := key_struct (cells := Evt.cells) (by kernel_rfl) (fun p q => eqS_Evt p q) (fun p => by kernel_rfl) (fun p => by simp [Evt.cells, bits_str, bits_int])

theorem repValid (I : IMap) (r : Rep) (S : Option Addr) (d : Nat) (hr : RdS I (.slice S r.options.length d) r.options) (hs : ∀ e ∈ r.options, SmE e) :
    FnV Tryz.prog 21 #[.agg (r.cells (.slice S r.options.length d)).toArray] I (.bool (validRep r)) := by
 have hSA : RdA I S r.options := (by obtain ⟨_, _, e, h, _⟩ := hr; cases e; exact h)
 have hl4 : d ≤ 9223372036854775807 := (by obtain ⟨_, _, e, h, h1, h2⟩ := hr; cases e; exact h2)
 have hl5 := hr.lenLe
 refine enter Tryz.func21 Tryz.call21 rfl Tryz.ntmps21 rfl (fun w0 => ?_)
 refine go 3 ?_
 refine o_box _ rfl rfl rfl (fun g1 => ?_)
 refine go 5 ?_
 refine c_cut (I' := I) (L' := [(1, .pointer (some ⟨g1, 0, none⟩)), (15, .bool (decide (((r.options.length : Nat) : Int) = 0) || decide ((4 : Int) < (r.options.length : Nat))))]) (H' := [.blk g1 37 (r.cells (.slice S r.options.length d))]) ?_ ?_
 ·refine go 6 ?_
  refine sxb 10 rfl (fun h10 p10 => ?_) (fun h10 p10 => ?_)
  ·refine go 7 ?_
   exact q_cut ⟨rfl, (congrArg (fun b => some (Value.bool b)) (by simp only [h10, bS])), trivial⟩ rfl rfl
  ·refine go 7 ?_
   exact q_cut ⟨rfl, (congrArg (fun b => some (Value.bool b)) (by simp only [h10, bS])), trivial⟩ rfl rfl
 ·refine cb rfl (fun h15 p15 => ?_) (fun h15 p15 => ?_)
  ·refine go 7 ?_
   refine fin1 rfl rfl ?_
   exact q_v (congrArg Value.bool (by simp only [validRep, h15]; rfl))
  ·refine go 5 ?_
   refine o_map0 (encE) he rfl (fun r16 => ?_)
   refine go 13 ?_
   refine c_loop (α := Nat) 0 (fun i => I)
    (fun i => [(1, .pointer (some ⟨g1, 0, none⟩)), (3, .map (some r16)), (18, .slice S r.options.length d), (19, .int .i64 ((r.options.length : Nat) : Int)), (20, .int .i64 ((i : Nat) : Int))])
    (fun i => [.mp r16 (emap encE (kvsOf _root_.id (fun _ => Value.bool true) (r.options.take i))), .blk g1 37 (r.cells (.slice S r.options.length d))])
    (fun i => i ≤ r.options.length ∧ allP optFine r.options i = true)
    (fun i => r.options.length - i) ⟨Nat.zero_le _, rfl⟩ rfl sb rfl ?_
   intro i ⟨hi, hn⟩
   refine go 6 ?_
   refine cb rfl (fun h21 p21 => ?_) (fun h21 p21 => ?_)
   ·have hlt : i < r.options.length := by omega
    refine go 6 ?_
    obtain ⟨b22, o22, w22, e22, c22, r22⟩ := RdA.at_ hSA (i := i) hlt
    obtain rfl := r22
    refine o_v rfl (v_idx he rfl rfl e22 (i) (by omega) hlt) ?_
    refine o_v rfl (v_ldIa he rfl c22 rfl) ?_
    refine go 1 ?_
    refine o_alloc he rfl (fun g5 => ?_)
    refine go 1 ?_
    refine o_stw _ he rfl rfl rfl rfl rfl rfl ?_
    refine go 4 ?_
    refine c_cut (I' := I) (L' := [(1, .pointer (some ⟨g1, 0, none⟩)), (3, .map (some r16)), (18, .slice S r.options.length d), (19, .int .i64 ((r.options.length : Nat) : Int)), (20, .int .i64 ((i : Nat) : Int)), (5, .pointer (some ⟨g5, 0, none⟩)), (31, .bool (hit _root_.id (r.options.take i) r.options[i] || !validE r.options[i]))]) (H' := [.blk g5 53 r.options[i].cells, .mp r16 (emap encE (kvsOf _root_.id (fun _ => Value.bool true) (r.options.take i))), .blk g1 37 (r.cells (.slice S r.options.length d))]) ?_ ?_
    ·refine go 3 ?_
     refine o_v rfl (v_get m1 (keyEvt) he he (r.options[i]) rfl rfl (kvs_hit1 _root_.id _ _)) ?_
     refine go 1 ?_
     refine sxb 27 rfl (fun h27 p27 => ?_) (fun h27 p27 => ?_)
     ·refine go 6 ?_
      exact q_cut ⟨rfl, rfl, rfl, rfl, rfl, rfl, (congrArg (fun b => some (Value.bool b)) (by simp only [h21, h27, bS])), trivial⟩ rfl rfl
     ·refine go 2 ?_
      refine o_yes rfl rfl h27 (o_callV (evValid _ r.options[i] (hs _ (List.getElem_mem hlt))) rfl rfl ?_)
      refine go 4 ?_
      exact q_cut ⟨rfl, rfl, rfl, rfl, rfl, rfl, (congrArg (fun b => some (Value.bool b)) (by simp only [h21, h27, bS])), trivial⟩ rfl rfl
    ·refine cb rfl (fun h31 p31 => ?_) (fun h31 p31 => ?_)
     ·refine go 12 ?_
      refine fin1 rfl rfl ?_
      exact q_v (congrArg Value.bool (by simp only [validRep, h15, allP_not hlt (show optFine (r.options.take i) r.options[i] = false from (congrArg not h31).trans rfl), bS]))
     ·refine go 6 ?_
      have h31n : hit _root_.id (r.options.take i) r.options[i] = false := by revert h31; cases hit _root_.id (r.options.take i) r.options[i] <;> simp
      refine bring1 ?_
      refine o_mapPut (kvsOf _root_.id (fun _ => Value.bool true) (r.options.take (i + 1))) (keyEvt) he (r.options[i]) rfl rfl rfl ((kvs_put _root_.id (fun _ => Value.bool true) (r.options.take i) r.options[i] (hit_none h31n)).trans (by rw [take_succ_of hlt])) ?_
      refine go 8 ?_
      refine bring1 ?_
      refine sx_drop ?_
      exact q_next (i + 1) ⟨by omega, allP_succ hn hlt (show optFine (r.options.take i) r.options[i] = true from (congrArg not h31).trans rfl)⟩ (by omega) rfl sb rfl
   ·refine go 11 ?_
    refine fin1 rfl rfl ?_
    have e : i = r.options.length := (by omega)
    subst e
    exact q_v (congrArg Value.bool (by simp only [validRep, hn, h15]; rfl))

theorem repChoices (I : IMap) (r : Rep) (S : Option Addr) (d : Nat) (hr : RdS I (.slice S r.options.length d) r.options) (hs : ∀ e ∈ r.options, SmE e) :
    FnV Tryz.prog 41 #[.agg (r.cells (.slice S r.options.length d)).toArray] I (.int .i64 (chs r)) := by
 have hl5 := hr.lenLe
 refine enter Tryz.func41 Tryz.call41 rfl Tryz.ntmps41 rfl (fun w0 => ?_)
 refine go 3 ?_
 refine o_box _ rfl rfl rfl (fun g1 => ?_)
 refine go 9 ?_
 refine o_callV (repValid _ r S d hr hs) rfl rfl ?_
 refine go 4 ?_
 refine cb rfl (fun h3 p3 => ?_) (fun h3 p3 => ?_)
 ·refine go 8 ?_
  refine fin1 rfl rfl ?_
  exact q_v (congrArg (Value.int .i64) (by simp only [chs, show validRep r = false by simpa using h3, Bool.true_eq_false, Bool.false_eq_true, if_true, if_false]))
 ·have hl4 := validRep_len (r := r) (by simpa using h3)
  refine go 7 ?_
  refine cb rfl (fun h7 p7 => ?_) (fun h7 p7 => ?_)
  ·refine go 5 ?_
   refine o_v rfl (v_add rfl rfl ⟨by omega, by have := hl4; omega⟩) ?_
   refine go 6 ?_
   refine fin1 rfl rfl ?_
   exact q_v (congrArg (Value.int .i64) (by simp only [chs, show validRep r = true by simpa using h3, h7, Bool.true_eq_false, Bool.false_eq_true, if_true, if_false]))
  ·refine go 12 ?_
   refine fin1 rfl rfl ?_
   exact q_v (congrArg (Value.int .i64) (by simp only [chs, show validRep r = true by simpa using h3, h7, Bool.true_eq_false, Bool.false_eq_true, if_true, if_false]))

theorem hiGiven (I : IMap) (vc : Value) (c : List Kind) (hvc : RdS I vc c) (hsc : SmC c) (v : Value) (l : List Rep) (hv : RdS I v l) (hsl : ∀ r ∈ l, ∀ e ∈ r.options, SmE e) (w : Value) (ch : List Int) (hw : RdS I w ch) (n : Int) :
    FnV Tryz.prog 27 #[.agg #[vc], v, w, .int .i64 n] I (.bool (givenF c l ch n)) := by
 obtain ⟨A, c0, rfl, hA, hc, hm⟩ := hv
 obtain ⟨B, c1, rfl, hB, hc1, hm1⟩ := hw
 refine enter Tryz.func27 Tryz.call27 rfl Tryz.ntmps27 rfl (fun w0 => ?_)
 refine go 3 ?_
 refine o_box _ rfl rfl rfl (fun g4 => ?_)
 refine go 5 ?_
 refine c_cut (I' := I) (L' := [(4, .pointer (some ⟨g4, 0, none⟩)), (1, .slice A l.length c0), (2, .slice B ch.length c1), (3, .int .i64 n), (21, .bool (!validC c || !decide (((ch.length : Nat) : Int) = (l.length : Nat))))]) (H' := [.blk g4 24 [vc]]) ?_ ?_
 ·refine go 3 ?_
  refine o_callV (catValid _ vc c hvc hsc) rfl rfl ?_
  refine go 2 ?_
  refine sxb 15 rfl (fun h15 p15 => ?_) (fun h15 p15 => ?_)
  ·refine go 8 ?_
   exact q_cut ⟨rfl, rfl, rfl, rfl, (congrArg (fun b => some (Value.bool b)) (by simp only [h15, bS])), trivial⟩ rfl rfl
  ·refine go 8 ?_
   exact q_cut ⟨rfl, rfl, rfl, rfl, (congrArg (fun b => some (Value.bool b)) (by simp only [h15, bS])), trivial⟩ rfl rfl
 ·refine cb rfl (fun h21 p21 => ?_) (fun h21 p21 => ?_)
  ·refine go 7 ?_
   refine fin1 rfl rfl ?_
   exact q_v (congrArg Value.bool (by simp only [givenF, h21]; rfl))
  ·have hlc : ch.length = l.length := by revert h21; simp; omega
   refine go 11 ?_
   refine c_loop (α := Nat) 0 (fun i => I)
    (fun i => [(4, .pointer (some ⟨g4, 0, none⟩)), (1, .slice A l.length c0), (2, .slice B ch.length c1), (3, .int .i64 n), (22, .slice A l.length c0), (23, .int .i64 ((l.length : Nat) : Int)), (24, .int .i64 ((i : Nat) : Int))])
    (fun i => [.blk g4 24 [vc]])
    (fun i => i ≤ l.length ∧ allTo (chFine n) l ch i = true)
    (fun i => l.length - i) ⟨Nat.zero_le _, rfl⟩ rfl sb rfl ?_
   intro i ⟨hi, hn⟩
   refine go 6 ?_
   refine cb rfl (fun h25 p25 => ?_) (fun h25 p25 => ?_)
   ·have hlt : i < l.length := by omega
    have hlt2 : i < ch.length := by omega
    refine go 7 ?_
    obtain ⟨b27, o27, w27, e27, c27, r27⟩ := RdA.at_ hA (i := i) hlt
    obtain ⟨q27, rfl, S27, d27, rfl, hS27, hd27, hm27⟩ := r27
    refine o_v rfl (v_idx he rfl rfl e27 (i) (by omega) hlt) ?_
    refine o_v rfl (v_ldIa he rfl c27 rfl) ?_
    refine go 1 ?_
    refine o_alloc he rfl (fun g10 => ?_)
    refine go 2 ?_
    refine o_stw _ he rfl rfl rfl rfl rfl rfl ?_
    refine go 6 ?_
    refine o_callV (repChoices _ l[i] S27 d27 ⟨_, _, rfl, hS27, hd27, hm27⟩ (hsl _ (List.getElem_mem hlt))) rfl rfl ?_
    refine go 4 ?_
    refine c_cut (I' := I) (L' := [(4, .pointer (some ⟨g4, 0, none⟩)), (1, .slice A l.length c0), (2, .slice B ch.length c1), (3, .int .i64 n), (22, .slice A l.length c0), (23, .int .i64 ((l.length : Nat) : Int)), (24, .int .i64 ((i : Nat) : Int)), (48, .bool ((decide (chs l[i] = 0) || decide (ch[i] < n)) || decide (chs l[i] ≤ ch[i])))]) (H' := [.blk g4 24 [vc]]) ?_ ?_
    ·refine go 4 ?_
     refine sxb 33 rfl (fun h33 p33 => ?_) (fun h33 p33 => ?_)
     ·refine go 17 ?_
      refine sx_drop ?_
      exact q_cut ⟨rfl, rfl, rfl, rfl, rfl, rfl, rfl, (congrArg (fun b => some (Value.bool b)) (by simp only [h25, h33, bS])), trivial⟩ rfl rfl
     ·refine go 2 ?_
      obtain ⟨b36, o36, w36, e36, c36, r36⟩ := RdA.at_ hB (i := i) hlt2
      obtain rfl := r36
      refine o_cons (o_yes rfl rfl h33 (o_val rfl (v_idx he rfl rfl e36 (i) (by omega) hlt2) ?_))
      refine o_cons (o_yes rfl rfl h33 (o_val rfl (v_ldI he rfl (c36 0 _ rfl)) ?_))
      refine go 4 ?_
      refine sxb 41 rfl (fun h41 p41 => ?_) (fun h41 p41 => ?_)
      ·refine go 9 ?_
       refine sx_drop ?_
       exact q_cut ⟨rfl, rfl, rfl, rfl, rfl, rfl, rfl, (congrArg (fun b => some (Value.bool b)) (by simp only [h25, h33, h41, bS])), trivial⟩ rfl rfl
      ·refine go 2 ?_
       obtain ⟨b44, o44, w44, e44, c44, r44⟩ := RdA.at_ hB (i := i) hlt2
       obtain rfl := r44
       refine o_cons (o_yes rfl rfl h41 (o_val rfl (v_idx he rfl rfl e44 (i) (by omega) hlt2) ?_))
       refine o_cons (o_yes rfl rfl h41 (o_val rfl (v_ldI he rfl (c44 0 _ rfl)) ?_))
       refine go 5 ?_
       refine sx_drop ?_
       exact q_cut ⟨rfl, rfl, rfl, rfl, rfl, rfl, rfl, (congrArg (fun b => some (Value.bool b)) (by simp only [h25, h33, h41, bS])), trivial⟩ rfl rfl
    ·refine cb rfl (fun h48 p48 => ?_) (fun h48 p48 => ?_)
     ·refine go 11 ?_
      refine fin1 rfl rfl ?_
      exact q_v (congrArg Value.bool (by simp only [givenF, h21, allTo_not (f := chFine n) hlt hlt hlt2 (by simp only [chFine, h48]; rfl), bS]))
     ·refine go 8 ?_
      exact q_next (i + 1) ⟨by omega, allTo_succ hn hlt hlt2 (by simp only [chFine, h48]; rfl)⟩ (by omega) rfl sb rfl
   ·refine go 11 ?_
    refine fin1 rfl rfl ?_
    have e : i = l.length := (by omega)
    subst e
    exact q_v (congrArg Value.bool (by simp only [givenF, hn, h21]; rfl))

theorem hiDays (I : IMap) (A B : Option Addr) (a c b d : Nat) :
    FnI Tryz.prog 34 #[.slice A a c, .slice B b d] I (fun u J => ∃ g2 g3, u = .func (.func 54) #[] #[.pointer (some ⟨g2, 0, none⟩), .pointer (some ⟨g3, 0, none⟩)] ∧ ICells J g2 0 [.slice A a c] ∧ ICells J g3 0 [.slice B b d]) := by
 refine enter Tryz.func34 Tryz.call34 rfl Tryz.ntmps34 rfl (fun w0 => ?_)
 refine go 3 ?_
 refine o_box _ rfl rfl rfl (fun g2 => ?_)
 refine go 1 ?_
 refine o_box _ rfl rfl rfl (fun g3 => ?_)
 refine go 5 ?_
 refine bring1 ?_
 refine sx_pub (fun Ig2 jg2 cg2 => ?_)
 refine sx_pub (fun Ig3 jg3 cg3 => ?_)
 have cg2 := (cg2).le jg3
 refine o_v rfl (v_makeFunc rfl rfl) ?_
 refine go 4 ?_
 refine fin1 rfl rfl ?_
 exact q_i ⟨_, _, rfl, cg2, cg3⟩

theorem daysIt (I : IMap) (v : Value) (l : List Rep) (hv : RdS I v l) (w : Value) (ch : List Int) (hw : RdS I w ch) (hlc : ch.length = l.length) (g2 g3 : Nat) (c2 : ICells I g2 0 [v]) (c3 : ICells I g3 0 [w]) :
    FnIt Tryz.prog 54 [.pointer (some ⟨g2, 0, none⟩), .pointer (some ⟨g3, 0, none⟩)] I (fun _ vs (x : Int) => vs = [ci x]) (fun pre x => pre ++ [x] <+: openDays l ch l.length) (fun pre => pre = openDays l ch l.length) (fun _ => True) := by
 obtain ⟨A, c0, rfl, hA, hc, hm⟩ := hv
 obtain ⟨B, c1, rfl, hB, hc1, hm1⟩ := hw
 intro ly J I1 Hc hI1 hJm hY hJ0
 have hA := hA.le hI1
 have hB := hB.le hI1
 have c2 := c2.le hI1
 have c3 := c3.le hI1
 refine enter Tryz.func54 Tryz.call54 rfl Tryz.ntmps54 rfl (fun w0 => ?_)
 refine go 2 ?_
 refine o_v rfl (v_ldI he rfl (c2 0 _ rfl)) ?_
 refine go 5 ?_
 refine c_loop3 ((0 : Nat)) (I1) (Hc) (fun i I2 Hc => I2)
  (fun i I2 Hc => [(0, .func (.yield ly) #[] #[]), (1, .pointer (some ⟨g2, 0, none⟩)), (2, .pointer (some ⟨g3, 0, none⟩)), (8, .slice A l.length c0), (9, .int .i64 ((l.length : Nat) : Int)), (10, .int .i64 ((i : Nat) : Int))])
  (fun i I2 Hc => Hc)
  (fun i I2 Hc => i ≤ l.length ∧ ILe I1 I2 ∧ J true (openDays l ch i) I2 Hc)
  (fun i I2 Hc => l.length - i) ⟨Nat.zero_le _, ILe.refl _, hJ0⟩ rfl sb rfl ?_
 intro i I2 Hc ⟨hi, hI2, hJ⟩
 have hA := hA.le hI2
 have hB := hB.le hI2
 have c3 := c3.le hI2
 refine go 6 ?_
 refine cb rfl (fun h11 p11 => ?_) (fun h11 p11 => ?_)
 ·have hlt : i < l.length := by omega
  have hlt2 : i < ch.length := by omega
  refine go 7 ?_
  obtain ⟨b13, o13, w13, e13, c13, r13⟩ := RdA.at_ hA (i := i) hlt
  obtain ⟨q13, rfl, S13, d13, rfl, hS13, hd13, hm13⟩ := r13
  refine o_v rfl (v_idx he rfl rfl e13 (i) (by omega) hlt) ?_
  refine o_v rfl (v_ldIa he rfl c13 rfl) ?_
  refine go 1 ?_
  refine o_alloc he rfl (fun g5 => ?_)
  refine go 2 ?_
  refine o_stw _ he rfl rfl rfl rfl rfl rfl ?_
  refine go 11 ?_
  refine c_loop3 ((0 : Nat)) (I2) (Hc) (fun j I3 Hc3 => I3)
   (fun j I3 Hc3 => [(0, .func (.yield ly) #[] #[]), (1, .pointer (some ⟨g2, 0, none⟩)), (2, .pointer (some ⟨g3, 0, none⟩)), (8, .slice A l.length c0), (9, .int .i64 ((l.length : Nat) : Int)), (10, .int .i64 ((i : Nat) : Int)), (4, .int .i64 ((i : Nat) : Int)), (5, .pointer (some ⟨g5, 0, none⟩)), (16, .slice S13 l[i].options.length d13), (17, .int .i64 ((l[i].options.length : Nat) : Int)), (18, .int .i64 ((j : Nat) : Int))])
   (fun j I3 Hc3 => .blk g5 37 (l[i].cells (.slice S13 l[i].options.length d13)) :: Hc3)
   (fun j I3 Hc3 => j ≤ l[i].options.length ∧ ILe I2 I3 ∧ J true (openTo l ch i j) I3 Hc3)
   (fun j I3 Hc3 => l[i].options.length - j) ⟨Nat.zero_le _, ILe.refl _, by rw [openTo_zero]; exact hJ⟩ rfl sb rfl ?_
  intro j I3 Hc3 ⟨hj, hI3, hJ3⟩
  have hB := hB.le hI3
  have c3 := c3.le hI3
  have hS13 := hS13.le hI3
  refine go 6 ?_
  refine cb rfl (fun h19 p19 => ?_) (fun h19 p19 => ?_)
  ·have hlj : j < l[i].options.length := by omega
   refine go 6 ?_
   obtain ⟨b20, o20, w20, e20, c20, r20⟩ := RdA.at_ hS13 (i := j) hlj
   obtain rfl := r20
   refine o_v rfl (v_idx he rfl rfl e20 (j) (by omega) hlj) ?_
   refine o_v rfl (v_ldIa he rfl c20 rfl) ?_
   refine go 1 ?_
   refine o_alloc he rfl (fun g7 => ?_)
   refine go 1 ?_
   refine o_stw _ he rfl rfl rfl rfl rfl rfl ?_
   refine go 4 ?_
   refine o_v rfl (v_ldI he rfl (c3 0 _ rfl)) ?_
   refine go 1 ?_
   obtain ⟨b24, o24, w24, e24, c24, r24⟩ := RdA.at_ hB (i := i) hlt2
   obtain rfl := r24
   refine o_v rfl (v_idx he rfl rfl e24 (i) (by omega) hlt2) ?_
   refine o_v rfl (v_ldI he rfl (c24 0 _ rfl)) ?_
   refine go 2 ?_
   refine sxb 27 rfl (fun h27 p27 => ?_) (fun h27 p27 => ?_)
   ·refine go 4 ?_
    refine o_yes rfl rfl h27 (o_yield2 (l[i].options[j].day) hY (hJm _ _ _ _ _ (ILe.refl _) hJ3) (rfl) (openTo_pre hlt hlt2 p27 hlj) rfl rfl rfl (fun b31 I31 Hc31 j31 hJ31 => ?_))
    refine go 4 ?_
    refine cb rfl (fun h33 p33 => ?_) (fun h33 p33 => ?_)
    ·have hb31 : b31 = false := by simpa using h33
     refine go 9 ?_
     refine fin0 rfl ?_
     refine sx_drop ?_
     refine sx_drop ?_
     subst hb31
     exact q_it false _ hJ31 trivial
    ·have hb31 : b31 = true := by simpa using h33
     refine go 8 ?_
     refine sx_drop ?_
     exact q_next3 (j + 1) (I31) (Hc31) ⟨by omega, hI3.trans j31, by rw [openTo_step hlt hlt2 p27 hlj]; exact hb31 ▸ hJ31⟩ (by omega) rfl sb rfl
   ·refine go 8 ?_
    refine c_false rfl ?_
    refine go 8 ?_
    refine sx_drop ?_
    exact q_next3 (j + 1) (I3) (Hc3) ⟨by omega, hI3, by rw [openTo_skip hlt hlt2 p27 j]; exact hJ3⟩ (by omega) rfl sb rfl
  ·refine go 11 ?_
   refine sx_drop ?_
   exact q_next3 (i + 1) (I3) (Hc3) ⟨by omega, hI2.trans hI3, by rw [← openTo_all hlt hlt2]; exact (show j = l[i].options.length by omega) ▸ hJ3⟩ (by omega) rfl sb rfl
 ·have hil : i = l.length := by omega
  refine go 4 ?_
  refine end0 rfl ?_
  exact q_it true _ hJ (by rw [hil]; rfl)

end Go.Proofs.YtkmdojpfccjnoaaGreat
