/- Walks, printed by a program out of the code of the functions: each theorem is a contract of one function. -/
import Derived.Test.YtkmdojpfccjnoaaGreatW31
import Derived.Test.YtkmdojpfccjnoaaGreatRepB
import Derived.Test.YtkmdojpfccjnoaaGreatM14
namespace Go.Proofs.YtkmdojpfccjnoaaGreat
open Go Go.Sx
set_option linter.all false
set_option maxRecDepth 20000
set_option maxHeartbeats 4000000
instance T.by_3 : Has (bytesK Tryz.prog 3) ([.int .i64 0], 1, 8) := ⟨by kernel_rfl⟩
instance T.elt_33 : Has (eltK Tryz.prog 33) (5, 1) := ⟨by kernel_rfl⟩
instance T.und_33 : Has (Tryz.prog.underlying 33) (.slice 5) := ⟨by kernel_rfl⟩
theorem ref13Valid (I : IMap) (r : Rep) (S : Option Addr) (d : Nat) (hr : RdS I (.slice S r.options.length d) r.options) (hs : ∀ e ∈ r.options, SmE e) :
    FnV Tryz.prog 39 #[.agg (r.cells (.slice S r.options.length d)).toArray] I (.bool (validRep r)) := by
 have hSA : RdA I S r.options := (by obtain ⟨_, _, e, h, _⟩ := hr; cases e; exact h)
 have hl4 : d ≤ 9223372036854775807 := (by obtain ⟨_, _, e, h, h1, h2⟩ := hr; cases e; exact h2)
 have hl5 := hr.lenLe
 refine enter Tryz.func39 Tryz.call39 rfl Tryz.ntmps39 rfl (fun w0 => ?_)
 refine go 3 ?_
 refine o_box _ rfl rfl rfl (fun g1 => ?_)
 refine go 5 ?_
 refine c_cut (I' := I) (L' := [(1, .pointer (some ⟨g1, 0, none⟩)), (14, .bool (decide (((r.options.length : Nat) : Int) < 1) || decide ((4 : Int) < (r.options.length : Nat))))]) (H' := [.blk g1 37 (r.cells (.slice S r.options.length d))]) ?_ ?_
 ·refine go 6 ?_
  refine sxb 9 rfl (fun h9 p9 => ?_) (fun h9 p9 => ?_)
  ·refine go 7 ?_
   exact q_cut ⟨rfl, (congrArg (fun b => some (Value.bool b)) (by simp only [h9, bS])), trivial⟩ rfl rfl
  ·refine go 7 ?_
   exact q_cut ⟨rfl, (congrArg (fun b => some (Value.bool b)) (by simp only [h9, bS])), trivial⟩ rfl rfl
 ·refine cb rfl (fun h14 p14 => ?_) (fun h14 p14 => ?_)
  ·refine go 7 ?_
   refine fin1 rfl rfl ?_
   exact q_v (congrArg Value.bool (by simp only [validRep, show decide (((r.options.length : Nat) : Int) = 0) = decide (((r.options.length : Nat) : Int) < 1) from by rw [decide_eq_decide]; omega, h14]; rfl))
  ·refine go 9 ?_
   refine c_loop (α := Nat) 0 (fun i => I)
    (fun i => [(1, .pointer (some ⟨g1, 0, none⟩)), (3, .int .i64 ((i : Nat) : Int))])
    (fun i => [.blk g1 37 (r.cells (.slice S r.options.length d))])
    (fun i => i ≤ r.options.length ∧ allP optFine r.options i = true)
    (fun i => r.options.length - i) ⟨Nat.zero_le _, rfl⟩ rfl sb rfl ?_
   intro i ⟨hi, hn⟩
   refine go 10 ?_
   refine cb rfl (fun h19 p19 => ?_) (fun h19 p19 => ?_)
   ·have hlt : i < r.options.length := by omega
    refine go 10 ?_
    obtain ⟨b25, o25, w25, e25, c25, r25⟩ := RdA.at_ hSA (i := i) hlt
    obtain rfl := r25
    refine o_v rfl (v_idx he rfl rfl e25 (i) (by omega) hlt) ?_
    refine o_v rfl (v_ldIa he rfl c25 rfl) ?_
    refine go 1 ?_
    refine o_callV (ref09Valid _ r.options[i] (hs _ (List.getElem_mem hlt))) rfl rfl ?_
    refine go 3 ?_
    refine cb rfl (fun h28 p28 => ?_) (fun h28 p28 => ?_)
    ·refine go 12 ?_
     refine fin1 rfl rfl ?_
     exact q_v (congrArg Value.bool (by simp only [validRep, show decide (((r.options.length : Nat) : Int) = 0) = decide (((r.options.length : Nat) : Int) < 1) from by rw [decide_eq_decide]; omega, h14, allP_not hlt (show optFine (r.options.take i) r.options[i] = false by simp only [optFine, show validE r.options[i] = false by simpa using h28, bS]), bS]))
    ·refine go 8 ?_
     refine c_loop (α := Nat) 0 (fun m => I)
      (fun m => [(1, .pointer (some ⟨g1, 0, none⟩)), (3, .int .i64 ((i : Nat) : Int)), (4, .int .i64 ((m : Nat) : Int))])
      (fun m => [.blk g1 37 (r.cells (.slice S r.options.length d))])
      (fun m => m ≤ i ∧ ∀ j x, j < m → r.options[j]? = some x → decide (x = r.options[i]) = false)
      (fun m => i - m) ⟨Nat.zero_le _, fun j x hj => absurd hj (Nat.not_lt_zero j)⟩ rfl sb rfl ?_
     intro m ⟨hmm, hq⟩
     refine go 8 ?_
     refine cb rfl (fun h31 p31 => ?_) (fun h31 p31 => ?_)
     ·have hlm : m < r.options.length := by omega
      refine go 5 ?_
      refine d_startH T.mixed ?_
      refine d_tv 0 rfl rfl (by kernel_rfl) rfl (.refl _) rfl (v_fieldAddr he rfl) ?_
      refine d_tv 1 rfl rfl (by kernel_rfl) rfl (.refl _) rfl (v_ld m0 he rfl rfl) ?_
      refine d_tv 2 rfl rfl (by kernel_rfl) rfl (.refl _) rfl (v_move rfl) ?_
      obtain ⟨b37, o37, w37, e37, c37, r37⟩ := RdA.at_ hSA (i := m) hlm
      obtain rfl := r37
      refine d_tv 3 rfl rfl (by kernel_rfl) rfl (.refl _) rfl (v_idx he rfl rfl e37 (m) (by omega) hlm) ?_
      refine d_tv 4 rfl rfl (by kernel_rfl) rfl (.refl _) rfl (v_ldIa he rfl c37 rfl) ?_
      refine d_tv 5 rfl rfl (by kernel_rfl) rfl (.refl _) rfl (v_fieldAddr he rfl) ?_
      refine d_tv 6 rfl rfl (by kernel_rfl) rfl (.refl _) rfl (v_ld m0 he rfl rfl) ?_
      refine d_tv 7 rfl rfl (by kernel_rfl) rfl (.refl _) rfl (v_move rfl) ?_
      obtain ⟨b42, o42, w42, e42, c42, r42⟩ := RdA.at_ hSA (i := i) hlt
      obtain rfl := r42
      refine d_tv 8 rfl rfl (by kernel_rfl) rfl (.refl _) rfl (v_idx he rfl rfl e42 (i) (by omega) hlt) ?_
      refine d_tv 9 rfl rfl (by kernel_rfl) rfl (.refl _) rfl (v_ldIa he rfl c42 rfl) ?_
      refine d_tv 10 rfl rfl (by kernel_rfl) rfl (.refl _) rfl (v_steql T.eqg_53 (eqS_Evt r.options[m] r.options[i]) rfl rfl) ?_
      refine d_done (by kernel_rfl) ?_
      refine go 1 ?_
      refine cb rfl (fun h44 p44 => ?_) (fun h44 p44 => ?_)
      ·refine go 15 ?_
       refine fin1 rfl rfl ?_
       exact q_v (congrArg Value.bool (by simp only [validRep, show decide (((r.options.length : Nat) : Int) = 0) = decide (((r.options.length : Nat) : Int) < 1) from by rw [decide_eq_decide]; omega, h14, allP_not hlt (show optFine (r.options.take i) r.options[i] = false by simp only [optFine, hit_take_yes (show m < i by omega) hlm h44, bS]), bS]))
      ·refine go 9 ?_
       exact q_next (m + 1) ⟨by omega, idx_next (p := fun x => decide (x = r.options[i])) hq (show m < r.options.length by omega) h44⟩ (by omega) rfl sb rfl
     ·refine go 12 ?_
      exact q_next (i + 1) ⟨by omega, allP_succ hn hlt (by simp only [optFine, hit_take_no hq (show i ≤ m by omega), p28, bS])⟩ (by omega) rfl sb rfl
   ·refine go 11 ?_
    refine fin1 rfl rfl ?_
    have e : i = r.options.length := (by omega)
    subst e
    exact q_v (congrArg Value.bool (by simp only [validRep, hn, show decide (((r.options.length : Nat) : Int) = 0) = decide (((r.options.length : Nat) : Int) < 1) from by rw [decide_eq_decide]; omega, h14]; rfl))

theorem ref13Choices (I : IMap) (r : Rep) (S : Option Addr) (d : Nat) (hr : RdS I (.slice S r.options.length d) r.options) (hs : ∀ e ∈ r.options, SmE e) :
    FnV Tryz.prog 37 #[.agg (r.cells (.slice S r.options.length d)).toArray] I (.int .i64 (chs r)) := by
 have hl5 := hr.lenLe
 refine enter Tryz.func37 Tryz.call37 rfl Tryz.ntmps37 rfl (fun w0 => ?_)
 refine go 3 ?_
 refine o_box _ rfl rfl rfl (fun g1 => ?_)
 refine go 8 ?_
 refine o_callV (ref13Valid _ r S d hr hs) rfl rfl ?_
 refine go 3 ?_
 refine cb rfl (fun h5 p5 => ?_) (fun h5 p5 => ?_)
 ·refine go 7 ?_
  refine fin1 rfl rfl ?_
  exact q_v (congrArg (Value.int .i64) (by simp only [chs, show validRep r = false by simpa using h5, Bool.true_eq_false, Bool.false_eq_true, if_true, if_false]))
 ·have hl4 := validRep_len (r := r) (by simpa using h5)
  refine go 9 ?_
  refine cb rfl (fun h7 p7 => ?_) (fun h7 p7 => ?_)
  ·refine go 5 ?_
   refine o_v rfl (v_add rfl rfl ⟨by omega, by have := hl4; omega⟩) ?_
   refine go 5 ?_
   refine fin1 rfl rfl ?_
   exact q_v (congrArg (Value.int .i64) (by simp only [chs, show validRep r = true by simpa using h5, h7, Bool.true_eq_false, Bool.false_eq_true, if_true, if_false]))
  ·refine go 11 ?_
   refine fin1 rfl rfl ?_
   exact q_v (congrArg (Value.int .i64) (by simp only [chs, show validRep r = true by simpa using h5, h7, Bool.true_eq_false, Bool.false_eq_true, if_true, if_false]))

theorem ref13Few (I : IMap) (v : Value) (l : List Rep) (hv : RdS I v l) (n : Int) :
    FnV Tryz.prog 44 #[v, .int .i64 n] I (.bool (fewR l n)) := by
 obtain ⟨A, c0, rfl, hA, hc, hm⟩ := hv
 refine enter Tryz.func44 Tryz.call44 rfl Tryz.ntmps44 rfl (fun w0 => ?_)
 refine go 12 ?_
 refine c_loop (α := Nat) 0 (fun i => I)
  (fun i => [(0, .slice A l.length c0), (1, .int .i64 n), (5, .int .i64 ((i : Nat) : Int))])
  (fun i => [])
  (fun i => i ≤ l.length ∧ allP (fun _ r => fewE r.options 6) l i = true)
  (fun i => l.length - i) ⟨Nat.zero_le _, rfl⟩ rfl sb rfl ?_
 intro i ⟨hi, hn⟩
 refine go 8 ?_
 refine sxb 10 rfl (fun h10 p10 => ?_) (fun h10 p10 => ?_)
 ·have hlt : i < l.length := by omega
  refine go 7 ?_
  refine cb rfl (fun h15 p15 => ?_) (fun h15 p15 => ?_)
  ·have hlt : i < l.length := by omega
   refine go 8 ?_
   obtain ⟨b20, o20, w20, e20, c20, r20⟩ := RdA.at_ hA (i := i) hlt
   obtain ⟨q20, rfl, S20, d20, rfl, hS20, hd20, hm20⟩ := r20
   refine o_v rfl (v_idx he rfl rfl e20 (i) (by omega) hlt) ?_
   refine go 1 ?_
   refine o_v rfl (v_ldI he rfl (c20 0 _ rfl)) ?_
   refine go 1 ?_
   refine o_callV (refFewE _ _ l[i].options ⟨_, _, rfl, hS20, hd20, hm20⟩ 6) rfl rfl ?_
   refine go 3 ?_
   refine cb rfl (fun h24 p24 => ?_) (fun h24 p24 => ?_)
   ·refine go 11 ?_
    refine fin1 rfl rfl ?_
    exact q_v (congrArg Value.bool (by simp only [fewR, allP_not (f := fun _ r => fewE r.options 6) hlt (by simpa using h24), bS]))
   ·refine go 9 ?_
    exact q_next (i + 1) ⟨by omega, allP_succ hn hlt (by simpa using h24)⟩ (by omega) rfl sb rfl
  ·refine go 15 ?_
   refine fin1 rfl rfl ?_
   exact q_v (congrArg Value.bool (by rw [fewR, show decide (((l.length : Nat) : Int) ≤ n) = false from decide_eq_false (by omega)]; simp))
 ·refine go 7 ?_
  refine c_false rfl ?_
  refine go 15 ?_
  refine fin1 rfl rfl ?_
  have e : i = l.length := (by omega)
  subst e
  exact q_v (congrArg Value.bool (by simp only [fewR, hn, bS]))

theorem ref15Given (I : IMap) (vc : Value) (c : List Kind) (hvc : RdS I vc c) (hsc : SmC c) (v : Value) (l : List Rep) (hv : RdS I v l) (hsl : ∀ r ∈ l, ∀ e ∈ r.options, SmE e) :
    FnV Tryz.prog 18 #[.agg #[vc], v] I (.bool (givF c l)) := by
 obtain ⟨A, c0, rfl, hA, hc, hm⟩ := hv
 refine enter Tryz.func18 Tryz.call18 rfl Tryz.ntmps18 rfl (fun w0 => ?_)
 refine go 3 ?_
 refine o_box _ rfl rfl rfl (fun g2 => ?_)
 refine go 8 ?_
 refine o_callV (refValid _ vc c hvc hsc) rfl rfl ?_
 refine go 3 ?_
 refine cb rfl (fun h8 p8 => ?_) (fun h8 p8 => ?_)
 ·refine go 7 ?_
  refine fin1 rfl rfl ?_
  exact q_v (congrArg Value.bool (by simp only [givF, valid_same, show validR c = false by simpa using h8, bS]))
 ·refine go 9 ?_
  refine sx_drop ?_
  refine c_loop (α := Nat) 0 (fun i => I)
   (fun i => [(1, .slice A l.length c0), (5, .int .i64 ((i : Nat) : Int))])
   (fun i => [])
   (fun i => i ≤ l.length ∧ allP (fun _ r => validRep r) l i = true)
   (fun i => l.length - i) ⟨Nat.zero_le _, rfl⟩ rfl sb rfl ?_
  intro i ⟨hi, hn⟩
  refine go 9 ?_
  refine cb rfl (fun h12 p12 => ?_) (fun h12 p12 => ?_)
  ·have hlt : i < l.length := by omega
   refine go 8 ?_
   obtain ⟨b17, o17, w17, e17, c17, r17⟩ := RdA.at_ hA (i := i) hlt
   obtain ⟨q17, rfl, S17, d17, rfl, hS17, hd17, hm17⟩ := r17
   refine o_v rfl (v_idx he rfl rfl e17 (i) (by omega) hlt) ?_
   refine o_v rfl (v_ldIa he rfl c17 rfl) ?_
   refine go 1 ?_
   refine o_callV (ref13Valid _ l[i] S17 d17 ⟨_, _, rfl, hS17, hd17, hm17⟩ (hsl _ (List.getElem_mem hlt))) rfl rfl ?_
   refine go 3 ?_
   refine cb rfl (fun h20 p20 => ?_) (fun h20 p20 => ?_)
   ·refine go 11 ?_
    refine fin1 rfl rfl ?_
    exact q_v (congrArg Value.bool (by simp only [givF, allP_not (f := fun _ r => validRep r) hlt (by simpa using h20), bS]))
   ·refine go 9 ?_
    exact q_next (i + 1) ⟨by omega, allP_succ hn hlt (by simpa using h20)⟩ (by omega) rfl sb rfl
  ·refine go 11 ?_
   refine fin1 rfl rfl ?_
   have e : i = l.length := (by omega)
   subst e
   exact q_v (congrArg Value.bool (by simp only [givF, valid_same, show validR c = true by simpa using h8, hn, bS]))

theorem ref15Fitted (I : IMap) (v : Value) (l : List Rep) (hv : RdS I v l) (hsl : ∀ r ∈ l, ∀ e ∈ r.options, SmE e) (hl : l.length ≤ 1000000) (w : Value) (raw : List UInt8) (hw : RdS I w raw) :
    FnX Tryz.prog 17 #[v, w] I [] (fun u r => ∃ xs, r = .row u 3 1 l.length xs ∧ Flat I xs (fitF l raw)) := by
 obtain ⟨A, c0, rfl, hA, hc, hm⟩ := hv
 obtain ⟨B, c1, rfl, hB, hc1, hm1⟩ := hw
 refine enter Tryz.func17 Tryz.call17 rfl Tryz.ntmps17 rfl (fun w0 => ?_)
 refine go 7 ?_
 refine sx_nilrow 3 1 ?_
 refine go 10 ?_
 refine c_loop4 ((0 : Nat)) (_) ([]) ([]) (fun i v xs out => I)
  (fun i v xs out => [(0, .slice A l.length c0), (1, .slice B raw.length c1), (5, v), (6, .int .i64 ((i : Nat) : Int))])
  (fun i v xs out => [.row v 3 1 i xs])
  (fun i v xs out => i ≤ l.length ∧ (l.take i).mapIdx (fun i r => fitAt (chs r) raw[i]?) = out ∧ Flat I xs out)
  (fun i v xs out => l.length - i) ⟨Nat.zero_le _, rfl, .nil⟩ rfl sb rfl ?_
 intro i v xs out ⟨hi, hw, hF⟩
 refine go 9 ?_
 refine cb rfl (fun h12 p12 => ?_) (fun h12 p12 => ?_)
 ·have hlt : i < l.length := by omega
  refine go 8 ?_
  obtain ⟨b17, o17, w17, e17, c17, r17⟩ := RdA.at_ hA (i := i) hlt
  obtain ⟨q17, rfl, S17, d17, rfl, hS17, hd17, hm17⟩ := r17
  refine o_v rfl (v_idx he rfl rfl e17 (i) (by omega) hlt) ?_
  refine o_v rfl (v_ldIa he rfl c17 rfl) ?_
  refine go 1 ?_
  refine o_callV (ref13Choices _ l[i] S17 d17 ⟨_, _, rfl, hS17, hd17, hm17⟩ (hsl _ (List.getElem_mem hlt))) rfl rfl ?_
  refine go 9 ?_
  refine c_cut (I' := I) (L' := [(0, .slice A l.length c0), (1, .slice B raw.length c1), (5, v), (6, .int .i64 ((i : Nat) : Int)), (8, .int .i64 (fitAt (chs l[i]) raw[i]?))]) (H' := [.row v 3 1 i xs]) ?_ ?_
  ·refine go 7 ?_
   refine sxb 24 rfl (fun h24 p24 => ?_) (fun h24 p24 => ?_)
   ·have hr2 : i < raw.length := by omega
    refine go 5 ?_
    refine cb rfl (fun h27 p27 => ?_) (fun h27 p27 => ?_)
    ·refine go 3 ?_
     obtain ⟨b30, o30, w30, e30, c30, r30⟩ := RdA.at_ hB (i := i) hr2
     obtain rfl := r30
     refine o_v rfl (v_idx he rfl rfl e30 (i) (by omega) hr2) ?_
     refine o_v rfl (v_ldI he rfl (c30 0 _ rfl)) ?_
     refine o_v rfl (v_conv he he rfl (m := ((raw[i]).toNat : Int)) (by have := raw[i].toNat_lt; rw [IntKind.wrap_i64]; omega)) ?_
     refine go 1 ?_
     refine o_v rfl (v_remI rfl rfl (by omega) (by have := raw[i].toNat_lt; omega) (by omega)) ?_
     refine go 3 ?_
     exact q_cut ⟨rfl, rfl, rfl, rfl, (congrArg (fun z => some (Value.int .i64 z)) (by first | exact (fit_some hr2 (by omega)).symm | exact (fit_none (by omega)).symm | exact (fit_zero (by omega)).symm)), trivial⟩ rfl rfl
    ·refine go 2 ?_
     exact q_cut ⟨rfl, rfl, rfl, rfl, (congrArg (fun z => some (Value.int .i64 z)) (by first | exact (fit_some hr2 (by omega)).symm | exact (fit_none (by omega)).symm | exact (fit_zero (by omega)).symm)), trivial⟩ rfl rfl
   ·refine go 5 ?_
    refine c_false rfl ?_
    refine go 2 ?_
    exact q_cut ⟨rfl, rfl, rfl, rfl, (congrArg (fun z => some (Value.int .i64 z)) (by first | exact (fit_some hr2 (by omega)).symm | exact (fit_none (by omega)).symm | exact (fit_zero (by omega)).symm)), trivial⟩ rfl rfl
  ·refine go 4 ?_
   refine o_buildSlice he he rfl rfl rfl rfl rfl rfl rfl (fun v37 => ?_)
   refine go 1 ?_
   refine bring1 ?_
   refine o_appendO he he rfl rfl rfl rfl rfl (by omega) (by omega) rfl (fun v38 => ?_)
   refine go 10 ?_
   refine bring1 ?_
   refine sx_drop ?_
   exact q_next4 (i + 1) (_) (_) (out ++ [fitAt (chs l[i]) raw[i]?]) ⟨by omega, idx_succ (f := (fun i r => fitAt (chs r) raw[i]?)) hlt hw, hF.append (.one rfl)⟩ (by omega) rfl sb rfl
 ·refine go 12 ?_
  refine fin1 rfl rfl ?_
  have e : i = l.length := (by omega)
  subst e
  rw [List.take_length] at hw
  exact q_x ⟨xs, rfl, by rw [fitF, hw]; exact hF⟩

theorem law15opened (I : IMap) (w : Value) (ch : List Int) (hw : RdS I w ch) (hl : ch.length ≤ 1000000) (a : Nat) (ha : a < 65536) :
    FnX Tryz.prog 20 #[w, .int .u16 ((a : Nat) : Int)] I [] (fun u r => ∃ xs, r = .row u 3 1 ch.length xs ∧ Flat I xs (openF ch a)) := by
 obtain ⟨B, c1, rfl, hB, hc1, hm1⟩ := hw
 refine enter Tryz.func20 Tryz.call20 rfl Tryz.ntmps20 rfl (fun w0 => ?_)
 refine go 7 ?_
 refine sx_nilrow 3 1 ?_
 refine go 10 ?_
 refine c_loop4 ((0 : Nat)) (_) ([]) ([]) (fun i v xs out => I)
  (fun i v xs out => [(0, .slice B ch.length c1), (1, .int .u16 ((a : Nat) : Int)), (5, v), (6, .int .i64 ((i : Nat) : Int))])
  (fun i v xs out => [.row v 3 1 i xs])
  (fun i v xs out => i ≤ ch.length ∧ (ch.take i).mapIdx (fun i k => if a.testBit i = true then -1 else k) = out ∧ Flat I xs out)
  (fun i v xs out => ch.length - i) ⟨Nat.zero_le _, rfl, .nil⟩ rfl sb rfl ?_
 intro i v xs out ⟨hi, hw, hF⟩
 refine go 9 ?_
 refine cb rfl (fun h11 p11 => ?_) (fun h11 p11 => ?_)
 ·have hlt : i < ch.length := by omega
  refine go 8 ?_
  obtain ⟨b16, o16, w16, e16, c16, r16⟩ := RdA.at_ hB (i := i) hlt
  obtain rfl := r16
  refine o_v rfl (v_idx he rfl rfl e16 (i) (by omega) hlt) ?_
  refine o_v rfl (v_ldI he rfl (c16 0 _ rfl)) ?_
  refine go 4 ?_
  refine c_cut (I' := I) (L' := [(0, .slice B ch.length c1), (1, .int .u16 ((a : Nat) : Int)), (5, v), (6, .int .i64 ((i : Nat) : Int)), (7, .int .i64 (if a.testBit i = true then -1 else ch[i]))]) (H' := [.row v 3 1 i xs]) ?_ ?_
  ·refine go 4 ?_
   refine o_v rfl (v_conv he he rfl (m := ((i : Nat) : Int)) (wrap_u64 _ (by omega) (by omega))) ?_
   refine o_v rfl (v_shrU rfl rfl) ?_
   refine o_v rfl (v_and1 rfl) ?_
   refine o_v rfl (OV.cast (u := .bool (a.testBit i)) (v_eql rfl rfl) (congrArg Value.bool (bit_at ha))) ?_
   refine go 2 ?_
   refine cb rfl (fun h23 p23 => ?_) (fun h23 p23 => ?_)
   ·refine go 4 ?_
    exact q_cut ⟨rfl, rfl, rfl, rfl, (congrArg (fun z => some (Value.int .i64 z)) (by first | exact (if_pos h23).symm | exact (if_neg (by rw [h23]; decide)).symm)), trivial⟩ rfl rfl
   ·refine go 2 ?_
    exact q_cut ⟨rfl, rfl, rfl, rfl, (congrArg (fun z => some (Value.int .i64 z)) (by first | exact (if_pos h23).symm | exact (if_neg (by rw [h23]; decide)).symm)), trivial⟩ rfl rfl
  ·refine go 4 ?_
   refine o_buildSlice he he rfl rfl rfl rfl rfl rfl rfl (fun v26 => ?_)
   refine go 1 ?_
   refine bring1 ?_
   refine o_appendO he he rfl rfl rfl rfl rfl (by omega) (by omega) rfl (fun v27 => ?_)
   refine go 10 ?_
   refine bring1 ?_
   refine sx_drop ?_
   exact q_next4 (i + 1) (_) (_) (out ++ [if a.testBit i = true then -1 else ch[i]]) ⟨by omega, idx_succ (f := (fun i k => if a.testBit i = true then -1 else k)) hlt hw, hF.append (.one rfl)⟩ (by omega) rfl sb rfl
 ·refine go 12 ?_
  refine fin1 rfl rfl ?_
  have e : i = ch.length := (by omega)
  subst e
  rw [List.take_length] at hw
  exact q_x ⟨xs, rfl, by rw [openF, hw]; exact hF⟩

theorem ref15Few (I : IMap) (vc : Value) (c : List Kind) (hvc : RdS I vc c) (v : Value) (l : List Rep) (hv : RdS I v l) (n : Int) :
    FnV Tryz.prog 24 #[.agg #[vc], v, .int .i64 n] I (.bool (fewC c && fewR l n)) := by
 refine enter Tryz.func24 Tryz.call24 rfl Tryz.ntmps24 rfl (fun w0 => ?_)
 refine go 3 ?_
 refine o_box _ rfl rfl rfl (fun g3 => ?_)
 refine go 7 ?_
 refine o_callV (refFew _ vc c hvc) rfl rfl ?_
 refine go 1 ?_
 refine sxb 9 rfl (fun h9 p9 => ?_) (fun h9 p9 => ?_)
 ·refine go 3 ?_
  refine o_yes rfl rfl h9 (o_callV (ref13Few _ v l hv n) rfl rfl ?_)
  refine go 5 ?_
  refine fin1 rfl rfl ?_
  exact q_v (congrArg Value.bool (by simp only [h9, bS]))
 ·refine go 8 ?_
  refine fin1 rfl rfl ?_
  exact q_v (congrArg Value.bool (by simp only [h9, bS]))

theorem law15few (I : IMap) (vc : Value) (c : List Kind) (hvc : RdS I vc c) (v : Value) (l : List Rep) (hv : RdS I v l) :
    FnV Tryz.prog 10 #[.agg #[vc], v] I (.bool (fewC c && fewR l 10)) := by
 refine enter Tryz.func10 Tryz.call10 rfl Tryz.ntmps10 rfl (fun w0 => ?_)
 refine go 3 ?_
 refine o_box _ rfl rfl rfl (fun g2 => ?_)
 refine go 8 ?_
 refine o_callV (ref15Few _ vc c hvc v l hv 10) rfl rfl ?_
 refine go 4 ?_
 refine fin1 rfl rfl ?_
 exact q_v rfl

end Go.Proofs.YtkmdojpfccjnoaaGreat
