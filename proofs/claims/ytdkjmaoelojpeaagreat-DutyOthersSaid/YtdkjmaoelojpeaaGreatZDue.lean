/- The library of a symbolic run and the walks: merged. -/
import Derived.Test.YtdkjmaoelojpeaaGreatZDud
import Derived.Laws.Bits64b
import Derived.Lib.Mul64
/- Walks, printed by a program out of the code of the functions: each theorem is a contract of one function. -/
namespace Go.Proofs.YtdkjmaoelojpeaaGreat
open Go Go.Sx
set_option linter.all false
set_option maxRecDepth 20000
set_option maxHeartbeats 4000000
theorem T.eqg_37 : Tryz.prog.eqGuardType Tryz.prog.depth 37 = false := by kernel_rfl
theorem r10Find (I : IMap) (v : Value) (l : List Part) (hv : RdS I v l) (s : ByteArray) :
    FnE Tryz.prog 48 #[.agg #[v], .string s] I (PartIs I (findP l s)) := by
 have hv0 := hv
 obtain ⟨A, c0, rfl, hA, hc, hm⟩ := hv
 refine enter Tryz.func48 Tryz.call48 rfl Tryz.ntmps48 rfl (fun w0 => ?_)
 refine go 3 ?_
 refine o_box _ rfl rfl rfl (fun g2 => ?_)
 refine go 1 ?_
 refine o_alloc he rfl (fun g4 => ?_)
 refine go 8 ?_
 refine o_callV (ref10At _ _ l hv0 s) rfl rfl ?_
 refine go 10 ?_
 refine cb rfl (fun h11 p11 => ?_) (fun h11 p11 => ?_)
 ·refine go 3 ?_
  refine o_val rfl (v_build (pl := [(0, 1), (1, 1), (2, 1), (3, 1), (4, 1), (5, 1), (6, 1), (7, 1), (8, 6)]) he he rfl rfl) ?_
  refine go 1 ?_
  refine o_stw _ he rfl rfl rfl rfl rfl rfl ?_
  refine go 5 ?_
  refine fin2 rfl ⟨_, _, _, rfl, m0, .inr ⟨_, he, rfl, rfl⟩⟩ rfl ?_
  exact q_e (PartIs.none (((idxF_find (fun p : Part => decide (p.name = s)) l).resolve_right (by rintro ⟨k, hk, e, _⟩; omega)).2))
 ·refine go 7 ?_
  obtain ⟨k, hk, ek, hF⟩ := (idxF_find (fun p : Part => decide (p.name = s)) l).resolve_left (fun h => by omega)
  have hF : findP l s = some l[k] := hF
  obtain ⟨b16, o16, w16, e16, c16, r16⟩ := RdA.at_ hA (i := k) hk
  obtain ⟨q16, rfl, B16, d16, rfl, hB16, hd16, hm16⟩ := r16
  refine o_v rfl (v_idx he rfl rfl e16 (k) ek hk) ?_
  refine o_v rfl (v_ldIa he rfl c16 rfl) ?_
  refine go 1 ?_
  refine o_stw _ he rfl rfl rfl rfl rfl rfl ?_
  refine go 4 ?_
  refine fin2 rfl ⟨_, _, _, rfl, m0, .inr ⟨_, he, rfl, rfl⟩⟩ rfl ?_
  exact q_e (PartIs.of hF ⟨_, rfl, B16, d16, rfl, hB16, hd16, hm16⟩)

theorem r26Valid (I : IMap) (d : Dut) (hs : SmD d) :
    FnV Tryz.prog 21 #[.agg d.cells.toArray] I (.bool (validDu d)) := by
 refine enter Tryz.func21 Tryz.call21 rfl Tryz.ntmps21 rfl (fun w0 => ?_)
 refine go 3 ?_
 refine o_box _ rfl rfl rfl (fun g1 => ?_)
 refine go 8 ?_
 refine o_callV (name05 _ d.name hs.1) rfl rfl ?_
 refine go 1 ?_
 refine sxb 6 rfl (fun h6 p6 => ?_) (fun h6 p6 => ?_)
 ·refine go 3 ?_
  refine o_yes rfl rfl h6 (o_callV (name05 _ d.kind hs.2.1) rfl rfl ?_)
  refine go 2 ?_
  refine sxb 11 rfl (fun h11 p11 => ?_) (fun h11 p11 => ?_)
  ·refine go 3 ?_
   refine o_yes rfl rfl h11 (o_callV (name05 _ d.key hs.2.2) rfl rfl ?_)
   refine go 2 ?_
   refine sxb 16 rfl (fun h16 p16 => ?_) (fun h16 p16 => ?_)
   ·refine go 5 ?_
    refine sxb 21 rfl (fun h21 p21 => ?_) (fun h21 p21 => ?_)
    ·refine go 5 ?_
     refine sxb 26 rfl (fun h26 p26 => ?_) (fun h26 p26 => ?_)
     ·refine go 5 ?_
      refine sxb 31 rfl (fun h31 p31 => ?_) (fun h31 p31 => ?_)
      ·refine go 8 ?_
       refine fin1 rfl rfl ?_
       exact q_v (congrArg Value.bool (by simp only [validDu, name_same, h6, h11, h16, h21, h26, h31, bS]))
      ·refine go 8 ?_
       refine fin1 rfl rfl ?_
       exact q_v (congrArg Value.bool (by simp only [validDu, name_same, h6, h11, h16, h21, h26, h31, bS]))
     ·refine go 13 ?_
      refine fin1 rfl rfl ?_
      exact q_v (congrArg Value.bool (by simp only [validDu, name_same, h6, h11, h16, h21, h26, bS]))
    ·refine go 18 ?_
     refine fin1 rfl rfl ?_
     exact q_v (congrArg Value.bool (by simp only [validDu, name_same, h6, h11, h16, h21, bS]))
   ·refine go 23 ?_
    refine fin1 rfl rfl ?_
    exact q_v (congrArg Value.bool (by simp only [validDu, name_same, h6, h11, h16, bS]))
  ·refine go 28 ?_
   refine fin1 rfl rfl ?_
   exact q_v (congrArg Value.bool (by simp only [validDu, name_same, h6, h11, bS]))
 ·refine go 33 ?_
  refine fin1 rfl rfl ?_
  exact q_v (congrArg Value.bool (by simp only [validDu, name_same, h6, bS]))

theorem r26Kind (I : IMap) (vc : Value) (c : List Kind) (hvc : RdS I vc c) (hsc : SmC c) (v : Value) (l : List Evt) (hv : RdS I v l) (hl : l.length ≤ 1000000) (hse : ∀ e ∈ l, SmE e) (p : ByteArray) (day : Int) :
    FnI Tryz.prog 29 #[.agg #[vc], v, .string p, .int .i64 (day)] I (fun u J => u = .tuple #[.string ((findP (atF11 c l day).1 p).getD zPart).kind, .bool (liveB c l p day)]) := by
 refine enter Tryz.func29 Tryz.call29 rfl Tryz.ntmps29 rfl (fun w0 => ?_)
 refine go 3 ?_
 refine o_box _ rfl rfl rfl (fun g4 => ?_)
 refine go 10 ?_
 refine o_call (ref11At _ vc c hvc hsc v l hv hl hse day) rfl rfl (fun v19 I19 j19 q19 => ?_)
 obtain ⟨wb, rfl, hwb⟩ := q19
 refine go 5 ?_
 refine o_alloc he rfl (fun g10 => ?_)
 refine go 1 ?_
 refine o_stw _ he rfl rfl rfl rfl rfl (by simp [RdS.one hwb]) ?_
 refine go 9 ?_
 refine o_callE (r10Find _ _ _ hwb p) rfl rfl (fun v26 q26 => ?_)
 obtain ⟨vs26, rfl, s26, rfl, hs26⟩ := q26
 refine go 4 ?_
 refine o_alloc he rfl (fun g13 => ?_)
 refine go 1 ?_
 refine o_stw _ he rfl rfl rfl rfl rfl (Enc.one (α := Part) (x := ((findP (atF11 c l day).1 p).getD zPart)) ⟨s26, rfl, hs26⟩) ?_
 refine go 4 ?_
 refine d_startH T.mixed ?_
 refine d_tv 0 rfl rfl (by kernel_rfl) rfl (.refl _) rfl (v_fieldAddr he rfl) ?_
 refine d_tv 1 rfl rfl (by kernel_rfl) rfl (.refl _) rfl (v_ld m0 he rfl rfl) ?_
 refine d_tv 2 rfl rfl (by kernel_rfl) rfl (.refl _) rfl (v_move rfl) ?_
 refine d_tv 3 rfl rfl (by kernel_rfl) rfl (.refl _) rfl (v_eql rfl rfl) ?_
 refine d_tv 4 rfl rfl (by kernel_rfl) rfl (.refl _) rfl (v_move rfl) ?_
 refine sxb 33 rfl (fun h33 p33 => ?_) (fun h33 p33 => ?_)
 ·refine d_t 5 rfl rfl (by kernel_rfl) rfl (fun _ m => m.keeps (.refl _)) (y_yes rfl rfl h33 (v_move rfl)) ?_
  refine d_tv 6 rfl rfl (by kernel_rfl) rfl (.refl _) rfl (v_and_t h33 rfl rfl) ?_
  refine d_tv 7 rfl rfl (by kernel_rfl) rfl (.refl _) rfl (v_move rfl) ?_
  refine sxb 36 rfl (fun h36 p36 => ?_) (fun h36 p36 => ?_)
  ·refine d_t 8 rfl rfl (by kernel_rfl) rfl (fun _ m => m.keeps (.refl _)) (y_yes rfl rfl h36 (v_fieldAddr he rfl)) ?_
   refine d_t 9 rfl rfl (by kernel_rfl) rfl (fun _ m => m.keeps (.refl _)) (y_yes rfl rfl h36 (v_ld m0 he rfl rfl)) ?_
   refine d_t 10 rfl rfl (by kernel_rfl) rfl (fun _ m => m.keeps (.refl _)) (y_yes rfl rfl h36 (v_not rfl)) ?_
   refine d_tv 11 rfl rfl (by kernel_rfl) rfl (.refl _) rfl (v_and_t h36 rfl rfl) ?_
   refine d_tv 12 rfl rfl (by kernel_rfl) rfl (.refl _) rfl (v_assign rfl) ?_
   refine d_tv 13 rfl rfl (by kernel_rfl) rfl (.refl _) rfl (v_assign rfl) ?_
   refine d_done (by kernel_rfl) ?_
   refine go 2 ?_
   refine fin2 rfl rfl rfl ?_
   exact q_i (by simp only [liveB, h33, h36, bS])
  ·refine d_t 8 rfl rfl (by kernel_rfl) rfl (fun _ m => m.keeps (.refl _)) (y_no rfl rfl h36) ?_
   refine d_t 9 rfl rfl (by kernel_rfl) rfl (fun _ m => m.keeps (.refl _)) (y_no rfl rfl h36) ?_
   refine d_t 10 rfl rfl (by kernel_rfl) rfl (fun _ m => m.keeps (.refl _)) (y_no rfl rfl h36) ?_
   refine d_tv 11 rfl rfl (by kernel_rfl) rfl (.refl _) rfl (v_and_f h36 rfl) ?_
   refine d_tv 12 rfl rfl (by kernel_rfl) rfl (.refl _) rfl (v_assign rfl) ?_
   refine d_tv 13 rfl rfl (by kernel_rfl) rfl (.refl _) rfl (v_assign rfl) ?_
   refine d_done (by kernel_rfl) ?_
   refine go 2 ?_
   refine fin2 rfl rfl rfl ?_
   exact q_i (by simp only [liveB, h33, h36, bS])
 ·refine d_t 5 rfl rfl (by kernel_rfl) rfl (fun _ m => m.keeps (.refl _)) (y_no rfl rfl h33) ?_
  refine d_tv 6 rfl rfl (by kernel_rfl) rfl (.refl _) rfl (v_and_f h33 rfl) ?_
  refine d_tv 7 rfl rfl (by kernel_rfl) rfl (.refl _) rfl (v_move rfl) ?_
  refine d_t 8 rfl rfl (by kernel_rfl) rfl (fun _ m => m.keeps (.refl _)) (y_no rfl rfl rfl) ?_
  refine d_t 9 rfl rfl (by kernel_rfl) rfl (fun _ m => m.keeps (.refl _)) (y_no rfl rfl rfl) ?_
  refine d_t 10 rfl rfl (by kernel_rfl) rfl (fun _ m => m.keeps (.refl _)) (y_no rfl rfl rfl) ?_
  refine d_tv 11 rfl rfl (by kernel_rfl) rfl (.refl _) rfl (v_and_f rfl rfl) ?_
  refine d_tv 12 rfl rfl (by kernel_rfl) rfl (.refl _) rfl (v_assign rfl) ?_
  refine d_tv 13 rfl rfl (by kernel_rfl) rfl (.refl _) rfl (v_assign rfl) ?_
  refine d_done (by kernel_rfl) ?_
  refine go 2 ?_
  refine fin2 rfl rfl rfl ?_
  exact q_i (by simp only [liveB, h33, bS])

theorem r26Met (I : IMap) (d : Dut) (v : Value) (l : List Evt) (hv : RdS I v l) (p : ByteArray) (b day : Int) (hb : 0 ≤ b ∧ b ≤ 40000) (hw : 0 ≤ d.within ∧ d.within ≤ 40000) :
    FnV Tryz.prog 49 #[.agg d.cells.toArray, v, .string p, .int .i64 (b), .int .i64 (day)] I (.bool (metR d l p b day)) := by
 have hv0 := hv
 obtain ⟨A, c0, rfl, hA, hc, hm⟩ := hv
 refine enter Tryz.func49 Tryz.call49 rfl Tryz.ntmps49 rfl (fun w0 => ?_)
 refine go 3 ?_
 refine o_box _ rfl rfl rfl (fun g5 => ?_)
 refine go 10 ?_
 refine c_loop (α := Nat) 0 (fun i => I)
  (fun i => [(1, .slice A l.length c0), (2, .string p), (3, .int .i64 (b)), (4, .int .i64 (day)), (5, .pointer (some ⟨g5, 0, none⟩)), (11, .int .i64 ((i : Nat) : Int))])
  (fun i => [.blk g5 43 d.cells])
  (fun i => i ≤ l.length ∧ (l.take i).any (metP d p b day) = false)
  (fun i => l.length - i) ⟨Nat.zero_le _, rfl⟩ rfl sb rfl ?_
 intro i ⟨hi, hn⟩
 refine go 9 ?_
 refine cb rfl (fun h16 p16 => ?_) (fun h16 p16 => ?_)
 ·have hlt : i < l.length := by omega
  refine go 8 ?_
  obtain ⟨b21, o21, w21, e21, c21, r21⟩ := RdA.at_ hA (i := i) hlt
  obtain rfl := r21
  refine o_v rfl (v_idx he rfl rfl e21 (i) (by omega) hlt) ?_
  refine o_v rfl (v_ldIa he rfl c21 rfl) ?_
  refine go 1 ?_
  refine o_alloc he rfl (fun g12 => ?_)
  refine go 1 ?_
  refine o_stw _ he rfl rfl rfl rfl rfl rfl ?_
  refine go 3 ?_
  refine c_cut (I' := I) (L' := [(1, .slice A l.length c0), (2, .string p), (3, .int .i64 (b)), (4, .int .i64 (day)), (5, .pointer (some ⟨g5, 0, none⟩)), (11, .int .i64 ((i : Nat) : Int)), (59, .bool (metP d p b day l[i]))]) (H' := [.blk g5 43 d.cells]) ?_ ?_
  ·refine go 5 ?_
   refine sxb 26 rfl (fun h26 p26 => ?_) (fun h26 p26 => ?_)
   ·refine go 6 ?_
    refine sxb 32 rfl (fun h32 p32 => ?_) (fun h32 p32 => ?_)
    ·refine go 7 ?_
     refine sxb 39 rfl (fun h39 p39 => ?_) (fun h39 p39 => ?_)
     ·refine go 6 ?_
      refine sxb 45 rfl (fun h45 p45 => ?_) (fun h45 p45 => ?_)
      ·refine go 9 ?_
       refine sxb 54 rfl (fun h54 p54 => ?_) (fun h54 p54 => ?_)
       ·refine go 7 ?_
        refine sx_drop ?_
        exact q_cut ⟨rfl, rfl, rfl, rfl, rfl, rfl, (congrArg (fun b => some (Value.bool b)) (by simp only [metP, h16, h26, h32, h39, h45, h54, bS])), trivial⟩ rfl rfl
       ·refine go 7 ?_
        refine sx_drop ?_
        exact q_cut ⟨rfl, rfl, rfl, rfl, rfl, rfl, (congrArg (fun b => some (Value.bool b)) (by simp only [metP, h16, h26, h32, h39, h45, h54, bS])), trivial⟩ rfl rfl
      ·refine go 16 ?_
       refine sx_drop ?_
       exact q_cut ⟨rfl, rfl, rfl, rfl, rfl, rfl, (congrArg (fun b => some (Value.bool b)) (by simp only [metP, h16, h26, h32, h39, h45, bS])), trivial⟩ rfl rfl
     ·refine go 22 ?_
      refine sx_drop ?_
      exact q_cut ⟨rfl, rfl, rfl, rfl, rfl, rfl, (congrArg (fun b => some (Value.bool b)) (by simp only [metP, h16, h26, h32, h39, bS])), trivial⟩ rfl rfl
    ·refine go 29 ?_
     refine sx_drop ?_
     exact q_cut ⟨rfl, rfl, rfl, rfl, rfl, rfl, (congrArg (fun b => some (Value.bool b)) (by simp only [metP, h16, h26, h32, bS])), trivial⟩ rfl rfl
   ·refine go 35 ?_
    refine sx_drop ?_
    exact q_cut ⟨rfl, rfl, rfl, rfl, rfl, rfl, (congrArg (fun b => some (Value.bool b)) (by simp only [metP, h16, h26, bS])), trivial⟩ rfl rfl
  ·refine cb rfl (fun h59 p59 => ?_) (fun h59 p59 => ?_)
   ·refine go 11 ?_
    refine fin1 rfl rfl ?_
    exact q_v (congrArg Value.bool (met_hit hlt h59).symm)
   ·refine go 9 ?_
    exact q_next (i + 1) ⟨by omega, met_next hlt hn h59⟩ (by omega) rfl sb rfl
 ·refine go 11 ?_
  refine fin1 rfl rfl ?_
  have e2 : i = l.length := (by omega)
  subst e2
  rw [List.take_length] at hn
  exact q_v (congrArg Value.bool hn.symm)

theorem r26Pending (I : IMap) (d : Dut) (v : Value) (l : List Evt) (hv : RdS I v l) (hl : l.length ≤ 1000000) (p : ByteArray) (day : Int) (hw : 0 ≤ d.within ∧ d.within ≤ 40000) (hd : ∀ e ∈ l, e.part = p → e.day ≤ day → 0 ≤ e.day ∧ e.day ≤ 40000) :
    FnI Tryz.prog 30 #[.agg d.cells.toArray, v, .string p, .int .i64 (day)] I (fun u J => RdS J u (pendD d l p day)) := by
 have hv0 := hv
 obtain ⟨A, c0, rfl, hA, hc, hm⟩ := hv
 refine enter Tryz.func30 Tryz.call30 rfl Tryz.ntmps30 rfl (fun w0 => ?_)
 refine go 3 ?_
 refine o_box _ rfl rfl rfl (fun g4 => ?_)
 refine go 5 ?_
 refine sx_nilrow 3 1 ?_
 refine go 10 ?_
 refine c_loop3 ((0 : Nat)) (_) ([]) (fun i v9 xs => I)
  (fun i v9 xs => [(1, .slice A l.length c0), (2, .string p), (3, .int .i64 (day)), (4, .pointer (some ⟨g4, 0, none⟩)), (9, v9), (10, .int .i64 ((i : Nat) : Int))])
  (fun i v9 xs => [.row v9 3 1 (pendR d l p day (l.take i)).length xs, .blk g4 43 d.cells])
  (fun i v9 xs => i ≤ l.length ∧ Flat I xs (pendR d l p day (l.take i)))
  (fun i v9 xs => l.length - i) ⟨Nat.zero_le _, .nil⟩ rfl sb rfl ?_
 intro i v9 xs ⟨hi, hF⟩
 have hpl := pendR_len (d := d) (l := l) (p := p) (day := day) (l.take i)
 rw [List.length_take] at hpl
 refine go 9 ?_
 refine cb rfl (fun h14 p14 => ?_) (fun h14 p14 => ?_)
 ·have hlt : i < l.length := by omega
  refine go 5 ?_
  refine c_cut (I' := I) (L' := [(1, .slice A l.length c0), (2, .string p), (3, .int .i64 (day)), (4, .pointer (some ⟨g4, 0, none⟩)), (9, v9), (10, .int .i64 ((i : Nat) : Int)), (55, .bool (pendP d l p day l[i]))]) (H' := [.row v9 3 1 (pendR d l p day (l.take i)).length xs, .blk g4 43 d.cells]) ?_ ?_
  ·refine d_startH T.mixed ?_
   refine d_tv 0 rfl rfl (by kernel_rfl) rfl (.refl _) rfl (v_move rfl) ?_
   refine d_tv 1 rfl rfl (by kernel_rfl) rfl (.refl _) rfl (v_move rfl) ?_
   obtain ⟨b19, o19, w19, e19, c19, r19⟩ := RdA.at_ hA (i := i) hlt
   obtain rfl := r19
   refine d_tv 2 rfl rfl (by kernel_rfl) rfl (.refl _) rfl (v_idx he rfl rfl e19 (i) (by omega) hlt) ?_
   refine d_tv 3 rfl rfl (by kernel_rfl) rfl (.refl _) rfl (v_fieldAddr he rfl) ?_
   refine d_tv 4 rfl rfl (by kernel_rfl) rfl (.refl _) rfl (v_ldI he rfl (c19 0 _ rfl)) ?_
   refine d_tv 5 rfl rfl (by kernel_rfl) rfl (.refl _) rfl (v_fieldAddr he rfl) ?_
   refine d_tv 6 rfl rfl (by kernel_rfl) rfl (.refl _) rfl (v_ld m1 he rfl rfl) ?_
   refine d_tv 7 rfl rfl (by kernel_rfl) rfl (.refl _) rfl (v_eql rfl rfl) ?_
   refine d_tv 8 rfl rfl (by kernel_rfl) rfl (.refl _) rfl (v_move rfl) ?_
   refine sxb 25 rfl (fun h25 p25 => ?_) (fun h25 p25 => ?_)
   ·refine d_t 9 rfl rfl (by kernel_rfl) rfl (fun _ m => m.keeps (.refl _)) (y_yes rfl rfl h25 (v_move rfl)) ?_
    refine d_t 10 rfl rfl (by kernel_rfl) rfl (fun _ m => m.keeps (.refl _)) (y_yes rfl rfl h25 (v_move rfl)) ?_
    obtain ⟨b28, o28, w28, e28, c28, r28⟩ := RdA.at_ hA (i := i) hlt
    obtain rfl := r28
    refine d_t 11 rfl rfl (by kernel_rfl) rfl (fun _ m => m.keeps (.refl _)) (y_yes rfl rfl h25 (v_idx he rfl rfl e28 (i) (by omega) hlt)) ?_
    refine d_t 12 rfl rfl (by kernel_rfl) rfl (fun _ m => m.keeps (.refl _)) (y_yes rfl rfl h25 (v_fieldAddr he rfl)) ?_
    refine d_t 13 rfl rfl (by kernel_rfl) rfl (fun _ m => m.keeps (.refl _)) (y_yes rfl rfl h25 (v_ldI he rfl (c28 2 _ rfl))) ?_
    refine d_t 14 rfl rfl (by kernel_rfl) rfl (fun _ m => m.keeps (.refl _)) (y_yes rfl rfl h25 (v_move rfl)) ?_
    refine d_t 15 rfl rfl (by kernel_rfl) rfl (fun _ m => m.keeps (.refl _)) (y_yes rfl rfl h25 (v_seql rfl rfl)) ?_
    refine d_tv 16 rfl rfl (by kernel_rfl) rfl (.refl _) rfl (v_and_t h25 rfl rfl) ?_
    refine d_tv 17 rfl rfl (by kernel_rfl) rfl (.refl _) rfl (v_move rfl) ?_
    refine sxb 34 rfl (fun h34 p34 => ?_) (fun h34 p34 => ?_)
    ·refine d_t 18 rfl rfl (by kernel_rfl) rfl (fun _ m => m.keeps (.refl _)) (y_yes rfl rfl h34 (v_move rfl)) ?_
     refine d_t 19 rfl rfl (by kernel_rfl) rfl (fun _ m => m.keeps (.refl _)) (y_yes rfl rfl h34 (v_move rfl)) ?_
     obtain ⟨b37, o37, w37, e37, c37, r37⟩ := RdA.at_ hA (i := i) hlt
     obtain rfl := r37
     refine d_t 20 rfl rfl (by kernel_rfl) rfl (fun _ m => m.keeps (.refl _)) (y_yes rfl rfl h34 (v_idx he rfl rfl e37 (i) (by omega) hlt)) ?_
     refine d_t 21 rfl rfl (by kernel_rfl) rfl (fun _ m => m.keeps (.refl _)) (y_yes rfl rfl h34 (v_fieldAddr he rfl)) ?_
     refine d_t 22 rfl rfl (by kernel_rfl) rfl (fun _ m => m.keeps (.refl _)) (y_yes rfl rfl h34 (v_ldI he rfl (c37 1 _ rfl))) ?_
     refine d_t 23 rfl rfl (by kernel_rfl) rfl (fun _ m => m.keeps (.refl _)) (y_yes rfl rfl h34 (v_move rfl)) ?_
     refine d_t 24 rfl rfl (by kernel_rfl) rfl (fun _ m => m.keeps (.refl _)) (y_yes rfl rfl h34 (v_leq rfl rfl)) ?_
     refine d_tv 25 rfl rfl (by kernel_rfl) rfl (.refl _) rfl (v_and_t h34 rfl rfl) ?_
     refine d_tv 26 rfl rfl (by kernel_rfl) rfl (.refl _) rfl (v_move rfl) ?_
     refine sxb 43 rfl (fun h43 p43 => ?_) (fun h43 p43 => ?_)
     ·refine d_t 27 rfl rfl (by kernel_rfl) rfl (fun _ m => m.keeps (.refl _)) (y_yes rfl rfl h43 (v_ldw m1 he rfl rfl)) ?_
      refine d_t 28 rfl rfl (by kernel_rfl) rfl (fun _ m => m.keeps (.refl _)) (y_yes rfl rfl h43 (v_move rfl)) ?_
      refine d_t 29 rfl rfl (by kernel_rfl) rfl (fun _ m => m.keeps (.refl _)) (y_yes rfl rfl h43 (v_move rfl)) ?_
      refine d_t 30 rfl rfl (by kernel_rfl) rfl (fun _ m => m.keeps (.refl _)) (y_yes rfl rfl h43 (v_move rfl)) ?_
      refine d_t 31 rfl rfl (by kernel_rfl) rfl (fun _ m => m.keeps (.refl _)) (y_yes rfl rfl h43 (v_move rfl)) ?_
      obtain ⟨b49, o49, w49, e49, c49, r49⟩ := RdA.at_ hA (i := i) hlt
      obtain rfl := r49
      refine d_t 32 rfl rfl (by kernel_rfl) rfl (fun _ m => m.keeps (.refl _)) (y_yes rfl rfl h43 (v_idx he rfl rfl e49 (i) (by omega) hlt)) ?_
      refine d_t 33 rfl rfl (by kernel_rfl) rfl (fun _ m => m.keeps (.refl _)) (y_yes rfl rfl h43 (v_fieldAddr he rfl)) ?_
      refine d_t 34 rfl rfl (by kernel_rfl) rfl (fun _ m => m.keeps (.refl _)) (y_yes rfl rfl h43 (v_ldI he rfl (c49 1 _ rfl))) ?_
      refine d_t 35 rfl rfl (by kernel_rfl) rfl (fun _ m => m.keeps (.refl _)) (y_yes rfl rfl h43 (v_move rfl)) ?_
      refine d_one 36 (by kernel_rfl) rfl ?_
      refine o_yes rfl rfl h43 (o_callV (r26Met _ d _ l hv0 p l[i].day day (hd _ (List.getElem_mem hlt) p34 p43) hw) rfl rfl ?_)
      refine d_on (fun _ m => m.keeps (.refl _)) ?_
      refine d_t 37 rfl rfl (by kernel_rfl) rfl (fun _ m => m.keeps (.refl _)) (y_yes rfl rfl h43 (v_not rfl)) ?_
      refine d_tv 38 rfl rfl (by kernel_rfl) rfl (.refl _) rfl (v_and_t h43 rfl rfl) ?_
      refine d_done (by kernel_rfl) ?_
      refine go 1 ?_
      exact q_cut ⟨rfl, rfl, rfl, rfl, rfl, rfl, (congrArg (fun b => some (Value.bool b)) (by simp only [pendP, begP, h14, h25, h34, h43, bS])), trivial⟩ rfl rfl
     ·refine d_t 27 rfl rfl (by kernel_rfl) rfl (fun _ m => m.keeps (.refl _)) (y_no rfl rfl h43) ?_
      refine d_t 28 rfl rfl (by kernel_rfl) rfl (fun _ m => m.keeps (.refl _)) (y_no rfl rfl h43) ?_
      refine d_t 29 rfl rfl (by kernel_rfl) rfl (fun _ m => m.keeps (.refl _)) (y_no rfl rfl h43) ?_
      refine d_t 30 rfl rfl (by kernel_rfl) rfl (fun _ m => m.keeps (.refl _)) (y_no rfl rfl h43) ?_
      refine d_t 31 rfl rfl (by kernel_rfl) rfl (fun _ m => m.keeps (.refl _)) (y_no rfl rfl h43) ?_
      refine d_t 32 rfl rfl (by kernel_rfl) rfl (fun _ m => m.keeps (.refl _)) (y_no rfl rfl h43) ?_
      refine d_t 33 rfl rfl (by kernel_rfl) rfl (fun _ m => m.keeps (.refl _)) (y_no rfl rfl h43) ?_
      refine d_t 34 rfl rfl (by kernel_rfl) rfl (fun _ m => m.keeps (.refl _)) (y_no rfl rfl h43) ?_
      refine d_t 35 rfl rfl (by kernel_rfl) rfl (fun _ m => m.keeps (.refl _)) (y_no rfl rfl h43) ?_
      refine d_t 36 rfl rfl (by kernel_rfl) rfl (fun _ m => m.keeps (.refl _)) (y_no rfl rfl h43) ?_
      refine d_t 37 rfl rfl (by kernel_rfl) rfl (fun _ m => m.keeps (.refl _)) (y_no rfl rfl h43) ?_
      refine d_tv 38 rfl rfl (by kernel_rfl) rfl (.refl _) rfl (v_and_f h43 rfl) ?_
      refine d_done (by kernel_rfl) ?_
      refine go 1 ?_
      exact q_cut ⟨rfl, rfl, rfl, rfl, rfl, rfl, (congrArg (fun b => some (Value.bool b)) (by simp only [pendP, begP, h14, h25, h34, h43, bS])), trivial⟩ rfl rfl
    ·refine d_t 18 rfl rfl (by kernel_rfl) rfl (fun _ m => m.keeps (.refl _)) (y_no rfl rfl h34) ?_
     refine d_t 19 rfl rfl (by kernel_rfl) rfl (fun _ m => m.keeps (.refl _)) (y_no rfl rfl h34) ?_
     refine d_t 20 rfl rfl (by kernel_rfl) rfl (fun _ m => m.keeps (.refl _)) (y_no rfl rfl h34) ?_
     refine d_t 21 rfl rfl (by kernel_rfl) rfl (fun _ m => m.keeps (.refl _)) (y_no rfl rfl h34) ?_
     refine d_t 22 rfl rfl (by kernel_rfl) rfl (fun _ m => m.keeps (.refl _)) (y_no rfl rfl h34) ?_
     refine d_t 23 rfl rfl (by kernel_rfl) rfl (fun _ m => m.keeps (.refl _)) (y_no rfl rfl h34) ?_
     refine d_t 24 rfl rfl (by kernel_rfl) rfl (fun _ m => m.keeps (.refl _)) (y_no rfl rfl h34) ?_
     refine d_tv 25 rfl rfl (by kernel_rfl) rfl (.refl _) rfl (v_and_f h34 rfl) ?_
     refine d_tv 26 rfl rfl (by kernel_rfl) rfl (.refl _) rfl (v_move rfl) ?_
     refine d_t 27 rfl rfl (by kernel_rfl) rfl (fun _ m => m.keeps (.refl _)) (y_no rfl rfl rfl) ?_
     refine d_t 28 rfl rfl (by kernel_rfl) rfl (fun _ m => m.keeps (.refl _)) (y_no rfl rfl rfl) ?_
     refine d_t 29 rfl rfl (by kernel_rfl) rfl (fun _ m => m.keeps (.refl _)) (y_no rfl rfl rfl) ?_
     refine d_t 30 rfl rfl (by kernel_rfl) rfl (fun _ m => m.keeps (.refl _)) (y_no rfl rfl rfl) ?_
     refine d_t 31 rfl rfl (by kernel_rfl) rfl (fun _ m => m.keeps (.refl _)) (y_no rfl rfl rfl) ?_
     refine d_t 32 rfl rfl (by kernel_rfl) rfl (fun _ m => m.keeps (.refl _)) (y_no rfl rfl rfl) ?_
     refine d_t 33 rfl rfl (by kernel_rfl) rfl (fun _ m => m.keeps (.refl _)) (y_no rfl rfl rfl) ?_
     refine d_t 34 rfl rfl (by kernel_rfl) rfl (fun _ m => m.keeps (.refl _)) (y_no rfl rfl rfl) ?_
     refine d_t 35 rfl rfl (by kernel_rfl) rfl (fun _ m => m.keeps (.refl _)) (y_no rfl rfl rfl) ?_
     refine d_t 36 rfl rfl (by kernel_rfl) rfl (fun _ m => m.keeps (.refl _)) (y_no rfl rfl rfl) ?_
     refine d_t 37 rfl rfl (by kernel_rfl) rfl (fun _ m => m.keeps (.refl _)) (y_no rfl rfl rfl) ?_
     refine d_tv 38 rfl rfl (by kernel_rfl) rfl (.refl _) rfl (v_and_f rfl rfl) ?_
     refine d_done (by kernel_rfl) ?_
     refine go 1 ?_
     exact q_cut ⟨rfl, rfl, rfl, rfl, rfl, rfl, (congrArg (fun b => some (Value.bool b)) (by simp only [pendP, begP, h14, h25, h34, bS])), trivial⟩ rfl rfl
   ·refine d_t 9 rfl rfl (by kernel_rfl) rfl (fun _ m => m.keeps (.refl _)) (y_no rfl rfl h25) ?_
    refine d_t 10 rfl rfl (by kernel_rfl) rfl (fun _ m => m.keeps (.refl _)) (y_no rfl rfl h25) ?_
    refine d_t 11 rfl rfl (by kernel_rfl) rfl (fun _ m => m.keeps (.refl _)) (y_no rfl rfl h25) ?_
    refine d_t 12 rfl rfl (by kernel_rfl) rfl (fun _ m => m.keeps (.refl _)) (y_no rfl rfl h25) ?_
    refine d_t 13 rfl rfl (by kernel_rfl) rfl (fun _ m => m.keeps (.refl _)) (y_no rfl rfl h25) ?_
    refine d_t 14 rfl rfl (by kernel_rfl) rfl (fun _ m => m.keeps (.refl _)) (y_no rfl rfl h25) ?_
    refine d_t 15 rfl rfl (by kernel_rfl) rfl (fun _ m => m.keeps (.refl _)) (y_no rfl rfl h25) ?_
    refine d_tv 16 rfl rfl (by kernel_rfl) rfl (.refl _) rfl (v_and_f h25 rfl) ?_
    refine d_tv 17 rfl rfl (by kernel_rfl) rfl (.refl _) rfl (v_move rfl) ?_
    refine d_t 18 rfl rfl (by kernel_rfl) rfl (fun _ m => m.keeps (.refl _)) (y_no rfl rfl rfl) ?_
    refine d_t 19 rfl rfl (by kernel_rfl) rfl (fun _ m => m.keeps (.refl _)) (y_no rfl rfl rfl) ?_
    refine d_t 20 rfl rfl (by kernel_rfl) rfl (fun _ m => m.keeps (.refl _)) (y_no rfl rfl rfl) ?_
    refine d_t 21 rfl rfl (by kernel_rfl) rfl (fun _ m => m.keeps (.refl _)) (y_no rfl rfl rfl) ?_
    refine d_t 22 rfl rfl (by kernel_rfl) rfl (fun _ m => m.keeps (.refl _)) (y_no rfl rfl rfl) ?_
    refine d_t 23 rfl rfl (by kernel_rfl) rfl (fun _ m => m.keeps (.refl _)) (y_no rfl rfl rfl) ?_
    refine d_t 24 rfl rfl (by kernel_rfl) rfl (fun _ m => m.keeps (.refl _)) (y_no rfl rfl rfl) ?_
    refine d_tv 25 rfl rfl (by kernel_rfl) rfl (.refl _) rfl (v_and_f rfl rfl) ?_
    refine d_tv 26 rfl rfl (by kernel_rfl) rfl (.refl _) rfl (v_move rfl) ?_
    refine d_t 27 rfl rfl (by kernel_rfl) rfl (fun _ m => m.keeps (.refl _)) (y_no rfl rfl rfl) ?_
    refine d_t 28 rfl rfl (by kernel_rfl) rfl (fun _ m => m.keeps (.refl _)) (y_no rfl rfl rfl) ?_
    refine d_t 29 rfl rfl (by kernel_rfl) rfl (fun _ m => m.keeps (.refl _)) (y_no rfl rfl rfl) ?_
    refine d_t 30 rfl rfl (by kernel_rfl) rfl (fun _ m => m.keeps (.refl _)) (y_no rfl rfl rfl) ?_
    refine d_t 31 rfl rfl (by kernel_rfl) rfl (fun _ m => m.keeps (.refl _)) (y_no rfl rfl rfl) ?_
    refine d_t 32 rfl rfl (by kernel_rfl) rfl (fun _ m => m.keeps (.refl _)) (y_no rfl rfl rfl) ?_
    refine d_t 33 rfl rfl (by kernel_rfl) rfl (fun _ m => m.keeps (.refl _)) (y_no rfl rfl rfl) ?_
    refine d_t 34 rfl rfl (by kernel_rfl) rfl (fun _ m => m.keeps (.refl _)) (y_no rfl rfl rfl) ?_
    refine d_t 35 rfl rfl (by kernel_rfl) rfl (fun _ m => m.keeps (.refl _)) (y_no rfl rfl rfl) ?_
    refine d_t 36 rfl rfl (by kernel_rfl) rfl (fun _ m => m.keeps (.refl _)) (y_no rfl rfl rfl) ?_
    refine d_t 37 rfl rfl (by kernel_rfl) rfl (fun _ m => m.keeps (.refl _)) (y_no rfl rfl rfl) ?_
    refine d_tv 38 rfl rfl (by kernel_rfl) rfl (.refl _) rfl (v_and_f rfl rfl) ?_
    refine d_done (by kernel_rfl) ?_
    refine go 1 ?_
    exact q_cut ⟨rfl, rfl, rfl, rfl, rfl, rfl, (congrArg (fun b => some (Value.bool b)) (by simp only [pendP, begP, h14, h25, bS])), trivial⟩ rfl rfl
  ·refine cb rfl (fun h55 p55 => ?_) (fun h55 p55 => ?_)
   ·have hbp : l[i].part = p ∧ l[i].day ≤ day := by
      have h := h55
      simp only [pendP, begP, Bool.and_eq_true, decide_eq_true_eq] at h
      exact ⟨h.1.1.2, h.1.2⟩
    have hbd := hd _ (List.getElem_mem hlt) hbp.1 hbp.2
    refine d_start1 T.mixed ?_
    refine d_tv 0 rfl rfl (by kernel_rfl) rfl (.cons _ (.refl _)) rfl (v_move rfl) ?_
    refine d_tv 1 rfl rfl (by kernel_rfl) rfl (.cons _ (.refl _)) rfl (v_move rfl) ?_
    refine d_tv 2 rfl rfl (by kernel_rfl) rfl (.cons _ (.refl _)) rfl (v_move rfl) ?_
    obtain ⟨b59, o59, w59, e59, c59, r59⟩ := RdA.at_ hA (i := i) hlt
    obtain rfl := r59
    refine d_tv 3 rfl rfl (by kernel_rfl) rfl (.cons _ (.refl _)) rfl (v_idx he rfl rfl e59 (i) (by omega) hlt) ?_
    refine d_tv 4 rfl rfl (by kernel_rfl) rfl (.cons _ (.refl _)) rfl (v_fieldAddr he rfl) ?_
    refine d_tv 5 rfl rfl (by kernel_rfl) rfl (.cons _ (.refl _)) rfl (v_ldI he rfl (c59 1 _ rfl)) ?_
    refine d_tv 6 rfl rfl (by kernel_rfl) rfl (.cons _ (.refl _)) rfl (v_fieldAddr he rfl) ?_
    refine d_tv 7 rfl rfl (by kernel_rfl) rfl (.cons _ (.refl _)) rfl (v_ld m0 he rfl rfl) ?_
    refine d_tv 8 rfl rfl (by kernel_rfl) rfl (.cons _ (.refl _)) rfl (v_add rfl rfl ⟨by omega, by omega⟩) ?_
    refine d_one 9 (by kernel_rfl) rfl ?_
    refine o_buildSlice he he rfl rfl rfl rfl rfl rfl rfl (fun v65 => ?_)
    refine d_on (fun _ m => m.keeps (.cons _ (.cons _ (.refl _)))) ?_
    refine d_one 10 (by kernel_rfl) rfl ?_
    refine bring1 ?_
    refine o_appendO he he rfl rfl rfl rfl rfl (by omega) (by omega) rfl (fun v66 => ?_)
    refine d_on (fun _ m => m.keeps (.cons _ (.cons _ (.refl _)))) ?_
    refine d_tv 11 rfl rfl (by kernel_rfl) rfl (.cons _ (.cons _ (.refl _))) rfl (v_assign rfl) ?_
    refine d_done (by kernel_rfl) ?_
    refine go 8 ?_
    refine bring1 ?_
    refine sx_drop ?_
    exact q_next3 (i + 1) (_) (_) ⟨by omega, by rw [pendR_yes hlt h55]; exact hF.append (.one rfl)⟩ (by omega) rfl sb (by rw [pendR_yes hlt h55, List.length_append]; rfl)
   ·refine go 9 ?_
    exact q_next3 (i + 1) (_) (_) ⟨by omega, by rw [pendR_no hlt h55]; exact hF⟩ (by omega) rfl sb (by rw [pendR_no hlt h55])
 ·refine go 12 ?_
  refine fin1 rfl rfl ?_
  refine bring1 ?_
  refine sx_drop ?_
  have e2 : i = l.length := (by omega)
  subst e2
  rw [List.take_length, pendR_is] at hF ⊢
  refine sx_pubrow (l := pendD d l p day) rfl rfl hF (fun I9 j9 R9 => ?_)
  exact q_i R9

theorem r26Least (I : IMap) (v : Value) (l : List Int) (hv : RdS I v l) (h0 : 0 < l.length) :
    FnV Tryz.prog 31 #[v] I (.int .i64 ((leastN l).getD 0)) := by
 have hv0 := hv
 obtain ⟨A, c0, rfl, hA, hc, hm⟩ := hv
 refine enter Tryz.func31 Tryz.call31 rfl Tryz.ntmps31 rfl (fun w0 => ?_)
 refine go 8 ?_
 obtain ⟨b6, o6, w6, e6, c6, r6⟩ := RdA.at_ hA (i := 0) h0
 obtain rfl := r6
 refine o_v rfl (v_idx he rfl rfl e6 (0) rfl h0) ?_
 refine o_v rfl (v_ldI he rfl (c6 0 _ rfl)) ?_
 refine go 10 ?_
 refine c_loop2 ((0 : Nat)) (l[0]) (fun i m => I)
  (fun i m => [(0, .slice A l.length c0), (3, .int .i64 (m)), (4, .int .i64 ((i : Nat) : Int))])
  (fun i m => [])
  (fun i m => i ≤ l.length ∧ (l.take i).foldl min l[0] = m)
  (fun i m => l.length - i) ⟨Nat.zero_le _, rfl⟩ rfl sb rfl ?_
 intro i m ⟨hi, hn⟩
 refine go 9 ?_
 refine cb rfl (fun h11 p11 => ?_) (fun h11 p11 => ?_)
 ·have hlt : i < l.length := by omega
  refine go 8 ?_
  obtain ⟨b17, o17, w17, e17, c17, r17⟩ := RdA.at_ hA (i := i) (by omega)
  obtain rfl := r17
  refine o_v rfl (v_idx he rfl rfl e17 (i) (by omega) (by omega)) ?_
  refine o_v rfl (v_ldI he rfl (c17 0 _ rfl)) ?_
  refine o_v rfl (OV.cast (u := .int .i64 (min m l[i])) (v_imin rfl rfl) (congrArg (Value.int .i64) (by omega))) ?_
  refine go 10 ?_
  exact q_next2 (i + 1) (min m l[i]) ⟨by omega, least_next hlt hn⟩ (by omega) rfl sb rfl
 ·refine go 12 ?_
  refine fin1 rfl rfl ?_
  have e2 : i = l.length := (by omega)
  subst e2
  rw [List.take_length] at hn
  exact q_v (congrArg (Value.int .i64) (by rw [← hn, least_fold h0]))

theorem r26Before (I : IMap) (a b : Due) :
    FnV Tryz.prog 37 #[.agg a.cells.toArray, .agg b.cells.toArray] I (.bool (dueLt a b)) := by
 refine enter Tryz.func37 Tryz.call37 rfl Tryz.ntmps37 rfl (fun w0 => ?_)
 refine go 3 ?_
 refine o_box _ rfl rfl rfl (fun g2 => ?_)
 refine go 1 ?_
 refine o_box _ rfl rfl rfl (fun g3 => ?_)
 refine go 11 ?_
 refine sxb 10 rfl (fun h10 p10 => ?_) (fun h10 p10 => ?_)
 ·refine go 17 ?_
  refine fin1 rfl rfl ?_
  exact q_v (congrArg Value.bool (by simp only [dueLt, h10, bS]))
 ·refine go 6 ?_
  refine sxb 16 rfl (fun h16 p16 => ?_) (fun h16 p16 => ?_)
  ·refine go 11 ?_
   refine fin1 rfl rfl ?_
   exact q_v (congrArg Value.bool (by simp only [dueLt, h10, h16, bS]))
  ·refine go 11 ?_
   refine fin1 rfl rfl ?_
   exact q_v (congrArg Value.bool (by simp only [dueLt, h10, h16, bS]))

theorem r26Dues (I : IMap) (v : Value) (l : List Due) (hv : RdS I v l) (v2 : Value) (m : List Due) (hv2 : RdS I v2 m) :
    FnV Tryz.prog 15 #[v, v2] I (.bool (decide (l = m))) := by
 obtain ⟨A, c0, rfl, hA, hc, hm⟩ := hv
 obtain ⟨B, c1, rfl, hB, hc1, hm1⟩ := hv2
 refine enter Tryz.func15 Tryz.call15 rfl Tryz.ntmps15 rfl (fun w0 => ?_)
 refine go 15 ?_
 refine cb rfl (fun h10 p10 => ?_) (fun h10 p10 => ?_)
 ·refine go 7 ?_
  refine fin1 rfl rfl ?_
  exact q_v (congrArg Value.bool (decide_eq_false (by rintro rfl; revert h10; simp)).symm)
 ·have hlm : l.length = m.length := by revert h10; simp; omega
  refine go 9 ?_
  refine c_loop (α := Nat) 0 (fun i => I)
   (fun i => [(0, .slice A l.length c0), (1, .slice B m.length c1), (5, .int .i64 ((i : Nat) : Int))])
   (fun i => [])
   (fun i => i ≤ l.length ∧ l.take i = m.take i)
   (fun i => l.length - i) ⟨Nat.zero_le _, rfl⟩ rfl sb rfl ?_
  intro i ⟨hi, hn⟩
  refine go 9 ?_
  refine cb rfl (fun h14 p14 => ?_) (fun h14 p14 => ?_)
  ·have hlt : i < l.length := by omega
   refine go 5 ?_
   refine d_startH T.mixed ?_
   refine d_tv 0 rfl rfl (by kernel_rfl) rfl .slnil rfl (v_move rfl) ?_
   refine d_tv 1 rfl rfl (by kernel_rfl) rfl .slnil rfl (v_move rfl) ?_
   obtain ⟨b19, o19, w19, e19, c19, r19⟩ := RdA.at_ hA (i := i) hlt
   obtain rfl := r19
   refine d_tv 2 rfl rfl (by kernel_rfl) rfl .slnil rfl (v_idx he rfl rfl e19 (i) (by omega) hlt) ?_
   refine d_tv 3 rfl rfl (by kernel_rfl) rfl .slnil rfl (v_ldIa he rfl c19 rfl) ?_
   refine d_tv 4 rfl rfl (by kernel_rfl) rfl .slnil rfl (v_move rfl) ?_
   refine d_tv 5 rfl rfl (by kernel_rfl) rfl .slnil rfl (v_move rfl) ?_
   obtain ⟨b23, o23, w23, e23, c23, r23⟩ := RdA.at_ hB (i := i) (by omega)
   obtain rfl := r23
   refine d_tv 6 rfl rfl (by kernel_rfl) rfl .slnil rfl (v_idx he rfl rfl e23 (i) (by omega) (by omega)) ?_
   refine d_tv 7 rfl rfl (by kernel_rfl) rfl .slnil rfl (v_ldIa he rfl c23 rfl) ?_
   refine d_tv 8 rfl rfl (by kernel_rfl) rfl .slnil rfl (v_stneq T.eqg_37 (eqS_Due l[i] m[i]) rfl rfl) ?_
   refine d_done (by kernel_rfl) ?_
   refine go 1 ?_
   refine cb rfl (fun h25 p25 => ?_) (fun h25 p25 => ?_)
   ·refine go 11 ?_
    refine fin1 rfl rfl ?_
    exact q_v (congrArg Value.bool (same_no hlt (by omega) (by simpa using h25)).symm)
   ·refine go 9 ?_
    exact q_next (i + 1) ⟨by omega, same_next hlt (by omega) hn (by simpa using h25)⟩ (by omega) rfl sb rfl
  ·refine go 11 ?_
   refine fin1 rfl rfl ?_
   exact q_v (congrArg Value.bool (decide_eq_true (same_end hlm (by omega) hn)).symm)

theorem r26Overdue (I : IMap) (vd : Value) (ds : List Dut) (hds : RdS I vd ds) (hdl : ds.length ≤ 1000000) (hsd : ∀ d ∈ ds, SmD d) (vc : Value) (c : List Kind) (hvc : RdS I vc c) (hsc : SmC c) (v : Value) (l : List Evt) (hv : RdS I v l) (hl : l.length ≤ 1000000) (hse : ∀ e ∈ l, SmE e) (p : ByteArray) (day : Int) :
    FnI Tryz.prog 14 #[vd, .agg #[vc], v, .string p, .int .i64 (day)] I (fun u J => RdS J u (lateN ds c l p day)) := by
 have hds0 := hds
 obtain ⟨D, dc, rfl, hD, hdc, hdm⟩ := hds
 refine enter Tryz.func14 Tryz.call14 rfl Tryz.ntmps14 rfl (fun w0 => ?_)
 refine go 3 ?_
 refine o_box _ rfl rfl rfl (fun g6 => ?_)
 refine go 10 ?_
 refine o_call (r26Kind _ vc c hvc hsc v l hv hl hse p day) rfl rfl (fun v24 I24 j24 q24 => ?_)
 have hv := hv.le j24
 have hD := hD.le j24
 have hds0 := hds0.le j24
 obtain rfl := q24
 refine go 19 ?_
 refine sx_drop ?_
 refine c_loop3 ((0 : Nat)) (_) (I24) (fun i v13 J => J)
  (fun i v13 J => [(0, .slice D ds.length dc), (2, v), (3, .string p), (4, .int .i64 (day)), (11, .string ((findP (atF11 c l day).1 p).getD zPart).kind), (12, .bool (liveB c l p day)), (13, v13), (14, .int .i64 ((i : Nat) : Int))])
  (fun i v13 J => [])
  (fun i v13 J => i ≤ ds.length ∧ ILe I24 J ∧ RdS J v13 (lateTo ds ((findP (atF11 c l day).1 p).getD zPart).kind l p day i) ∧ (liveB c l p day = false → i = 0))
  (fun i v13 J => ds.length - i) ⟨Nat.zero_le _, ILe.refl _, RdS.nil', fun _ => rfl⟩ rfl sb rfl ?_
 intro i v13 J ⟨hi, hJ, hv13, hl0⟩
 have hD := hD.le hJ
 have hv := hv.le hJ
 obtain ⟨NA, nc, rfl, hNA, hnc, hncm⟩ := id hv13
 have hnl := lateTo_len (ds := ds) (k := ((findP (atF11 c l day).1 p).getD zPart).kind) (l := l) (p := p) (day := day) (i := i)
 refine go 5 ?_
 refine sxb 28 rfl (fun h28 p28 => ?_) (fun h28 p28 => ?_)
 ·refine go 7 ?_
  refine cb rfl (fun h33 p33 => ?_) (fun h33 p33 => ?_)
  ·have hlt : i < ds.length := by omega
   have hlv : liveK c l p day = some ((findP (atF11 c l day).1 p).getD zPart).kind := by rw [liveB_is, if_pos h28]
   have hok := (live_ok hlv).1
   have hda : ∀ e ∈ l, e.part = p → e.day ≤ day → 0 ≤ e.day ∧ e.day ≤ 40000 := fun e h1 _ h2 => at_days hok h1 h2
   refine go 8 ?_
   obtain ⟨b38, o38, w38, e38, c38, r38⟩ := RdA.at_ hD (i := i) hlt
   obtain rfl := r38
   refine o_v rfl (v_idx he rfl rfl e38 (i) (by omega) hlt) ?_
   refine o_v rfl (v_ldIa he rfl c38 rfl) ?_
   refine go 1 ?_
   refine o_alloc he rfl (fun g15 => ?_)
   refine go 1 ?_
   refine o_stw _ he rfl rfl rfl rfl rfl rfl ?_
   refine go 7 ?_
   refine o_callV (r26Valid _ ds[i] (hsd _ (List.getElem_mem hlt))) rfl rfl ?_
   refine go 2 ?_
   refine sxb 43 rfl (fun h43 p43 => ?_) (fun h43 p43 => ?_)
   ·refine go 7 ?_
    refine c_true rfl ?_
    refine go 10 ?_
    refine sx_drop ?_
    exact q_next3 (i + 1) (_) (J) ⟨by omega, hJ, by rw [lateTo_none hlt (dueOf_bad (by simpa using h43))]; exact hv13, fun h => by rw [h28] at h; cases h⟩ (by omega) rfl sb rfl
   ·refine go 7 ?_
    refine cb rfl (fun h48 p48 => ?_) (fun h48 p48 => ?_)
    ·refine go 10 ?_
     refine sx_drop ?_
     exact q_next3 (i + 1) (_) (J) ⟨by omega, hJ, by rw [lateTo_none hlt (dueOf_kind (by simpa using h48))]; exact hv13, fun h => by rw [h28] at h; cases h⟩ (by omega) rfl sb rfl
    ·have hvd : validDu ds[i] = true := by simpa using h43
     have hkd : ds[i].kind = ((findP (atF11 c l day).1 p).getD zPart).kind := by simpa using h48
     refine go 9 ?_
     refine o_call (r26Pending _ ds[i] v l hv hl p day (valid_within hvd) hda) rfl rfl (fun v53 I53 j53 q53 => ?_)
     have hv13 := hv13.le j53
     have hNA := hNA.le j53
     have hD := hD.le j53
     have hv := hv.le j53
     have q53s := q53
     obtain ⟨PA, pc, rfl, hPA, _, _⟩ := q53s
     refine go 10 ?_
     refine sxb 57 rfl (fun h57 p57 => ?_) (fun h57 p57 => ?_)
     ·refine go 7 ?_
      refine c_true rfl ?_
      refine go 10 ?_
      refine sx_drop ?_
      exact q_next3 (i + 1) (_) (I53) ⟨by omega, hJ.trans j53, by rw [lateTo_none hlt (due_empty (by omega))]; exact hv13, fun h => by rw [h28] at h; cases h⟩ (by omega) rfl sb rfl
     ·refine go 2 ?_
      refine o_yes rfl rfl h57 (o_callV (r26Least _ _ _ q53 (by omega)) rfl rfl ?_)
      refine go 5 ?_
      refine cb rfl (fun h62 p62 => ?_) (fun h62 p62 => ?_)
      ·refine go 10 ?_
       refine sx_drop ?_
       exact q_next3 (i + 1) (_) (I53) ⟨by omega, hJ.trans j53, by rw [lateTo_not hlt (due_full hvd hkd (by omega)) (by omega)]; exact hv13, fun h => by rw [h28] at h; cases h⟩ (by omega) rfl sb rfl
      ·have hdu := due_full hvd hkd (by omega : ¬ (pendD ds[i] l p day).length = 0)
       have hday : (leastN (pendD ds[i] l p day)).getD 0 < day := by omega
       refine go 8 ?_
       refine c_cutx (α := Nat) (Ix := (fun k => I53)) (Lx := (fun k => [(0, .slice D ds.length dc), (2, v), (3, .string p), (4, .int .i64 (day)), (11, .string ((findP (atF11 c l day).1 p).getD zPart).kind), (12, .bool (liveB c l p day)), (13, .slice NA (lateTo ds ((findP (atF11 c l day).1 p).getD zPart).kind l p day i).length nc), (14, .int .i64 ((i : Nat) : Int)), (15, .pointer (some ⟨g15, 0, none⟩)), (17, .int .i64 ((k : Nat) : Int))])) (Hx := (fun k => [.blk g15 43 ds[i].cells])) (p := (fun k => k ≤ (lateTo ds ((findP (atF11 c l day).1 p).getD zPart).kind l p day i).length ∧ (∀ j (h : j < (lateTo ds ((findP (atF11 c l day).1 p).getD zPart).kind l p day i).length), j < k → sLt (lateTo ds ((findP (atF11 c l day).1 p).getD zPart).kind l p day i)[j] ds[i].name = true) ∧ ∀ h : k < (lateTo ds ((findP (atF11 c l day).1 p).getD zPart).kind l p day i).length, sLt (lateTo ds ((findP (atF11 c l day).1 p).getD zPart).kind l p day i)[k] ds[i].name = false)) ?_ ?_
       ·refine go 1 ?_
        refine c_loop (α := Nat) (0 : Nat) (fun k => I53)
         (fun k => [(0, .slice D ds.length dc), (2, v), (3, .string p), (4, .int .i64 (day)), (11, .string ((findP (atF11 c l day).1 p).getD zPart).kind), (12, .bool (liveB c l p day)), (13, .slice NA (lateTo ds ((findP (atF11 c l day).1 p).getD zPart).kind l p day i).length nc), (14, .int .i64 ((i : Nat) : Int)), (15, .pointer (some ⟨g15, 0, none⟩)), (17, .int .i64 ((k : Nat) : Int))])
         (fun k => [.blk g15 43 ds[i].cells])
         (fun k => k ≤ (lateTo ds ((findP (atF11 c l day).1 p).getD zPart).kind l p day i).length ∧ ∀ j (h : j < (lateTo ds ((findP (atF11 c l day).1 p).getD zPart).kind l p day i).length), j < k → sLt (lateTo ds ((findP (atF11 c l day).1 p).getD zPart).kind l p day i)[j] ds[i].name = true)
         (fun k => (lateTo ds ((findP (atF11 c l day).1 p).getD zPart).kind l p day i).length - k) ⟨Nat.zero_le _, fun j h hj => absurd hj (Nat.not_lt_zero j)⟩ rfl sb rfl ?_
        intro k ⟨hk, hq⟩
        refine go 2 ?_
        refine d_startH T.mixed ?_
        refine d_tv 0 rfl rfl (by kernel_rfl) rfl (.refl _) rfl (v_move rfl) ?_
        refine d_tv 1 rfl rfl (by kernel_rfl) rfl (.refl _) rfl (v_move rfl) ?_
        refine d_tv 2 rfl rfl (by kernel_rfl) rfl (.refl _) rfl (v_len_slice he rfl) ?_
        refine d_tv 3 rfl rfl (by kernel_rfl) rfl (.refl _) rfl (v_lss rfl rfl) ?_
        refine d_tv 4 rfl rfl (by kernel_rfl) rfl (.refl _) rfl (v_move rfl) ?_
        refine sxb 67 rfl (fun h67 p67 => ?_) (fun h67 p67 => ?_)
        ·have hkl : k < (lateTo ds ((findP (atF11 c l day).1 p).getD zPart).kind l p day i).length := by omega
         refine d_t 5 rfl rfl (by kernel_rfl) rfl (fun _ m => m.keeps (.refl _)) (y_yes rfl rfl h67 (v_move rfl)) ?_
         refine d_t 6 rfl rfl (by kernel_rfl) rfl (fun _ m => m.keeps (.refl _)) (y_yes rfl rfl h67 (v_move rfl)) ?_
         obtain ⟨b70, o70, w70, e70, c70, r70⟩ := RdA.at_ hNA (i := k) (by omega)
         obtain rfl := r70
         refine d_t 7 rfl rfl (by kernel_rfl) rfl (fun _ m => m.keeps (.refl _)) (y_yes rfl rfl h67 (v_idx he rfl rfl e70 (k) (by omega) (by omega))) ?_
         refine d_t 8 rfl rfl (by kernel_rfl) rfl (fun _ m => m.keeps (.refl _)) (y_yes rfl rfl h67 (v_ldI he rfl (c70 0 _ rfl))) ?_
         refine d_t 9 rfl rfl (by kernel_rfl) rfl (fun _ m => m.keeps (.refl _)) (y_yes rfl rfl h67 (v_fieldAddr he rfl)) ?_
         refine d_t 10 rfl rfl (by kernel_rfl) rfl (fun _ m => m.keeps (.refl _)) (y_yes rfl rfl h67 (v_ld m0 he rfl rfl)) ?_
         refine d_t 11 rfl rfl (by kernel_rfl) rfl (fun _ m => m.keeps (.refl _)) (y_yes rfl rfl h67 (v_slss rfl rfl)) ?_
         refine d_tv 12 rfl rfl (by kernel_rfl) rfl (.refl _) rfl (v_and_t h67 rfl rfl) ?_
         refine d_done (by kernel_rfl) ?_
         refine go 1 ?_
         refine cb rfl (fun h75 p75 => ?_) (fun h75 p75 => ?_)
         ·refine go 10 ?_
          exact q_next (k + 1) ⟨by omega, fun j h hj => by
            rcases Nat.lt_or_ge j k with h2 | h2
            · exact hq j h h2
            · obtain rfl : j = k := by omega
              exact p75⟩ (by omega) rfl sb rfl
         ·refine go 5 ?_
          exact q_cutx k ⟨hk, hq, fun h => by simpa using p75⟩ sb rfl rfl
        ·refine d_t 5 rfl rfl (by kernel_rfl) rfl (fun _ m => m.keeps (.refl _)) (y_no rfl rfl h67) ?_
         refine d_t 6 rfl rfl (by kernel_rfl) rfl (fun _ m => m.keeps (.refl _)) (y_no rfl rfl h67) ?_
         refine d_t 7 rfl rfl (by kernel_rfl) rfl (fun _ m => m.keeps (.refl _)) (y_no rfl rfl h67) ?_
         refine d_t 8 rfl rfl (by kernel_rfl) rfl (fun _ m => m.keeps (.refl _)) (y_no rfl rfl h67) ?_
         refine d_t 9 rfl rfl (by kernel_rfl) rfl (fun _ m => m.keeps (.refl _)) (y_no rfl rfl h67) ?_
         refine d_t 10 rfl rfl (by kernel_rfl) rfl (fun _ m => m.keeps (.refl _)) (y_no rfl rfl h67) ?_
         refine d_t 11 rfl rfl (by kernel_rfl) rfl (fun _ m => m.keeps (.refl _)) (y_no rfl rfl h67) ?_
         refine d_tv 12 rfl rfl (by kernel_rfl) rfl (.refl _) rfl (v_and_f h67 rfl) ?_
         refine d_done (by kernel_rfl) ?_
         refine go 1 ?_
         refine c_false rfl ?_
         refine go 5 ?_
         exact q_cutx k ⟨hk, hq, fun h => absurd h (by omega)⟩ sb rfl rfl
       ·intro k ⟨hk, hq, hq2⟩
        refine go 1 ?_
        refine d_startH T.mixed ?_
        refine d_tv 0 rfl rfl (by kernel_rfl) rfl (.refl _) rfl (v_move rfl) ?_
        refine d_tv 1 rfl rfl (by kernel_rfl) rfl (.refl _) rfl (v_move rfl) ?_
        refine d_tv 2 rfl rfl (by kernel_rfl) rfl (.refl _) rfl (v_len_slice he rfl) ?_
        refine d_tv 3 rfl rfl (by kernel_rfl) rfl (.refl _) rfl (v_eql rfl rfl) ?_
        refine d_tv 4 rfl rfl (by kernel_rfl) rfl (.refl _) rfl (v_move rfl) ?_
        refine sxb 82 rfl (fun h82 p82 => ?_) (fun h82 p82 => ?_)
        ·refine d_t 5 rfl rfl (by kernel_rfl) rfl (fun _ m => m.keeps (.refl _)) (y_no rfl rfl h82) ?_
         refine d_t 6 rfl rfl (by kernel_rfl) rfl (fun _ m => m.keeps (.refl _)) (y_no rfl rfl h82) ?_
         refine d_t 7 rfl rfl (by kernel_rfl) rfl (fun _ m => m.keeps (.refl _)) (y_no rfl rfl h82) ?_
         refine d_t 8 rfl rfl (by kernel_rfl) rfl (fun _ m => m.keeps (.refl _)) (y_no rfl rfl h82) ?_
         refine d_t 9 rfl rfl (by kernel_rfl) rfl (fun _ m => m.keeps (.refl _)) (y_no rfl rfl h82) ?_
         refine d_t 10 rfl rfl (by kernel_rfl) rfl (fun _ m => m.keeps (.refl _)) (y_no rfl rfl h82) ?_
         refine d_t 11 rfl rfl (by kernel_rfl) rfl (fun _ m => m.keeps (.refl _)) (y_no rfl rfl h82) ?_
         refine d_tv 12 rfl rfl (by kernel_rfl) rfl (.refl _) rfl (v_or_t h82 rfl) ?_
         refine d_done (by kernel_rfl) ?_
         refine go 1 ?_
         refine c_true rfl ?_
         refine go 1 ?_
         refine sx_knowI (fun hE14 hf14 => ?_)
         refine d_startH T.mixed ?_
         refine d_tv 0 rfl rfl (by kernel_rfl) rfl (.refl _) rfl (v_fieldAddr he rfl) ?_
         refine d_tv 1 rfl rfl (by kernel_rfl) rfl (.refl _) rfl (v_ld m0 he rfl rfl) ?_
         refine d_tv 3 rfl rfl (by kernel_rfl) rfl (.refl _) rfl (v_move rfl) ?_
         refine d_tv 4 rfl rfl (by kernel_rfl) rfl (.refl _) rfl (v_move rfl) ?_
         refine d_tv 5 rfl rfl (by kernel_rfl) rfl (.refl _) rfl (v_slice_lo he rfl rfl k rfl (by omega)) ?_
         refine d_one 2 (by kernel_rfl) rfl ?_
         refine o_buildSlice he he rfl rfl rfl rfl rfl rfl rfl (fun v93 => ?_)
         refine d_on (fun _ m => m.keeps (.cons _ (.refl _))) ?_
         refine d_one 6 (by kernel_rfl) rfl ?_
         refine o_appendR ((hv13.drop k (by omega))) rfl he he rfl rfl rfl rfl (by simp; omega) (by simp; omega) rfl (fun v97 x97 f97 => ?_)
         refine sx_pubrow (l := ds[i].name :: (lateTo ds ((findP (atF11 c l day).1 p).getD zPart).kind l p day i).drop k) rfl (by simp; omega) (.cons rfl f97) (fun I97 j97 R97 => ?_)
         have hv13 := hv13.le j97
         have hNA := hNA.le j97
         refine d_on (fun _ m => m.keepsI (.refl _) (j97) hE14 hf14) ?_
         refine d_t 7 rfl rfl (by kernel_rfl) rfl (fun _ m => m.keepsI (.refl _) (j97) hE14 hf14) (y_v rfl (v_assign rfl)) ?_
         refine d_done (by kernel_rfl) ?_
         refine go 3 ?_
         refine o_buildSlice he he rfl rfl rfl rfl rfl rfl rfl (fun v98 => ?_)
         refine go 2 ?_
         refine o_v rfl (v_slice_hi he rfl rfl k rfl (by omega)) ?_
         refine go 1 ?_
         refine o_appendR ((hv13.take k (by omega))) rfl he he rfl rfl rfl rfl (by simp; omega) (by simp; omega) rfl (fun v102 x102 f102 => ?_)
         refine go 2 ?_
         refine o_appendR (R97) rfl he he rfl rfl rfl rfl (by simp; omega) (by simp; omega) rfl (fun v104 x104 f104 => ?_)
         refine sx_pubrow (l := (lateTo ds ((findP (atF11 c l day).1 p).getD zPart).kind l p day i).take k ++ ds[i].name :: (lateTo ds ((findP (atF11 c l day).1 p).getD zPart).kind l p day i).drop k) rfl (by simp <;> omega) (((Flat.nil.append f102).append f104)) (fun I104 j104 R104 => ?_)
         refine go 10 ?_
         refine sx_drop ?_
         exact q_next3 (i + 1) (_) (I104) ⟨by omega, hJ.trans (j53.trans (j97.trans j104)), by rw [lateTo_add hlt hdu hday, insU_new hk hq (fun h => absurd h (by omega))]; exact R104, fun h => by rw [h28] at h; cases h⟩ (by omega) rfl sb rfl
        ·have hkl : k < (lateTo ds ((findP (atF11 c l day).1 p).getD zPart).kind l p day i).length := by omega
         refine d_t 5 rfl rfl (by kernel_rfl) rfl (fun _ m => m.keeps (.refl _)) (y_yes rfl rfl h82 (v_move rfl)) ?_
         refine d_t 6 rfl rfl (by kernel_rfl) rfl (fun _ m => m.keeps (.refl _)) (y_yes rfl rfl h82 (v_move rfl)) ?_
         obtain ⟨b85, o85, w85, e85, c85, r85⟩ := RdA.at_ hNA (i := k) (by omega)
         obtain rfl := r85
         refine d_t 7 rfl rfl (by kernel_rfl) rfl (fun _ m => m.keeps (.refl _)) (y_yes rfl rfl h82 (v_idx he rfl rfl e85 (k) (by omega) (by omega))) ?_
         refine d_t 8 rfl rfl (by kernel_rfl) rfl (fun _ m => m.keeps (.refl _)) (y_yes rfl rfl h82 (v_ldI he rfl (c85 0 _ rfl))) ?_
         refine d_t 9 rfl rfl (by kernel_rfl) rfl (fun _ m => m.keeps (.refl _)) (y_yes rfl rfl h82 (v_fieldAddr he rfl)) ?_
         refine d_t 10 rfl rfl (by kernel_rfl) rfl (fun _ m => m.keeps (.refl _)) (y_yes rfl rfl h82 (v_ld m0 he rfl rfl)) ?_
         refine d_t 11 rfl rfl (by kernel_rfl) rfl (fun _ m => m.keeps (.refl _)) (y_yes rfl rfl h82 (v_sneq rfl rfl)) ?_
         refine d_tv 12 rfl rfl (by kernel_rfl) rfl (.refl _) rfl (v_or_f h82 rfl rfl) ?_
         refine d_done (by kernel_rfl) ?_
         refine go 1 ?_
         refine cb rfl (fun h90 p90 => ?_) (fun h90 p90 => ?_)
         ·refine go 1 ?_
          refine sx_knowI (fun hE14 hf14 => ?_)
          refine d_startH T.mixed ?_
          refine d_tv 0 rfl rfl (by kernel_rfl) rfl (.refl _) rfl (v_fieldAddr he rfl) ?_
          refine d_tv 1 rfl rfl (by kernel_rfl) rfl (.refl _) rfl (v_ld m0 he rfl rfl) ?_
          refine d_tv 3 rfl rfl (by kernel_rfl) rfl (.refl _) rfl (v_move rfl) ?_
          refine d_tv 4 rfl rfl (by kernel_rfl) rfl (.refl _) rfl (v_move rfl) ?_
          refine d_tv 5 rfl rfl (by kernel_rfl) rfl (.refl _) rfl (v_slice_lo he rfl rfl k rfl (by omega)) ?_
          refine d_one 2 (by kernel_rfl) rfl ?_
          refine o_buildSlice he he rfl rfl rfl rfl rfl rfl rfl (fun v93 => ?_)
          refine d_on (fun _ m => m.keeps (.cons _ (.refl _))) ?_
          refine d_one 6 (by kernel_rfl) rfl ?_
          refine o_appendR ((hv13.drop k (by omega))) rfl he he rfl rfl rfl rfl (by simp; omega) (by simp; omega) rfl (fun v97 x97 f97 => ?_)
          refine sx_pubrow (l := ds[i].name :: (lateTo ds ((findP (atF11 c l day).1 p).getD zPart).kind l p day i).drop k) rfl (by simp; omega) (.cons rfl f97) (fun I97 j97 R97 => ?_)
          have hv13 := hv13.le j97
          have hNA := hNA.le j97
          refine d_on (fun _ m => m.keepsI (.refl _) (j97) hE14 hf14) ?_
          refine d_t 7 rfl rfl (by kernel_rfl) rfl (fun _ m => m.keepsI (.refl _) (j97) hE14 hf14) (y_v rfl (v_assign rfl)) ?_
          refine d_done (by kernel_rfl) ?_
          refine go 3 ?_
          refine o_buildSlice he he rfl rfl rfl rfl rfl rfl rfl (fun v98 => ?_)
          refine go 2 ?_
          refine o_v rfl (v_slice_hi he rfl rfl k rfl (by omega)) ?_
          refine go 1 ?_
          refine o_appendR ((hv13.take k (by omega))) rfl he he rfl rfl rfl rfl (by simp; omega) (by simp; omega) rfl (fun v102 x102 f102 => ?_)
          refine go 2 ?_
          refine o_appendR (R97) rfl he he rfl rfl rfl rfl (by simp; omega) (by simp; omega) rfl (fun v104 x104 f104 => ?_)
          refine sx_pubrow (l := (lateTo ds ((findP (atF11 c l day).1 p).getD zPart).kind l p day i).take k ++ ds[i].name :: (lateTo ds ((findP (atF11 c l day).1 p).getD zPart).kind l p day i).drop k) rfl (by simp <;> omega) (((Flat.nil.append f102).append f104)) (fun I104 j104 R104 => ?_)
          refine go 10 ?_
          refine sx_drop ?_
          exact q_next3 (i + 1) (_) (I104) ⟨by omega, hJ.trans (j53.trans (j97.trans j104)), by rw [lateTo_add hlt hdu hday, insU_new hk hq (fun h => ⟨hq2 h, by simpa using p90⟩)]; exact R104, fun h => by rw [h28] at h; cases h⟩ (by omega) rfl sb rfl
         ·refine go 9 ?_
          refine sx_drop ?_
          exact q_next3 (i + 1) (_) (I53) ⟨by omega, hJ.trans j53, by rw [lateTo_add hlt hdu hday, insU_old (by omega) hq (hq2 (by omega)) (by simpa using p90)]; exact hv13, fun h => by rw [h28] at h; cases h⟩ (by omega) rfl sb rfl
  ·refine go 12 ?_
   refine fin1 rfl rfl ?_
   have e2 : i = ds.length := (by omega)
   subst e2
   exact q_i (by rw [← late_all (by simpa using h28)]; exact hv13)
 ·refine go 7 ?_
  refine c_false rfl ?_
  refine go 12 ?_
  refine fin1 rfl rfl ?_
  obtain rfl : i = 0 := hl0 (by simpa using h28)
  exact q_i (by rw [late_nil (dead_pend (by simpa using h28))]; exact hv13)

theorem r26Open (I : IMap) (vd : Value) (ds : List Dut) (hds : RdS I vd ds) (hdl : ds.length ≤ 1000000) (hsd : ∀ d ∈ ds, SmD d) (vc : Value) (c : List Kind) (hvc : RdS I vc c) (hsc : SmC c) (v : Value) (l : List Evt) (hv : RdS I v l) (hl : l.length ≤ 1000000) (hse : ∀ e ∈ l, SmE e) (p : ByteArray) (day : Int) :
    FnI Tryz.prog 17 #[vd, .agg #[vc], v, .string p, .int .i64 (day)] I (fun u J => RdS J u (openD ds c l p day)) := by
 have hds0 := hds
 obtain ⟨D, dc, rfl, hD, hdc, hdm⟩ := hds
 refine enter Tryz.func17 Tryz.call17 rfl Tryz.ntmps17 rfl (fun w0 => ?_)
 refine go 3 ?_
 refine o_box _ rfl rfl rfl (fun g6 => ?_)
 refine go 10 ?_
 refine o_call (r26Kind _ vc c hvc hsc v l hv hl hse p day) rfl rfl (fun v25 I25 j25 q25 => ?_)
 have hv := hv.le j25
 have hD := hD.le j25
 have hds0 := hds0.le j25
 obtain rfl := q25
 refine go 19 ?_
 refine sx_drop ?_
 refine c_loop3 ((0 : Nat)) (_) (I25) (fun i v13 J => J)
  (fun i v13 J => [(0, .slice D ds.length dc), (2, v), (3, .string p), (4, .int .i64 (day)), (11, .string ((findP (atF11 c l day).1 p).getD zPart).kind), (12, .bool (liveB c l p day)), (13, v13), (14, .int .i64 ((i : Nat) : Int))])
  (fun i v13 J => [])
  (fun i v13 J => i ≤ ds.length ∧ ILe I25 J ∧ RdS J v13 (openTo' ds ((findP (atF11 c l day).1 p).getD zPart).kind l p day i) ∧ (liveB c l p day = false → i = 0))
  (fun i v13 J => ds.length - i) ⟨Nat.zero_le _, ILe.refl _, RdS.nil', fun _ => rfl⟩ rfl sb rfl ?_
 intro i v13 J ⟨hi, hJ, hv13, hl0⟩
 have hD := hD.le hJ
 have hv := hv.le hJ
 obtain ⟨NA, nc, rfl, hNA, hnc, hncm⟩ := id hv13
 have hnl := openTo_len (ds := ds) (k := ((findP (atF11 c l day).1 p).getD zPart).kind) (l := l) (p := p) (day := day) (i := i)
 refine go 5 ?_
 refine sxb 29 rfl (fun h29 p29 => ?_) (fun h29 p29 => ?_)
 ·refine go 7 ?_
  refine cb rfl (fun h34 p34 => ?_) (fun h34 p34 => ?_)
  ·have hlt : i < ds.length := by omega
   have hlv : liveK c l p day = some ((findP (atF11 c l day).1 p).getD zPart).kind := by rw [liveB_is, if_pos h29]
   have hok := (live_ok hlv).1
   have hda : ∀ e ∈ l, e.part = p → e.day ≤ day → 0 ≤ e.day ∧ e.day ≤ 40000 := fun e h1 _ h2 => at_days hok h1 h2
   refine go 8 ?_
   obtain ⟨b39, o39, w39, e39, c39, r39⟩ := RdA.at_ hD (i := i) hlt
   obtain rfl := r39
   refine o_v rfl (v_idx he rfl rfl e39 (i) (by omega) hlt) ?_
   refine o_v rfl (v_ldIa he rfl c39 rfl) ?_
   refine go 1 ?_
   refine o_alloc he rfl (fun g15 => ?_)
   refine go 1 ?_
   refine o_stw _ he rfl rfl rfl rfl rfl rfl ?_
   refine go 7 ?_
   refine o_callV (r26Valid _ ds[i] (hsd _ (List.getElem_mem hlt))) rfl rfl ?_
   refine go 2 ?_
   refine sxb 44 rfl (fun h44 p44 => ?_) (fun h44 p44 => ?_)
   ·refine go 7 ?_
    refine c_true rfl ?_
    refine go 10 ?_
    refine sx_drop ?_
    exact q_next3 (i + 1) (_) (J) ⟨by omega, hJ, by rw [openTo_none hlt (dueOf_bad (by simpa using h44))]; exact hv13, fun h => by rw [h29] at h; cases h⟩ (by omega) rfl sb rfl
   ·refine go 7 ?_
    refine cb rfl (fun h49 p49 => ?_) (fun h49 p49 => ?_)
    ·refine go 10 ?_
     refine sx_drop ?_
     exact q_next3 (i + 1) (_) (J) ⟨by omega, hJ, by rw [openTo_none hlt (dueOf_kind (by simpa using h49))]; exact hv13, fun h => by rw [h29] at h; cases h⟩ (by omega) rfl sb rfl
    ·have hvd : validDu ds[i] = true := by simpa using h44
     have hkd : ds[i].kind = ((findP (atF11 c l day).1 p).getD zPart).kind := by simpa using h49
     refine go 9 ?_
     refine o_call (r26Pending _ ds[i] v l hv hl p day (valid_within hvd) hda) rfl rfl (fun v54 I54 j54 q54 => ?_)
     have hv13 := hv13.le j54
     have hNA := hNA.le j54
     have hD := hD.le j54
     have hv := hv.le j54
     have q54s := q54
     obtain ⟨PA, pc, rfl, hPA, _, _⟩ := q54s
     refine go 10 ?_
     refine sxb 58 rfl (fun h58 p58 => ?_) (fun h58 p58 => ?_)
     ·refine go 7 ?_
      refine c_true rfl ?_
      refine go 10 ?_
      refine sx_drop ?_
      exact q_next3 (i + 1) (_) (I54) ⟨by omega, hJ.trans j54, by rw [openTo_none hlt (due_empty (by omega))]; exact hv13, fun h => by rw [h29] at h; cases h⟩ (by omega) rfl sb rfl
     ·refine go 2 ?_
      refine o_yes rfl rfl h58 (o_callV (r26Least _ _ _ q54 (by omega)) rfl rfl ?_)
      refine go 5 ?_
      refine cb rfl (fun h63 p63 => ?_) (fun h63 p63 => ?_)
      ·refine go 10 ?_
       refine sx_drop ?_
       exact q_next3 (i + 1) (_) (I54) ⟨by omega, hJ.trans j54, by rw [openTo_not hlt (due_full hvd hkd (by omega)) (by omega)]; exact hv13, fun h => by rw [h29] at h; cases h⟩ (by omega) rfl sb rfl
      ·have hdu := due_full hvd hkd (by omega : ¬ (pendD ds[i] l p day).length = 0)
       have hday : ¬ (leastN (pendD ds[i] l p day)).getD 0 < day := by omega
       refine go 3 ?_
       refine c_cutx (α := Nat) (Ix := (fun g17 => I54)) (Lx := (fun g17 => [(0, .slice D ds.length dc), (2, v), (3, .string p), (4, .int .i64 (day)), (11, .string ((findP (atF11 c l day).1 p).getD zPart).kind), (12, .bool (liveB c l p day)), (13, .slice NA (openTo' ds ((findP (atF11 c l day).1 p).getD zPart).kind l p day i).length nc), (14, .int .i64 ((i : Nat) : Int)), (15, .pointer (some ⟨g15, 0, none⟩)), (17, .pointer (some ⟨g17, 0, none⟩))])) (Hx := (fun g17 => [.blk g17 37 (⟨p, ds[i].name, (leastN (pendD ds[i] l p day)).getD 0⟩ : Due).cells, .blk g15 43 ds[i].cells])) (p := (fun g17 => True)) ?_ ?_
       ·refine d_startH T.mixed ?_
        refine d_tv 0 rfl rfl (by kernel_rfl) rfl (.refl _) rfl (v_move rfl) ?_
        refine d_tv 1 rfl rfl (by kernel_rfl) rfl (.refl _) rfl (v_fieldAddr he rfl) ?_
        refine d_tv 2 rfl rfl (by kernel_rfl) rfl (.refl _) rfl (v_ld m0 he rfl rfl) ?_
        refine d_tv 3 rfl rfl (by kernel_rfl) rfl (.refl _) rfl (v_move rfl) ?_
        refine d_two 4 6 (by kernel_rfl) rfl rfl ?_ ?_
        ·refine o_callV (r26Least _ _ _ q54 (by omega)) rfl rfl ?_
         refine d_on (fun _ m => m.keeps (.refl _)) ?_
         refine d_tv 5 rfl rfl (by kernel_rfl) rfl (.refl _) rfl (v_build (pl := [(0, 1), (1, 1), (2, 1)]) he he rfl rfl) ?_
         refine d_one 6 (by kernel_rfl) rfl ?_
         refine o_alloc he rfl (fun g17 => ?_)
         refine d_on (fun _ m => m.keeps (.cons _ (.refl _))) ?_
         refine d_one 7 (by kernel_rfl) rfl ?_
         refine o_stw _ he rfl rfl rfl rfl rfl rfl ?_
         refine d_on (fun _ m => m.keeps (.cons _ (.refl _))) ?_
         refine d_done (by kernel_rfl) ?_
         refine go 1 ?_
         exact q_cutx g17 trivial sb rfl rfl
        ·refine o_alloc he rfl (fun g17 => ?_)
         refine d_on (fun _ m => m.keeps (.cons _ (.refl _))) ?_
         refine d_one 4 (by kernel_rfl) rfl ?_
         refine o_callV (r26Least _ _ _ q54 (by omega)) rfl rfl ?_
         refine d_on (fun _ m => m.keeps (.cons _ (.refl _))) ?_
         refine d_tv 5 rfl rfl (by kernel_rfl) rfl (.cons _ (.refl _)) rfl (v_build (pl := [(0, 1), (1, 1), (2, 1)]) he he rfl rfl) ?_
         refine d_one 7 (by kernel_rfl) rfl ?_
         refine o_stw _ he rfl rfl rfl rfl rfl rfl ?_
         refine d_on (fun _ m => m.keeps (.cons _ (.refl _))) ?_
         refine d_done (by kernel_rfl) ?_
         refine go 1 ?_
         exact q_cutx g17 trivial sb rfl rfl
       ·intro g17 _
        refine go 6 ?_
        refine c_cutx (α := Nat) (Ix := (fun k => I54)) (Lx := (fun k => [(0, .slice D ds.length dc), (2, v), (3, .string p), (4, .int .i64 (day)), (11, .string ((findP (atF11 c l day).1 p).getD zPart).kind), (12, .bool (liveB c l p day)), (13, .slice NA (openTo' ds ((findP (atF11 c l day).1 p).getD zPart).kind l p day i).length nc), (14, .int .i64 ((i : Nat) : Int)), (15, .pointer (some ⟨g15, 0, none⟩)), (17, .pointer (some ⟨g17, 0, none⟩)), (18, .int .i64 ((k : Nat) : Int))])) (Hx := (fun k => [.blk g17 37 (⟨p, ds[i].name, (leastN (pendD ds[i] l p day)).getD 0⟩ : Due).cells, .blk g15 43 ds[i].cells])) (p := (fun k => k ≤ (openTo' ds ((findP (atF11 c l day).1 p).getD zPart).kind l p day i).length ∧ (∀ j (h : j < (openTo' ds ((findP (atF11 c l day).1 p).getD zPart).kind l p day i).length), j < k → dueLt (openTo' ds ((findP (atF11 c l day).1 p).getD zPart).kind l p day i)[j] (⟨p, ds[i].name, (leastN (pendD ds[i] l p day)).getD 0⟩ : Due) = true) ∧ ∀ h : k < (openTo' ds ((findP (atF11 c l day).1 p).getD zPart).kind l p day i).length, dueLt (openTo' ds ((findP (atF11 c l day).1 p).getD zPart).kind l p day i)[k] (⟨p, ds[i].name, (leastN (pendD ds[i] l p day)).getD 0⟩ : Due) = false)) ?_ ?_
        ·refine go 1 ?_
         refine c_loop (α := Nat) (0 : Nat) (fun k => I54)
          (fun k => [(0, .slice D ds.length dc), (2, v), (3, .string p), (4, .int .i64 (day)), (11, .string ((findP (atF11 c l day).1 p).getD zPart).kind), (12, .bool (liveB c l p day)), (13, .slice NA (openTo' ds ((findP (atF11 c l day).1 p).getD zPart).kind l p day i).length nc), (14, .int .i64 ((i : Nat) : Int)), (15, .pointer (some ⟨g15, 0, none⟩)), (17, .pointer (some ⟨g17, 0, none⟩)), (18, .int .i64 ((k : Nat) : Int))])
          (fun k => [.blk g17 37 (⟨p, ds[i].name, (leastN (pendD ds[i] l p day)).getD 0⟩ : Due).cells, .blk g15 43 ds[i].cells])
          (fun k => k ≤ (openTo' ds ((findP (atF11 c l day).1 p).getD zPart).kind l p day i).length ∧ ∀ j (h : j < (openTo' ds ((findP (atF11 c l day).1 p).getD zPart).kind l p day i).length), j < k → dueLt (openTo' ds ((findP (atF11 c l day).1 p).getD zPart).kind l p day i)[j] (⟨p, ds[i].name, (leastN (pendD ds[i] l p day)).getD 0⟩ : Due) = true)
          (fun k => (openTo' ds ((findP (atF11 c l day).1 p).getD zPart).kind l p day i).length - k) ⟨Nat.zero_le _, fun j h hj => absurd hj (Nat.not_lt_zero j)⟩ rfl sb rfl ?_
         intro k ⟨hk, hq⟩
         refine go 2 ?_
         refine d_startH T.mixed ?_
         refine d_tv 0 rfl rfl (by kernel_rfl) rfl (.refl _) rfl (v_move rfl) ?_
         refine d_tv 1 rfl rfl (by kernel_rfl) rfl (.refl _) rfl (v_move rfl) ?_
         refine d_tv 2 rfl rfl (by kernel_rfl) rfl (.refl _) rfl (v_len_slice he rfl) ?_
         refine d_tv 3 rfl rfl (by kernel_rfl) rfl (.refl _) rfl (v_lss rfl rfl) ?_
         refine d_tv 4 rfl rfl (by kernel_rfl) rfl (.refl _) rfl (v_move rfl) ?_
         refine sxb 74 rfl (fun h74 p74 => ?_) (fun h74 p74 => ?_)
         ·have hkl : k < (openTo' ds ((findP (atF11 c l day).1 p).getD zPart).kind l p day i).length := by omega
          refine d_t 5 rfl rfl (by kernel_rfl) rfl (fun _ m => m.keeps (.refl _)) (y_yes rfl rfl h74 (v_move rfl)) ?_
          refine d_t 6 rfl rfl (by kernel_rfl) rfl (fun _ m => m.keeps (.refl _)) (y_yes rfl rfl h74 (v_move rfl)) ?_
          obtain ⟨b77, o77, w77, e77, c77, r77⟩ := RdA.at_ hNA (i := k) hkl
          obtain rfl := r77
          refine d_t 7 rfl rfl (by kernel_rfl) rfl (fun _ m => m.keeps (.refl _)) (y_yes rfl rfl h74 (v_idx he rfl rfl e77 (k) (by omega) hkl)) ?_
          refine d_t 8 rfl rfl (by kernel_rfl) rfl (fun _ m => m.keeps (.refl _)) (y_yes rfl rfl h74 (v_ldIa he rfl c77 rfl)) ?_
          refine d_t 9 rfl rfl (by kernel_rfl) rfl (fun _ m => m.keeps (.refl _)) (y_yes rfl rfl h74 (v_ldw m0 he rfl rfl)) ?_
          refine d_one 10 (by kernel_rfl) rfl ?_
          refine o_yes rfl rfl h74 (o_callV (r26Before _ _ _) rfl rfl ?_)
          refine d_on (fun _ m => m.keeps (.refl _)) ?_
          refine d_tv 11 rfl rfl (by kernel_rfl) rfl (.refl _) rfl (v_and_t h74 rfl rfl) ?_
          refine d_done (by kernel_rfl) ?_
          refine go 1 ?_
          refine cb rfl (fun h81 p81 => ?_) (fun h81 p81 => ?_)
          ·refine go 10 ?_
           exact q_next (k + 1) ⟨by omega, fun j h hj => by
             rcases Nat.lt_or_ge j k with h2 | h2
             · exact hq j h h2
             · obtain rfl : j = k := by omega
               exact h81⟩ (by omega) rfl sb rfl
          ·refine go 5 ?_
           exact q_cutx k ⟨hk, hq, fun h => h81⟩ sb rfl rfl
         ·refine d_t 5 rfl rfl (by kernel_rfl) rfl (fun _ m => m.keeps (.refl _)) (y_no rfl rfl h74) ?_
          refine d_t 6 rfl rfl (by kernel_rfl) rfl (fun _ m => m.keeps (.refl _)) (y_no rfl rfl h74) ?_
          refine d_t 7 rfl rfl (by kernel_rfl) rfl (fun _ m => m.keeps (.refl _)) (y_no rfl rfl h74) ?_
          refine d_t 8 rfl rfl (by kernel_rfl) rfl (fun _ m => m.keeps (.refl _)) (y_no rfl rfl h74) ?_
          refine d_t 9 rfl rfl (by kernel_rfl) rfl (fun _ m => m.keeps (.refl _)) (y_no rfl rfl h74) ?_
          refine d_t 10 rfl rfl (by kernel_rfl) rfl (fun _ m => m.keeps (.refl _)) (y_no rfl rfl h74) ?_
          refine d_tv 11 rfl rfl (by kernel_rfl) rfl (.refl _) rfl (v_and_f h74 rfl) ?_
          refine d_done (by kernel_rfl) ?_
          refine go 1 ?_
          refine c_false rfl ?_
          refine go 5 ?_
          exact q_cutx k ⟨hk, hq, fun h => absurd h (by omega)⟩ sb rfl rfl
        ·intro k ⟨hk, hq, hq2⟩
         refine go 1 ?_
         refine d_startH T.mixed ?_
         refine d_tv 0 rfl rfl (by kernel_rfl) rfl (.refl _) rfl (v_move rfl) ?_
         refine d_tv 1 rfl rfl (by kernel_rfl) rfl (.refl _) rfl (v_move rfl) ?_
         refine d_tv 2 rfl rfl (by kernel_rfl) rfl (.refl _) rfl (v_len_slice he rfl) ?_
         refine d_tv 3 rfl rfl (by kernel_rfl) rfl (.refl _) rfl (v_eql rfl rfl) ?_
         refine d_tv 4 rfl rfl (by kernel_rfl) rfl (.refl _) rfl (v_move rfl) ?_
         refine sxb 88 rfl (fun h88 p88 => ?_) (fun h88 p88 => ?_)
         ·refine d_t 5 rfl rfl (by kernel_rfl) rfl (fun _ m => m.keeps (.refl _)) (y_no rfl rfl h88) ?_
          refine d_t 6 rfl rfl (by kernel_rfl) rfl (fun _ m => m.keeps (.refl _)) (y_no rfl rfl h88) ?_
          refine d_t 7 rfl rfl (by kernel_rfl) rfl (fun _ m => m.keeps (.refl _)) (y_no rfl rfl h88) ?_
          refine d_t 8 rfl rfl (by kernel_rfl) rfl (fun _ m => m.keeps (.refl _)) (y_no rfl rfl h88) ?_
          refine d_t 9 rfl rfl (by kernel_rfl) rfl (fun _ m => m.keeps (.refl _)) (y_no rfl rfl h88) ?_
          refine d_t 10 rfl rfl (by kernel_rfl) rfl (fun _ m => m.keeps (.refl _)) (y_no rfl rfl h88) ?_
          refine d_tv 11 rfl rfl (by kernel_rfl) rfl (.refl _) rfl (v_or_t h88 rfl) ?_
          refine d_done (by kernel_rfl) ?_
          refine go 1 ?_
          refine c_true rfl ?_
          refine go 1 ?_
          refine sx_knowI (fun hE15 hf15 => ?_)
          refine d_startH T.mixed ?_
          refine d_tv 0 rfl rfl (by kernel_rfl) rfl (.refl _) rfl (v_ldw m0 he rfl rfl) ?_
          refine d_tv 2 rfl rfl (by kernel_rfl) rfl (.refl _) rfl (v_move rfl) ?_
          refine d_tv 3 rfl rfl (by kernel_rfl) rfl (.refl _) rfl (v_move rfl) ?_
          refine d_tv 4 rfl rfl (by kernel_rfl) rfl (.refl _) rfl (v_slice_lo he rfl rfl k rfl (by omega)) ?_
          refine d_one 1 (by kernel_rfl) rfl ?_
          refine o_buildSlice he he rfl rfl rfl rfl rfl rfl rfl (fun v97 => ?_)
          refine d_on (fun _ m => m.keeps (.cons _ (.refl _))) ?_
          refine d_one 5 (by kernel_rfl) rfl ?_
          refine o_appendR ((hv13.drop k (by omega))) rfl he he rfl rfl rfl rfl (by simp; omega) (by simp; omega) rfl (fun v101 x101 f101 => ?_)
          refine sx_pubrow (l := (⟨p, ds[i].name, (leastN (pendD ds[i] l p day)).getD 0⟩ : Due) :: (openTo' ds ((findP (atF11 c l day).1 p).getD zPart).kind l p day i).drop k) rfl (by simp; omega) (.cons rfl f101) (fun I101 j101 R101 => ?_)
          have hv13 := hv13.le j101
          have hNA := hNA.le j101
          refine d_on (fun _ m => m.keepsI (.refl _) (j101) hE15 hf15) ?_
          refine d_t 6 rfl rfl (by kernel_rfl) rfl (fun _ m => m.keepsI (.refl _) (j101) hE15 hf15) (y_v rfl (v_assign rfl)) ?_
          refine d_done (by kernel_rfl) ?_
          refine go 3 ?_
          refine o_buildSlice he he rfl rfl rfl rfl rfl rfl rfl (fun v102 => ?_)
          refine go 2 ?_
          refine o_v rfl (v_slice_hi he rfl rfl k rfl (by omega)) ?_
          refine go 1 ?_
          refine o_appendR ((hv13.take k (by omega))) rfl he he rfl rfl rfl rfl (by simp; omega) (by simp; omega) rfl (fun v106 x106 f106 => ?_)
          refine go 2 ?_
          refine o_appendR (R101) rfl he he rfl rfl rfl rfl (by simp; omega) (by simp; omega) rfl (fun v108 x108 f108 => ?_)
          refine sx_pubrow (l := (openTo' ds ((findP (atF11 c l day).1 p).getD zPart).kind l p day i).take k ++ (⟨p, ds[i].name, (leastN (pendD ds[i] l p day)).getD 0⟩ : Due) :: (openTo' ds ((findP (atF11 c l day).1 p).getD zPart).kind l p day i).drop k) rfl (by simp <;> omega) (((Flat.nil.append f106).append f108)) (fun I108 j108 R108 => ?_)
          refine go 10 ?_
          refine sx_drop ?_
          refine sx_drop ?_
          exact q_next3 (i + 1) (_) (I108) ⟨by omega, hJ.trans (j54.trans (j101.trans j108)), by rw [openTo_add hlt hdu hday, insU_new hk hq (fun h => absurd h (by omega))]; exact R108, fun h => by rw [h29] at h; cases h⟩ (by omega) rfl sb rfl
         ·have hkl : k < (openTo' ds ((findP (atF11 c l day).1 p).getD zPart).kind l p day i).length := by omega
          refine d_t 5 rfl rfl (by kernel_rfl) rfl (fun _ m => m.keeps (.refl _)) (y_yes rfl rfl h88 (v_move rfl)) ?_
          refine d_t 6 rfl rfl (by kernel_rfl) rfl (fun _ m => m.keeps (.refl _)) (y_yes rfl rfl h88 (v_move rfl)) ?_
          obtain ⟨b91, o91, w91, e91, c91, r91⟩ := RdA.at_ hNA (i := k) hkl
          obtain rfl := r91
          refine d_t 7 rfl rfl (by kernel_rfl) rfl (fun _ m => m.keeps (.refl _)) (y_yes rfl rfl h88 (v_idx he rfl rfl e91 (k) (by omega) hkl)) ?_
          refine d_t 8 rfl rfl (by kernel_rfl) rfl (fun _ m => m.keeps (.refl _)) (y_yes rfl rfl h88 (v_ldIa he rfl c91 rfl)) ?_
          refine d_t 9 rfl rfl (by kernel_rfl) rfl (fun _ m => m.keeps (.refl _)) (y_yes rfl rfl h88 (v_ldw m0 he rfl rfl)) ?_
          refine d_t 10 rfl rfl (by kernel_rfl) rfl (fun _ m => m.keeps (.refl _)) (y_yes rfl rfl h88 (v_stneq T.eqg_37 (eqS_Due (openTo' ds ((findP (atF11 c l day).1 p).getD zPart).kind l p day i)[k] (⟨p, ds[i].name, (leastN (pendD ds[i] l p day)).getD 0⟩ : Due)) rfl rfl)) ?_
          refine d_tv 11 rfl rfl (by kernel_rfl) rfl (.refl _) rfl (v_or_f h88 rfl rfl) ?_
          refine d_done (by kernel_rfl) ?_
          refine go 1 ?_
          refine cb rfl (fun h95 p95 => ?_) (fun h95 p95 => ?_)
          ·refine go 1 ?_
           refine sx_knowI (fun hE15 hf15 => ?_)
           refine d_startH T.mixed ?_
           refine d_tv 0 rfl rfl (by kernel_rfl) rfl (.refl _) rfl (v_ldw m0 he rfl rfl) ?_
           refine d_tv 2 rfl rfl (by kernel_rfl) rfl (.refl _) rfl (v_move rfl) ?_
           refine d_tv 3 rfl rfl (by kernel_rfl) rfl (.refl _) rfl (v_move rfl) ?_
           refine d_tv 4 rfl rfl (by kernel_rfl) rfl (.refl _) rfl (v_slice_lo he rfl rfl k rfl (by omega)) ?_
           refine d_one 1 (by kernel_rfl) rfl ?_
           refine o_buildSlice he he rfl rfl rfl rfl rfl rfl rfl (fun v97 => ?_)
           refine d_on (fun _ m => m.keeps (.cons _ (.refl _))) ?_
           refine d_one 5 (by kernel_rfl) rfl ?_
           refine o_appendR ((hv13.drop k (by omega))) rfl he he rfl rfl rfl rfl (by simp; omega) (by simp; omega) rfl (fun v101 x101 f101 => ?_)
           refine sx_pubrow (l := (⟨p, ds[i].name, (leastN (pendD ds[i] l p day)).getD 0⟩ : Due) :: (openTo' ds ((findP (atF11 c l day).1 p).getD zPart).kind l p day i).drop k) rfl (by simp; omega) (.cons rfl f101) (fun I101 j101 R101 => ?_)
           have hv13 := hv13.le j101
           have hNA := hNA.le j101
           refine d_on (fun _ m => m.keepsI (.refl _) (j101) hE15 hf15) ?_
           refine d_t 6 rfl rfl (by kernel_rfl) rfl (fun _ m => m.keepsI (.refl _) (j101) hE15 hf15) (y_v rfl (v_assign rfl)) ?_
           refine d_done (by kernel_rfl) ?_
           refine go 3 ?_
           refine o_buildSlice he he rfl rfl rfl rfl rfl rfl rfl (fun v102 => ?_)
           refine go 2 ?_
           refine o_v rfl (v_slice_hi he rfl rfl k rfl (by omega)) ?_
           refine go 1 ?_
           refine o_appendR ((hv13.take k (by omega))) rfl he he rfl rfl rfl rfl (by simp; omega) (by simp; omega) rfl (fun v106 x106 f106 => ?_)
           refine go 2 ?_
           refine o_appendR (R101) rfl he he rfl rfl rfl rfl (by simp; omega) (by simp; omega) rfl (fun v108 x108 f108 => ?_)
           refine sx_pubrow (l := (openTo' ds ((findP (atF11 c l day).1 p).getD zPart).kind l p day i).take k ++ (⟨p, ds[i].name, (leastN (pendD ds[i] l p day)).getD 0⟩ : Due) :: (openTo' ds ((findP (atF11 c l day).1 p).getD zPart).kind l p day i).drop k) rfl (by simp <;> omega) (((Flat.nil.append f106).append f108)) (fun I108 j108 R108 => ?_)
           refine go 10 ?_
           refine sx_drop ?_
           refine sx_drop ?_
           exact q_next3 (i + 1) (_) (I108) ⟨by omega, hJ.trans (j54.trans (j101.trans j108)), by rw [openTo_add hlt hdu hday, insU_new hk hq (fun h => ⟨hq2 h, by simpa using p95⟩)]; exact R108, fun h => by rw [h29] at h; cases h⟩ (by omega) rfl sb rfl
          ·refine go 9 ?_
           refine sx_drop ?_
           refine sx_drop ?_
           exact q_next3 (i + 1) (_) (I54) ⟨by omega, hJ.trans j54, by rw [openTo_add hlt hdu hday, insU_old (by omega) hq (hq2 (by omega)) (by simpa using p95)]; exact hv13, fun h => by rw [h29] at h; cases h⟩ (by omega) rfl sb rfl
  ·refine go 12 ?_
   refine fin1 rfl rfl ?_
   have e2 : i = ds.length := (by omega)
   subst e2
   exact q_i (by rw [← open_all (by simpa using h29)]; exact hv13)
 ·refine go 7 ?_
  refine c_false rfl ?_
  refine go 12 ?_
  refine fin1 rfl rfl ?_
  obtain rfl : i = 0 := hl0 (by simpa using h29)
  exact q_i (by rw [open_nil (dead_pend (by simpa using h29))]; exact hv13)

end Go.Proofs.YtdkjmaoelojpeaaGreat

/- What the laws of duties call beside: sizes, examples. -/
set_option linter.all false
namespace Go.Sx
open Go
def sizeD (d : Dut) : Bool := !decide ((300 : Int) < IntKind.i64.wrap (IntKind.i64.wrap (((d.name.size : Nat) : Int) + (d.kind.size : Nat)) + (d.key.size : Nat)))
def fewD (l : List Dut) : Bool := decide (l.length ≤ 20) && allP (fun _ d => sizeD d) l l.length
theorem fewD_len {l : List Dut} (h : fewD l = true) : l.length ≤ 20 := by
  simp only [fewD, Bool.and_eq_true, decide_eq_true_eq] at h
  exact h.1
theorem mem_tk {α : Type} {l : List α} {i : Nat} {z : α} (h : i < l.length) (hz : z ∈ l.take (i + 1)) : z ∈ l.take i ∨ z = l[i] := by
  rw [← take_succ_of h, List.mem_append, List.mem_singleton] at hz; exact hz
def few26 (ds : List Dut) (c : List Kind) (l : List Evt) (p : ByteArray) : Bool := ((fewD ds && fewC c) && fewE l 40) && decide (((p.size : Nat) : Int) ≤ 100)
def nD : ByteArray := ⟨#[100]⟩
def nChk : ByteArray := ⟨#[99, 104, 101, 99, 107, 101, 100]⟩
def nYes : ByteArray := ⟨#[121, 101, 115]⟩
def duC : List Kind := [⟨nCoach, true, []⟩]
def duE0 : List Evt := [⟨1, 0, nV1, nCoach, nil8, nil8, nil8, nil8, zUse⟩, ⟨5, 5, nV1, nil8, nil8, nil8, nil8, nil8, zUse⟩]
def duN (n : Int) : Evt := ⟨6, n, nV1, nil8, nil8, nil8, nChk, nYes, zUse⟩
def duE (n : Int) : List Evt := if n ≥ 0 then duE0 ++ [duN n] else duE0
def du1 : Dut := ⟨nD, nCoach, nChk, 5, 3⟩
theorem duX1 : openD [du1] duC (duE (-1)) nV1 8 = [⟨nV1, nD, 8⟩] := by decide +kernel
theorem duX2 : lateN [du1] duC (duE (-1)) nV1 9 = [nD] := by decide +kernel
theorem duX3 : lateN [du1] duC (duE 9) nV1 9 = [nD] := by decide +kernel
theorem duX4 : openD [du1] duC (duE (-1)) nV1 9 = [] := by decide +kernel
theorem duX5 : lateN [du1] duC (duE 7) nV1 9 = [] := by decide +kernel
theorem duX6 : openD [du1] duC (duE 7) nV1 9 = [] := by decide +kernel
theorem du1_sm : ∀ d ∈ [du1], SmD d := fun d hd => by
  rw [List.mem_singleton.1 hd]
  unfold SmD maxLen
  exact ⟨by decide +kernel, by decide +kernel, by decide +kernel⟩
theorem duC_sm : SmC duC := fewC_sm (by decide +kernel)
theorem duE_len (n : Int) : (duE n).length ≤ 1000000 := by unfold duE; split <;> simp [duE0]
theorem duE_sm (n : Int) : ∀ e ∈ duE n, SmE e := fun e he => by
  have h0 : ∀ e ∈ duE0, SmE e := (fewE_sm (l := duE0) (n := 10) (by decide +kernel)).1
  have h1 : SmE (duN 0) := (fewE_sm (l := [duN 0]) (n := 10) (by decide +kernel)).1 _ (by simp)
  unfold duE at he
  split at he
  · rcases List.mem_append.1 he with h | h
    · exact h0 e h
    · rw [List.mem_singleton.1 h]; exact h1
  · exact h0 e he
end Go.Sx

/- Methods called through an interface value; machine words; quotients. -/
set_option linter.all false
namespace Go.Sx
open Go
section
variable {P : Program} {n : Sz} {E : Ent} {I : IMap} {L : LL} {H : List Res} {Q : Exit → Act → World → Prop} {ops : Array Oper} {K : Act → World → Prop}
variable {d ty tx tyy : Nat} {pos : String} {af : Array Edge} {x y : Operand}
theorem v_remI {i j : Int} (hx : ev L x = some (.int .i64 i)) (hy : ev L y = some (.int .i64 j)) (hj : j ≠ 0) : OV P n E I L H ⟨some d, .binOp .rem tx x y tyy, ty, pos, af, none⟩ (.int .i64 (i.tmod j)) :=
  (fun a w s _ => by
    simp only [execOp, s.ev hx, s.ev hy, eqGuard_at_int, binOp_rem, Op.intDiv, Sem.run_bind, if_neg hj]
    simp)
/-! words -/
theorem v_addw {i j : Int} (hx : ev L x = some (.int .i64 i)) (hy : ev L y = some (.int .i64 j)) : OV P n E I L H ⟨some d, .binOp .add tx x y tyy, ty, pos, af, none⟩ (.int .i64 (IntKind.i64.wrap (i + j))) :=
  (fun a w s _ => by simp [execOp, s.ev hx, s.ev hy, eqGuard_at_int, binOp_add, Op.intArith])
end
end Go.Sx

/- Walks, printed by a program out of the code of the functions: each theorem is a contract of one function. -/
namespace Go.Proofs.YtdkjmaoelojpeaaGreat
open Go Go.Sx
set_option linter.all false
set_option maxRecDepth 20000
set_option maxHeartbeats 4000000
instance T.pl_43 : Has (plK Tryz.prog 43) [(0, 1), (1, 1), (2, 1), (3, 1), (4, 1)] := ⟨by kernel_rfl⟩
theorem ref09Strings (I : IMap) (v : Value) (l : List ByteArray) (hv : RdS I v l) (v2 : Value) (m : List ByteArray) (hv2 : RdS I v2 m) :
    FnV Tryz.prog 12 #[v, v2] I (.bool (decide (l = m))) := by
 obtain ⟨A, c0, rfl, hA, hc, hm⟩ := hv
 obtain ⟨B, c1, rfl, hB, hc1, hm1⟩ := hv2
 refine enter Tryz.func12 Tryz.call12 rfl Tryz.ntmps12 rfl (fun w0 => ?_)
 refine go 15 ?_
 refine cb rfl (fun h10 p10 => ?_) (fun h10 p10 => ?_)
 ·refine go 7 ?_
  refine fin1 rfl rfl ?_
  exact q_v (congrArg Value.bool (decide_eq_false (by rintro rfl; revert h10; simp)).symm)
 ·have hlm : l.length = m.length := by revert h10; simp; omega
  refine go 9 ?_
  refine c_loop (α := Nat) 0 (fun i => I)
   (fun i => [(0, .slice A l.length c0), (1, .slice B m.length c1), (5, .int .i64 ((i : Nat) : Int))])
   (fun i => [])
   (fun i => i ≤ l.length ∧ l.take i = m.take i)
   (fun i => l.length - i) ⟨Nat.zero_le _, rfl⟩ rfl sb rfl ?_
  intro i ⟨hi, hn⟩
  refine go 9 ?_
  refine cb rfl (fun h14 p14 => ?_) (fun h14 p14 => ?_)
  ·have hlt : i < l.length := by omega
   refine go 5 ?_
   refine d_startH T.mixed ?_
   refine d_tv 0 rfl rfl (by kernel_rfl) rfl .slnil rfl (v_move rfl) ?_
   refine d_tv 1 rfl rfl (by kernel_rfl) rfl .slnil rfl (v_move rfl) ?_
   obtain ⟨b19, o19, w19, e19, c19, r19⟩ := RdA.at_ hA (i := i) hlt
   obtain rfl := r19
   refine d_tv 2 rfl rfl (by kernel_rfl) rfl .slnil rfl (v_idx he rfl rfl e19 (i) (by omega) hlt) ?_
   refine d_tv 3 rfl rfl (by kernel_rfl) rfl .slnil rfl (v_ldI he rfl (c19 0 _ rfl)) ?_
   refine d_tv 4 rfl rfl (by kernel_rfl) rfl .slnil rfl (v_move rfl) ?_
   refine d_tv 5 rfl rfl (by kernel_rfl) rfl .slnil rfl (v_move rfl) ?_
   obtain ⟨b23, o23, w23, e23, c23, r23⟩ := RdA.at_ hB (i := i) (by omega)
   obtain rfl := r23
   refine d_tv 6 rfl rfl (by kernel_rfl) rfl .slnil rfl (v_idx he rfl rfl e23 (i) (by omega) (by omega)) ?_
   refine d_tv 7 rfl rfl (by kernel_rfl) rfl .slnil rfl (v_ldI he rfl (c23 0 _ rfl)) ?_
   refine d_tv 8 rfl rfl (by kernel_rfl) rfl .slnil rfl (v_sneq rfl rfl) ?_
   refine d_done (by kernel_rfl) ?_
   refine go 1 ?_
   refine cb rfl (fun h25 p25 => ?_) (fun h25 p25 => ?_)
   ·refine go 11 ?_
    refine fin1 rfl rfl ?_
    exact q_v (congrArg Value.bool (same_no hlt (by omega) (by simpa using p25)).symm)
   ·refine go 9 ?_
    exact q_next (i + 1) ⟨by omega, same_next hlt (by omega) hn (by simpa using p25)⟩ (by omega) rfl sb rfl
  ·refine go 11 ?_
   refine fin1 rfl rfl ?_
   exact q_v (congrArg Value.bool (decide_eq_true (same_end hlm (by omega) hn)).symm)

theorem law26in (I : IMap) (v : Value) (l : List ByteArray) (hv : RdS I v l) (s : ByteArray) :
    FnV Tryz.prog 18 #[v, .string s] I (.bool (decide (s ∈ l))) := by
 have hv0 := hv
 obtain ⟨A, c0, rfl, hA, hc, hm⟩ := hv
 refine enter Tryz.func18 Tryz.call18 rfl Tryz.ntmps18 rfl (fun w0 => ?_)
 refine go 12 ?_
 refine c_loop (α := Nat) 0 (fun i => I)
  (fun i => [(0, .slice A l.length c0), (1, .string s), (5, .int .i64 ((i : Nat) : Int))])
  (fun i => [])
  (fun i => i ≤ l.length ∧ s ∉ l.take i)
  (fun i => l.length - i) ⟨Nat.zero_le _, by simp⟩ rfl sb rfl ?_
 intro i ⟨hi, hn⟩
 refine go 9 ?_
 refine cb rfl (fun h9 p9 => ?_) (fun h9 p9 => ?_)
 ·have hlt : i < l.length := by omega
  refine go 8 ?_
  obtain ⟨b14, o14, w14, e14, c14, r14⟩ := RdA.at_ hA (i := i) (by omega)
  obtain rfl := r14
  refine o_v rfl (v_idx he rfl rfl e14 (i) (by omega) (by omega)) ?_
  refine o_v rfl (v_ldI he rfl (c14 0 _ rfl)) ?_
  refine go 4 ?_
  refine cb rfl (fun h17 p17 => ?_) (fun h17 p17 => ?_)
  ·refine go 11 ?_
   refine fin1 rfl rfl ?_
   exact q_v (congrArg Value.bool (decide_eq_true (by rw [← p17]; exact List.getElem_mem hlt)).symm)
  ·refine go 9 ?_
   exact q_next (i + 1) ⟨by omega, fun h => (mem_tk hlt h).elim hn fun h => p17 h.symm⟩ (by omega) rfl sb rfl
 ·refine go 11 ?_
  refine fin1 rfl rfl ?_
  exact q_v (congrArg Value.bool (decide_eq_false (by rwa [List.take_of_length_le (by omega)] at hn)).symm)

theorem law26has (I : IMap) (v : Value) (l : List Due) (hv : RdS I v l) (s : Due) :
    FnV Tryz.prog 19 #[v, .agg s.cells.toArray] I (.bool (decide (s ∈ l))) := by
 have hv0 := hv
 obtain ⟨A, c0, rfl, hA, hc, hm⟩ := hv
 refine enter Tryz.func19 Tryz.call19 rfl Tryz.ntmps19 rfl (fun w0 => ?_)
 refine go 3 ?_
 refine o_box _ rfl rfl rfl (fun g3 => ?_)
 refine go 10 ?_
 refine c_loop (α := Nat) 0 (fun i => I)
  (fun i => [(0, .slice A l.length c0), (3, .pointer (some ⟨g3, 0, none⟩)), (5, .int .i64 ((i : Nat) : Int))])
  (fun i => [.blk g3 37 s.cells])
  (fun i => i ≤ l.length ∧ s ∉ l.take i)
  (fun i => l.length - i) ⟨Nat.zero_le _, by simp⟩ rfl sb rfl ?_
 intro i ⟨hi, hn⟩
 refine go 9 ?_
 refine cb rfl (fun h9 p9 => ?_) (fun h9 p9 => ?_)
 ·have hlt : i < l.length := by omega
  refine go 5 ?_
  refine d_startH T.mixed ?_
  refine d_tv 0 rfl rfl (by kernel_rfl) rfl (.refl _) rfl (v_move rfl) ?_
  refine d_tv 1 rfl rfl (by kernel_rfl) rfl (.refl _) rfl (v_move rfl) ?_
  obtain ⟨b14, o14, w14, e14, c14, r14⟩ := RdA.at_ hA (i := i) hlt
  obtain rfl := r14
  refine d_tv 2 rfl rfl (by kernel_rfl) rfl (.refl _) rfl (v_idx he rfl rfl e14 (i) (by omega) hlt) ?_
  refine d_tv 3 rfl rfl (by kernel_rfl) rfl (.refl _) rfl (v_ldIa he rfl c14 rfl) ?_
  refine d_tv 4 rfl rfl (by kernel_rfl) rfl (.refl _) rfl (v_ldw m0 he rfl rfl) ?_
  refine d_tv 5 rfl rfl (by kernel_rfl) rfl (.refl _) rfl (v_steql T.eqg_37 (eqS_Due l[i] s) rfl rfl) ?_
  refine d_done (by kernel_rfl) ?_
  refine go 1 ?_
  refine cb rfl (fun h17 p17 => ?_) (fun h17 p17 => ?_)
  ·refine go 11 ?_
   refine fin1 rfl rfl ?_
   exact q_v (congrArg Value.bool (decide_eq_true (by rw [← p17]; exact List.getElem_mem hlt)).symm)
  ·refine go 9 ?_
   exact q_next (i + 1) ⟨by omega, fun h => (mem_tk hlt h).elim hn fun h => p17 h.symm⟩ (by omega) rfl sb rfl
 ·refine go 11 ?_
  refine fin1 rfl rfl ?_
  exact q_v (congrArg Value.bool (decide_eq_false (by rwa [List.take_of_length_le (by omega)] at hn)).symm)

theorem law26lives (I : IMap) (vc : Value) (c : List Kind) (hvc : RdS I vc c) (hsc : SmC c) (v : Value) (l : List Evt) (hv : RdS I v l) (hl : l.length ≤ 1000000) (hse : ∀ e ∈ l, SmE e) (p : ByteArray) (day : Int) :
    FnV Tryz.prog 20 #[.agg #[vc], v, .string p, .int .i64 (day)] I (.bool (liveB c l p day)) := by
 refine enter Tryz.func20 Tryz.call20 rfl Tryz.ntmps20 rfl (fun w0 => ?_)
 refine go 3 ?_
 refine o_box _ rfl rfl rfl (fun g4 => ?_)
 refine go 9 ?_
 refine o_call (cAt _ vc c hvc hsc v l hv hl hse day) rfl rfl (fun v18 I18 j18 q18 => ?_)
 obtain ⟨wb, rfl, hwb⟩ := q18
 refine go 5 ?_
 refine o_alloc he rfl (fun g9 => ?_)
 refine go 1 ?_
 refine o_stw _ he rfl rfl rfl rfl rfl (by simp [RdS.one hwb]) ?_
 refine go 9 ?_
 refine o_callE (flFind _ _ _ hwb p) rfl rfl (fun v25 q25 => ?_)
 obtain ⟨vs25, rfl, s25, rfl, hs25⟩ := q25
 refine go 4 ?_
 refine o_alloc he rfl (fun g12 => ?_)
 refine go 1 ?_
 refine o_stw _ he rfl rfl rfl rfl rfl (Enc.one (α := Part) (x := ((findP (atF11 c l day).1 p).getD zPart)) ⟨s25, rfl, hs25⟩) ?_
 refine go 8 ?_
 refine sxb 30 rfl (fun h30 p30 => ?_) (fun h30 p30 => ?_)
 ·refine go 3 ?_
  refine sxb 33 rfl (fun h33 p33 => ?_) (fun h33 p33 => ?_)
  ·refine go 8 ?_
   refine fin1 rfl rfl ?_
   exact q_vI (congrArg Value.bool (by simp only [liveB, h30, h33, bS]))
  ·refine go 8 ?_
   refine fin1 rfl rfl ?_
   exact q_vI (congrArg Value.bool (by simp only [liveB, h30, h33, bS]))
 ·refine go 11 ?_
  refine fin1 rfl rfl ?_
  exact q_vI (congrArg Value.bool (by simp only [liveB, h30, bS]))

theorem r26Few (I : IMap) (v : Value) (l : List Dut) (hv : RdS I v l) :
    FnV Tryz.prog 23 #[v] I (.bool (fewD l)) := by
 have hv0 := hv
 obtain ⟨A, c0, rfl, hA, hc, hm⟩ := hv
 refine enter Tryz.func23 Tryz.call23 rfl Tryz.ntmps23 rfl (fun w0 => ?_)
 refine go 12 ?_
 refine c_loop (α := Nat) 0 (fun i => I)
  (fun i => [(0, .slice A l.length c0), (3, .int .i64 ((i : Nat) : Int))])
  (fun i => [])
  (fun i => i ≤ l.length ∧ allP (fun _ d => sizeD d) l i = true)
  (fun i => l.length - i) ⟨Nat.zero_le _, rfl⟩ rfl sb rfl ?_
 intro i ⟨hi, hn⟩
 refine go 8 ?_
 refine sxb 8 rfl (fun h8 p8 => ?_) (fun h8 p8 => ?_)
 ·refine go 6 ?_
  refine cb rfl (fun h12 p12 => ?_) (fun h12 p12 => ?_)
  ·have hlt : i < l.length := by omega
   refine go 5 ?_
   refine c_cut (I' := I) (L' := [(0, .slice A l.length c0), (3, .int .i64 ((i : Nat) : Int)), (35, .bool (!sizeD l[i]))]) (H' := []) ?_ ?_
   ·refine d_startH T.mixed ?_
    refine d_tv 0 rfl rfl (by kernel_rfl) rfl .slnil rfl (v_move rfl) ?_
    refine d_tv 1 rfl rfl (by kernel_rfl) rfl .slnil rfl (v_move rfl) ?_
    obtain ⟨b17, o17, w17, e17, c17, r17⟩ := RdA.at_ hA (i := i) hlt
    obtain rfl := r17
    refine d_tv 2 rfl rfl (by kernel_rfl) rfl .slnil rfl (v_idx he rfl rfl e17 (i) (by omega) hlt) ?_
    refine d_tv 3 rfl rfl (by kernel_rfl) rfl .slnil rfl (v_fieldAddr he rfl) ?_
    refine d_tv 4 rfl rfl (by kernel_rfl) rfl .slnil rfl (v_ldI he rfl (c17 0 _ rfl)) ?_
    refine d_tv 5 rfl rfl (by kernel_rfl) rfl .slnil rfl (v_len_str he rfl) ?_
    refine d_tv 6 rfl rfl (by kernel_rfl) rfl .slnil rfl (v_move rfl) ?_
    refine d_tv 7 rfl rfl (by kernel_rfl) rfl .slnil rfl (v_move rfl) ?_
    obtain ⟨b23, o23, w23, e23, c23, r23⟩ := RdA.at_ hA (i := i) hlt
    obtain rfl := r23
    refine d_tv 8 rfl rfl (by kernel_rfl) rfl .slnil rfl (v_idx he rfl rfl e23 (i) (by omega) hlt) ?_
    refine d_tv 9 rfl rfl (by kernel_rfl) rfl .slnil rfl (v_fieldAddr he rfl) ?_
    refine d_tv 10 rfl rfl (by kernel_rfl) rfl .slnil rfl (v_ldI he rfl (c23 1 _ rfl)) ?_
    refine d_tv 11 rfl rfl (by kernel_rfl) rfl .slnil rfl (v_len_str he rfl) ?_
    refine d_tv 12 rfl rfl (by kernel_rfl) rfl .slnil rfl (v_addw rfl rfl) ?_
    refine d_tv 13 rfl rfl (by kernel_rfl) rfl .slnil rfl (v_move rfl) ?_
    refine d_tv 14 rfl rfl (by kernel_rfl) rfl .slnil rfl (v_move rfl) ?_
    obtain ⟨b30, o30, w30, e30, c30, r30⟩ := RdA.at_ hA (i := i) hlt
    obtain rfl := r30
    refine d_tv 15 rfl rfl (by kernel_rfl) rfl .slnil rfl (v_idx he rfl rfl e30 (i) (by omega) hlt) ?_
    refine d_tv 16 rfl rfl (by kernel_rfl) rfl .slnil rfl (v_fieldAddr he rfl) ?_
    refine d_tv 17 rfl rfl (by kernel_rfl) rfl .slnil rfl (v_ldI he rfl (c30 2 _ rfl)) ?_
    refine d_tv 18 rfl rfl (by kernel_rfl) rfl .slnil rfl (v_len_str he rfl) ?_
    refine d_tv 19 rfl rfl (by kernel_rfl) rfl .slnil rfl (v_addw rfl rfl) ?_
    refine d_tv 20 rfl rfl (by kernel_rfl) rfl .slnil rfl (v_gtr rfl rfl) ?_
    refine d_done (by kernel_rfl) ?_
    refine go 1 ?_
    exact q_cut ⟨rfl, rfl, (congrArg (fun b => some (Value.bool b)) (by simp only [sizeD, Bool.not_not, h8, h12, bS])), trivial⟩ rfl rfl
   ·refine cb rfl (fun h35 p35 => ?_) (fun h35 p35 => ?_)
    ·refine go 11 ?_
     refine fin1 rfl rfl ?_
     exact q_v (congrArg Value.bool (by simp only [fewD, allP_not (f := fun _ d => sizeD d) hlt (by simpa using h35)]; simp))
    ·refine go 9 ?_
     exact q_next (i + 1) ⟨by omega, allP_succ (f := fun _ d => sizeD d) hn hlt (by simpa using h35)⟩ (by omega) rfl sb rfl
  ·refine go 14 ?_
   refine fin1 rfl rfl ?_
   exact q_v (congrArg Value.bool (by unfold fewD; rw [show decide (l.length ≤ 20) = false by simp; omega]; simp; omega))
 ·refine go 6 ?_
  refine c_false rfl ?_
  refine go 14 ?_
  refine fin1 rfl rfl ?_
  have e2 : i = l.length := (by omega)
  subst e2
  exact q_v (congrArg Value.bool (by unfold fewD; rw [hn, Bool.and_true]; congr 1; simp; omega))

theorem law26few (I : IMap) (vd : Value) (ds : List Dut) (hds : RdS I vd ds) (vc : Value) (c : List Kind) (hvc : RdS I vc c) (v : Value) (l : List Evt) (hv : RdS I v l) (p : ByteArray) :
    FnV Tryz.prog 11 #[vd, .agg #[vc], v, .string p] I (.bool (few26 ds c l p)) := by
 refine enter Tryz.func11 Tryz.call11 rfl Tryz.ntmps11 rfl (fun w0 => ?_)
 refine go 3 ?_
 refine o_box _ rfl rfl rfl (fun g5 => ?_)
 refine go 7 ?_
 refine o_callV (r26Few _ vd ds hds) rfl rfl ?_
 refine go 1 ?_
 refine sxb 11 rfl (fun h11 p11 => ?_) (fun h11 p11 => ?_)
 ·refine go 2 ?_
  refine o_yes rfl rfl h11 (o_callV (refFew _ vc c hvc) rfl rfl ?_)
  refine go 2 ?_
  refine sxb 15 rfl (fun h15 p15 => ?_) (fun h15 p15 => ?_)
  ·refine go 2 ?_
   refine o_yes rfl rfl h15 (o_callV (refFewE _ v l hv 40) rfl rfl ?_)
   refine go 2 ?_
   refine sxb 19 rfl (fun h19 p19 => ?_) (fun h19 p19 => ?_)
   ·refine go 8 ?_
    refine fin1 rfl rfl ?_
    exact q_v (congrArg Value.bool (by simp only [few26, h11, h15, h19, bS]))
   ·refine go 8 ?_
    refine fin1 rfl rfl ?_
    exact q_v (congrArg Value.bool (by simp only [few26, h11, h15, h19, bS]))
  ·refine go 12 ?_
   refine fin1 rfl rfl ?_
   exact q_v (congrArg Value.bool (by simp only [few26, h11, h15, bS]))
 ·refine go 16 ?_
  refine fin1 rfl rfl ?_
  exact q_v (congrArg Value.bool (by simp only [few26, h11, bS]))

theorem smp26 (I : IMap) (n : Int) :
    FnI Tryz.prog 22 #[.int .i64 (n)] I (fun u J => ∃ vc w, u = .tuple #[.agg #[vc], w] ∧ RdS J vc duC ∧ RdS J w (duE n)) := by
 refine enter Tryz.func22 Tryz.call22 rfl Tryz.ntmps22 rfl (fun w0 => ?_)
 refine go 3 ?_
 refine o_alloc he rfl (fun g2 => ?_)
 refine go 6 ?_
 refine o_val rfl (v_build (pl := [(0, 1), (1, 1), (2, 1)]) he he rfl rfl) ?_
 refine go 1 ?_
 refine o_buildSlice he he rfl rfl rfl rfl rfl rfl rfl (fun v7 => ?_)
 refine sx_pubrow (l := duC) rfl rfl ((.one ⟨_, rfl, RdS.nil'⟩)) (fun I7 j7 R7 => ?_)
 have R7s := R7
 obtain ⟨A7, c7, rfl, _⟩ := R7s
 refine go 1 ?_
 refine o_val rfl (v_build (pl := [(0, 1)]) he he rfl rfl) ?_
 refine go 1 ?_
 refine o_alloc he rfl (fun g4 => ?_)
 refine go 1 ?_
 refine o_stw _ he rfl rfl rfl rfl rfl rfl ?_
 refine go 5 ?_
 refine o_val rfl (v_build (pl := [(0, 1), (1, 1), (2, 1), (3, 1), (4, 1), (5, 1), (6, 1), (7, 1), (8, 6)]) he he rfl rfl) ?_
 refine go 1 ?_
 refine o_val rfl (v_build (pl := [(0, 1), (1, 1), (2, 1), (3, 1), (4, 1), (5, 1), (6, 1), (7, 1), (8, 6)]) he he rfl rfl) ?_
 refine go 1 ?_
 refine o_buildSlice he he rfl rfl rfl rfl rfl rfl rfl (fun v11 => ?_)
 refine go 10 ?_
 refine cb rfl (fun h13 p13 => ?_) (fun h13 p13 => ?_)
 ·refine go 4 ?_
  refine o_val rfl (v_build (pl := [(0, 1), (1, 1), (2, 1), (3, 1), (4, 1), (5, 1), (6, 1), (7, 1), (8, 6)]) he he rfl rfl) ?_
  refine go 1 ?_
  refine o_buildSlice he he rfl rfl rfl rfl rfl rfl rfl (fun v17 => ?_)
  refine go 1 ?_
  refine bring1 ?_
  refine o_appendO he he rfl rfl rfl rfl rfl (by decide) (by decide) rfl (fun v18 => ?_)
  refine go 8 ?_
  refine bring3 ?_
  refine o_stw _ he rfl rfl rfl rfl rfl rfl ?_
  refine go 4 ?_
  refine fin2 rfl ⟨_, _, _, rfl, m0, .inr ⟨_, he, rfl, rfl⟩⟩ rfl ?_
  refine sx_drop ?_
  refine bring1 ?_
  refine sx_drop ?_
  refine bring1 ?_
  refine sx_drop ?_
  refine sx_pubrow (l := duE0 ++ [duN n]) rfl rfl ((.cons rfl (.one rfl) : Flat _ _ duE0).append (.one rfl)) (fun I9 j9 R9 => ?_)
  exact q_i ⟨_, _, rfl, R7.le j9, by unfold duE; rw [if_pos p13]; exact R9⟩
 ·refine go 7 ?_
  refine bring2 ?_
  refine o_stw _ he rfl rfl rfl rfl rfl rfl ?_
  refine go 4 ?_
  refine fin2 rfl ⟨_, _, _, rfl, m0, .inr ⟨_, he, rfl, rfl⟩⟩ rfl ?_
  refine sx_drop ?_
  refine bring1 ?_
  refine sx_drop ?_
  refine sx_pubrow (l := duE0) rfl rfl (.cons rfl (.one rfl)) (fun I9 j9 R9 => ?_)
  exact q_i ⟨_, _, rfl, R7.le j9, by unfold duE; rw [if_neg p13]; exact R9⟩

theorem r26Dues_t (I : IMap) (v : Value) (l : List Due) (hv : RdS I v l) (v2 : Value) (m : List Due) (hv2 : RdS I v2 m) (h : l = m) : FnV Tryz.prog 15 #[v, v2] I (.bool true) := by
  have := r26Dues I v l hv v2 m hv2
  rwa [decide_eq_true h] at this
theorem ref09Strings_t (I : IMap) (v : Value) (l : List ByteArray) (hv : RdS I v l) (v2 : Value) (m : List ByteArray) (hv2 : RdS I v2 m) (h : l = m) : FnV Tryz.prog 12 #[v, v2] I (.bool true) := by
  have := ref09Strings I v l hv v2 m hv2
  rwa [decide_eq_true h] at this

theorem head26 (I : IMap) :
    FnV Tryz.prog 10 #[] I (.bool true) := by
 refine enter Tryz.func10 Tryz.call10 rfl Tryz.ntmps10 rfl (fun w0 => ?_)
 refine go 8 ?_
 refine o_val rfl (v_build (pl := [(0, 1), (1, 1), (2, 1), (3, 1), (4, 1)]) he he rfl rfl) ?_
 refine go 1 ?_
 refine o_buildSlice he he rfl rfl rfl rfl rfl rfl rfl (fun v12 => ?_)
 refine sx_pubrow (l := [du1]) rfl rfl ((.one rfl)) (fun I12 j12 R12 => ?_)
 refine go 6 ?_
 refine o_call (smp26 _ (-1)) rfl rfl (fun v14 I14 j14 q14 => ?_)
 try have R12 := R12.le j14
 try have hc2 := hc2.le j14
 try have hw3 := hw3.le j14
 try have hw5 := hw5.le j14
 try have hw7 := hw7.le j14
 try have q28 := q28.le j14
 try have q32 := q32.le j14
 try have q36 := q36.le j14
 obtain ⟨vc2, w3, rfl, hc2, hw3⟩ := q14
 refine go 4 ?_
 refine o_alloc he rfl (fun g2 => ?_)
 refine go 1 ?_
 refine o_stw _ he rfl rfl rfl rfl rfl (by simp [RdS.one hc2]) ?_
 refine go 6 ?_
 refine o_call (smp26 _ (7)) rfl rfl (fun v18 I18 j18 q18 => ?_)
 try have R12 := R12.le j18
 try have hc2 := hc2.le j18
 try have hw3 := hw3.le j18
 try have hw5 := hw5.le j18
 try have hw7 := hw7.le j18
 try have q28 := q28.le j18
 try have q32 := q32.le j18
 try have q36 := q36.le j18
 obtain ⟨vc4, w5, rfl, hc4, hw5⟩ := q18
 refine go 4 ?_
 refine o_alloc he rfl (fun g4 => ?_)
 refine go 1 ?_
 refine o_stw _ he rfl rfl rfl rfl rfl (by simp [RdS.one hc4]) ?_
 refine go 6 ?_
 refine o_call (smp26 _ (9)) rfl rfl (fun v22 I22 j22 q22 => ?_)
 try have R12 := R12.le j22
 try have hc2 := hc2.le j22
 try have hw3 := hw3.le j22
 try have hw5 := hw5.le j22
 try have hw7 := hw7.le j22
 try have q28 := q28.le j22
 try have q32 := q32.le j22
 try have q36 := q36.le j22
 obtain ⟨vc6, w7, rfl, hc6, hw7⟩ := q22
 refine go 4 ?_
 refine o_alloc he rfl (fun g6 => ?_)
 refine go 1 ?_
 refine o_stw _ he rfl rfl rfl rfl rfl (by simp [RdS.one hc6]) ?_
 refine go 9 ?_
 refine o_call (duOpen _ _ [du1] R12 (by decide) du1_sm vc2 duC hc2 duC_sm w3 (duE (-1)) hw3 (duE_len _) (duE_sm _) nV1 8) rfl rfl (fun v28 I28 j28 q28 => ?_)
 try have R12 := R12.le j28
 try have hc2 := hc2.le j28
 try have hw3 := hw3.le j28
 try have hw5 := hw5.le j28
 try have hw7 := hw7.le j28
 try have q28 := q28.le j28
 try have q32 := q32.le j28
 try have q36 := q36.le j28
 rw [duX1] at q28
 refine go 9 ?_
 refine o_call (duOverdue _ _ [du1] R12 (by decide) du1_sm vc2 duC hc2 duC_sm w3 (duE (-1)) hw3 (duE_len _) (duE_sm _) nV1 9) rfl rfl (fun v32 I32 j32 q32 => ?_)
 try have R12 := R12.le j32
 try have hc2 := hc2.le j32
 try have hw3 := hw3.le j32
 try have hw5 := hw5.le j32
 try have hw7 := hw7.le j32
 try have q28 := q28.le j32
 try have q32 := q32.le j32
 try have q36 := q36.le j32
 rw [duX2] at q32
 refine go 9 ?_
 refine o_call (duOverdue _ _ [du1] R12 (by decide) du1_sm vc2 duC hc2 duC_sm w7 (duE (9)) hw7 (duE_len _) (duE_sm _) nV1 9) rfl rfl (fun v36 I36 j36 q36 => ?_)
 try have R12 := R12.le j36
 try have hc2 := hc2.le j36
 try have hw3 := hw3.le j36
 try have hw5 := hw5.le j36
 try have hw7 := hw7.le j36
 try have q28 := q28.le j36
 try have q32 := q32.le j36
 try have q36 := q36.le j36
 rw [duX3] at q36
 refine go 7 ?_
 refine o_val rfl (v_build (pl := [(0, 1), (1, 1), (2, 1)]) he he rfl rfl) ?_
 refine go 1 ?_
 refine o_buildSlice he he rfl rfl rfl rfl rfl rfl rfl (fun v39 => ?_)
 refine sx_pubrow (l := [(⟨nV1, nD, 8⟩ : Due)]) rfl rfl ((.one rfl)) (fun I39 j39 R39 => ?_)
 try have R12 := R12.le j39
 try have hc2 := hc2.le j39
 try have hw3 := hw3.le j39
 try have hw5 := hw5.le j39
 try have hw7 := hw7.le j39
 try have q28 := q28.le j39
 try have q32 := q32.le j39
 try have q36 := q36.le j39
 refine go 1 ?_
 refine o_callV (r26Dues_t _ _ _ q28 _ _ R39 rfl) rfl rfl ?_
 refine go 3 ?_
 refine o_yes rfl rfl rfl (o_buildSlice he he rfl rfl rfl rfl rfl rfl rfl (fun v43 => ?_))
 refine sx_pubrow (l := [nD]) rfl rfl ((.one rfl)) (fun I43 j43 R43 => ?_)
 try have R12 := R12.le j43
 try have hc2 := hc2.le j43
 try have hw3 := hw3.le j43
 try have hw5 := hw5.le j43
 try have hw7 := hw7.le j43
 try have q28 := q28.le j43
 try have q32 := q32.le j43
 try have q36 := q36.le j43
 refine go 1 ?_
 refine o_yes rfl rfl rfl (o_callV (ref09Strings_t _ _ _ q32 _ _ R43 rfl) rfl rfl ?_)
 refine go 6 ?_
 refine o_yes rfl rfl rfl (o_call (duOpen _ _ [du1] R12 (by decide) du1_sm vc2 duC hc2 duC_sm w3 (duE (-1)) hw3 (duE_len _) (duE_sm _) nV1 9) rfl rfl (fun v50 I50 j50 q50 => ?_))
 try have R12 := R12.le j50
 try have hc2 := hc2.le j50
 try have hw3 := hw3.le j50
 try have hw5 := hw5.le j50
 try have hw7 := hw7.le j50
 try have q28 := q28.le j50
 try have q32 := q32.le j50
 try have q36 := q36.le j50
 rw [duX4] at q50
 obtain ⟨A50, c50, rfl, _⟩ := q50
 refine go 1 ?_
 refine o_cons (o_yes rfl rfl rfl (o_val rfl (OV.cast (u := .bool true) (v_eql rfl rfl) rfl) ?_))
 refine go 6 ?_
 refine o_yes rfl rfl rfl (o_call (duOverdue _ _ [du1] R12 (by decide) du1_sm vc2 duC hc2 duC_sm w5 (duE (7)) hw5 (duE_len _) (duE_sm _) nV1 9) rfl rfl (fun v58 I58 j58 q58 => ?_))
 try have R12 := R12.le j58
 try have hc2 := hc2.le j58
 try have hw3 := hw3.le j58
 try have hw5 := hw5.le j58
 try have hw7 := hw7.le j58
 try have q28 := q28.le j58
 try have q32 := q32.le j58
 try have q36 := q36.le j58
 rw [duX5] at q58
 obtain ⟨A58, c58, rfl, _⟩ := q58
 refine go 1 ?_
 refine o_cons (o_yes rfl rfl rfl (o_val rfl (OV.cast (u := .bool true) (v_eql rfl rfl) rfl) ?_))
 refine go 6 ?_
 refine o_yes rfl rfl rfl (o_call (duOpen _ _ [du1] R12 (by decide) du1_sm vc2 duC hc2 duC_sm w5 (duE (7)) hw5 (duE_len _) (duE_sm _) nV1 9) rfl rfl (fun v66 I66 j66 q66 => ?_))
 try have R12 := R12.le j66
 try have hc2 := hc2.le j66
 try have hw3 := hw3.le j66
 try have hw5 := hw5.le j66
 try have hw7 := hw7.le j66
 try have q28 := q28.le j66
 try have q32 := q32.le j66
 try have q36 := q36.le j66
 rw [duX6] at q66
 obtain ⟨A66, c66, rfl, _⟩ := q66
 refine go 1 ?_
 refine o_cons (o_yes rfl rfl rfl (o_val rfl (OV.cast (u := .bool true) (v_eql rfl rfl) rfl) ?_))
 refine go 4 ?_
 refine o_yes rfl rfl rfl (o_buildSlice he he rfl rfl rfl rfl rfl rfl rfl (fun v72 => ?_))
 refine sx_pubrow (l := [nD]) rfl rfl ((.one rfl)) (fun I72 j72 R72 => ?_)
 try have R12 := R12.le j72
 try have hc2 := hc2.le j72
 try have hw3 := hw3.le j72
 try have hw5 := hw5.le j72
 try have hw7 := hw7.le j72
 try have q28 := q28.le j72
 try have q32 := q32.le j72
 try have q36 := q36.le j72
 refine go 1 ?_
 refine o_yes rfl rfl rfl (o_callV (ref09Strings_t _ _ _ q36 _ _ R72 rfl) rfl rfl ?_)
 refine go 5 ?_
 refine fin1 rfl rfl ?_
 exact q_vI rfl

end Go.Proofs.YtdkjmaoelojpeaaGreat

/- What the law 'each duty alone' comes to at each step. -/
set_option linter.all false
namespace Go.Sx
open Go
section
variable {κ : Type} [DecidableEq κ]
/-- a map whose keys are those of a list -/
def KeysG (kvs : List (κ × Value)) (L : List κ) : Prop := (kvs.map Prod.fst).Nodup ∧ ∀ x, x ∈ kvs.map Prod.fst ↔ x ∈ L
theorem KeysG.nil : KeysG ([] : List (κ × Value)) [] := ⟨List.nodup_nil, fun x => Iff.rfl⟩
theorem KeysG.put {kvs : List (κ × Value)} {L : List κ} {x : κ} {v : Value} (h : KeysG kvs L) : KeysG (mput kvs x v) (L ++ [x]) :=
  ⟨mput_nd h.1, fun z => by rw [mput_mem, h.2, List.mem_append, List.mem_singleton, or_comm]⟩
theorem KeysG.count {kvs : List (κ × Value)} {L m : List κ} (h : KeysG kvs L) (hn : m.Nodup) (hm : ∀ x, x ∈ L ↔ x ∈ m) : kvs.length = m.length := by
  have hp : (kvs.map Prod.fst).Perm m := (List.perm_ext_iff_of_nodup h.1 hn).2 fun x => (h.2 x).trans (hm x)
  rw [← hp.length_eq, List.length_map]
theorem KeysG.one {kvs : List (κ × Value)} {L m : List κ} {v : Value} (h : KeysG kvs L) (h1 : m.length = 1) : KeysG (mput kvs (m[0]'(by omega)) v) (L ++ m) := by
  match m, h1 with
  | [x], _ => exact h.put
theorem KeysG.zero {kvs : List (κ × Value)} {L m : List κ} (h : KeysG kvs L) (h0 : ¬ ((m.length : Nat) : Int) = 1) (hle : m.length ≤ 1) : KeysG kvs (L ++ m) := by
  match m with
  | [] => rw [List.append_nil]; exact h
  | [x] => exact absurd rfl h0
end
section
variable {ds : List Dut} {c : List Kind} {l : List Evt} {p : ByteArray} {day : Int} {i : Nat}
def aloneL (ds : List Dut) (c : List Kind) (l : List Evt) (p : ByteArray) (day : Int) (i : Nat) : List ByteArray := (ds.take i).flatMap fun d => lateN [d] c l p day
def aloneO (ds : List Dut) (c : List Kind) (l : List Evt) (p : ByteArray) (day : Int) (i : Nat) : List Due := (ds.take i).flatMap fun d => openD [d] c l p day
theorem aloneL_succ (h : i < ds.length) : aloneL ds c l p day (i + 1) = aloneL ds c l p day i ++ lateN [ds[i]] c l p day := by
  unfold aloneL; rw [← take_succ_of h, List.flatMap_append]; simp
theorem aloneO_succ (h : i < ds.length) : aloneO ds c l p day (i + 1) = aloneO ds c l p day i ++ openD [ds[i]] c l p day := by
  unfold aloneO; rw [← take_succ_of h, List.flatMap_append]; simp
theorem aloneL_all {x : ByteArray} : x ∈ aloneL ds c l p day ds.length ↔ x ∈ lateN ds c l p day := by
  unfold aloneL; rw [List.take_length, List.mem_flatMap, late_alone]
theorem aloneO_all {x : Due} : x ∈ aloneO ds c l p day ds.length ↔ x ∈ openD ds c l p day := by
  unfold aloneO; rw [List.take_length, List.mem_flatMap, open_alone]
theorem late_nd : (lateN ds c l p day).Nodup := SrtU.nodup (fun a => sLt_irrefl a) lateN_srt
theorem open_nd : (openD ds c l p day).Nodup := SrtU.nodup dueLt_irrefl openD_srt
theorem late_sorted (h : i + 1 < (lateN ds c l p day).length) : sLt (lateN ds c l p day)[i] (lateN ds c l p day)[i + 1] = true :=
  List.pairwise_iff_getElem.1 lateN_srt _ _ _ _ (Nat.lt_succ_self i)
theorem open_sorted (h : i + 1 < (openD ds c l p day).length) : dueLt (openD ds c l p day)[i] (openD ds c l p day)[i + 1] = true :=
  List.pairwise_iff_getElem.1 openD_srt _ _ _ _ (Nat.lt_succ_self i)
theorem open_days (h : i + 1 < (openD ds c l p day).length) : (openD ds c l p day)[i].day ≤ (openD ds c l p day)[i + 1].day := by
  have := open_sorted h
  simp only [dueLt, Bool.or_eq_true, Bool.and_eq_true, decide_eq_true_eq] at this
  omega
theorem open_rules (h : i + 1 < (openD ds c l p day).length) (h1 : (openD ds c l p day)[i].day = (openD ds c l p day)[i + 1].day) : sLt (openD ds c l p day)[i].rule (openD ds c l p day)[i + 1].rule = true := by
  have := open_sorted h
  simp only [dueLt, Bool.or_eq_true, Bool.and_eq_true, decide_eq_true_eq] at this
  rcases this with h2 | ⟨_, h2⟩
  · omega
  · exact h2
theorem late_in {d : Dut} (hd : d ∈ ds) {x : ByteArray} (h : x ∈ lateN [d] c l p day) : x ∈ lateN ds c l p day := late_alone.2 ⟨d, hd, h⟩
theorem open_in {d : Dut} (hd : d ∈ ds) {x : Due} (h : x ∈ openD [d] c l p day) : x ∈ openD ds c l p day := open_alone.2 ⟨d, hd, h⟩
theorem duty_day {d : Dut} (ho : (openD [d] c l p day).length = 1) : 0 ≤ day := by
  rcases pend_one (d := d) (c := c) (l := l) (p := p) (day := day) with h | ⟨n, h⟩
  · rw [open_nil h] at ho; cases ho
  obtain ⟨k, hk, ⟨hv, _⟩, hl⟩ := pend_some.1 h
  obtain ⟨f, hf, hfp, hfo, _, hfn⟩ := pendD_mem.1 (leastN_some.1 hl).1
  have h2 := at_days (live_ok hk).1 hf hfp.2
  omega
theorem mid_one {α : Type} {l : List α} {i : Nat} (h : i < l.length) : (l.take (i + 1)).drop i = [l[i]] := by
  rw [← take_succ_of h, List.drop_append_of_le_length (by rw [List.length_take]; omega), List.drop_of_length_le (by rw [List.length_take]; omega), List.nil_append]
end
end Go.Sx

