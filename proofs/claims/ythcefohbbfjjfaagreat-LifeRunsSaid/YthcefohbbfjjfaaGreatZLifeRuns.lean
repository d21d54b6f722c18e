/- The law LifeRuns holds of the given program, for every input. No condition. -/
import Derived.Test.YthcefohbbfjjfaaGreatZLae
import Derived.ChangeMaps5
import Derived.OpenShut
import Derived.ProofKit
import Derived.Test.YthcefohbbfjjfaaGreatRows
/- Walks, printed by a program out of the code of the functions: each theorem is a contract of one function. -/
namespace Go.Proofs.YthcefohbbfjjfaaGreat
open Go Go.Sx
set_option linter.all false
set_option maxRecDepth 20000
set_option maxHeartbeats 4000000
instance T.und_62 : Has (Tryz.prog.underlying 62) (.int .u16) := ⟨by kernel_rfl⟩
theorem samePart_t (I : IMap) (x : Part) (vx vy : Value) (hx : RdS I vx x.props) (hy : RdS I vy x.props) : FnV Tryz.prog 15 #[.agg (x.cells vx).toArray, .agg (x.cells vy).toArray] I (.bool true) := by
  have := samePart I x x vx vy hx hy
  rwa [decide_eq_true rfl] at this

theorem lawLRuns (I : IMap) (vc : Value) (c : List Kind) (hvc : RdS I vc c) (hoc : ∀ x ∈ c, OkKd x) (f : Fm) (sf : Value) (hf : FmRd I [ci f.op, ci f.n, sf] f) (hof : OkFm f) (v : Value) (l : List Evt) (hv : RdS I v l) (hok : ∀ x ∈ l, OkE x) (s : ByteArray) (ws : s.size ≤ maxLen) (u : Use) (hou : OkUse u) :
    FnV Tryz.prog 3 #[.agg #[vc, ci f.op, ci f.n, sf], v, .string s, .agg u.cells.toArray] I (.bool true) := by
 refine enter Tryz.func3 Tryz.call3 rfl Tryz.ntmps3 rfl (fun w0 => ?_)
 refine go 3 ?_
 refine o_box _ rfl rfl rfl (fun g4 => ?_)
 refine go 1 ?_
 refine o_box _ rfl rfl rfl (fun g7 => ?_)
 refine go 6 ?_
 refine o_callV (head12 _) rfl rfl ?_
 refine go 5 ?_
 refine c_cut (I' := I) (L' := [(1, v), (2, .string s), (4, .pointer (some ⟨g4, 0, none⟩)), (7, .pointer (some ⟨g7, 0, none⟩)), (9, .bool true), (26, .bool (!few12 c f l 24 || decide (((s.size : Nat) : Int) > 300)))]) (H' := [.blk g4 29 [vc, ci f.op, ci f.n, sf], .blk g7 34 u.cells]) ?_ ?_
 ·refine go 4 ?_
  refine o_callV (law12few _ vc c hvc f sf hf v l hv) rfl rfl ?_
  refine go 2 ?_
  refine sxb 22 rfl (fun h22 p22 => ?_) (fun h22 p22 => ?_)
  ·refine go 6 ?_
   refine bring1 ?_
   exact q_cut ⟨rfl, rfl, rfl, rfl, rfl, (congrArg (fun b => some (Value.bool b)) (by simp only [h22, bS])), trivial⟩ rfl rfl
  ·refine go 6 ?_
   refine bring1 ?_
   exact q_cut ⟨rfl, rfl, rfl, rfl, rfl, (congrArg (fun b => some (Value.bool b)) (by simp only [h22, bS])), trivial⟩ rfl rfl
 ·refine cb rfl (fun h26 p26 => ?_) (fun h26 p26 => ?_)
  ·refine go 8 ?_
   refine fin1 rfl rfl ?_
   exact q_vI rfl
  ·have hfv : few12 c f l 24 = true ∧ ¬ ((s.size : Nat) : Int) > 300 := by simpa using h26
   obtain ⟨hfw, hss⟩ := hfv
   obtain ⟨hsc, hl, hse⟩ := few12_sm (n := 24) hfw
   have hl6 : l.length ≤ 1000000 := by omega
   have hsm0 : Sm nil8 := (by show (0 : Nat) ≤ _; omega)
   have hse2 : SmE (⟨4, 40000, s, nil8, nil8, nil8, nil8, nil8, u⟩ : Evt) := ⟨by show s.size ≤ _; omega, hsm0, hsm0, hsm0, hsm0, hsm0⟩
   obtain ⟨hfn, hrl⟩ := fit_run (f := f) (c := c) (l := l) (day := 40000) (by omega)
   refine go 9 ?_
   refine o_val rfl (v_build (pl := [(0, 1), (1, 1), (2, 1), (3, 1), (4, 1), (5, 1), (6, 1), (7, 1), (8, 6)]) he he rfl rfl) ?_
   refine go 1 ?_
   refine o_call (law12after _ vc c hvc hsc f sf hf v l hv hl hse (⟨4, 40000, s, nil8, nil8, nil8, nil8, nil8, u⟩ : Evt) hse2) rfl rfl (fun v34 I34 j34 q34 => ?_)
   try have hvc := hvc.le j34
   try have hf := hf.le j34
   try have hv := hv.le j34
   try have hwa := hwa.le j34
   try have hwb := hwb.le j34
   try have hAa := hAa.le j34
   try have hAb := hAb.le j34
   try have hA := hA.le j34
   obtain ⟨wa, wb, rfl, hwa, hwb⟩ := q34
   have hwas := hwa
   have hwbs := hwb
   obtain ⟨Aa, cap1, rfl, hAa, hca, _⟩ := hwas
   obtain ⟨Ab, cap2, rfl, hAb, hcb, _⟩ := hwbs
   refine go 5 ?_
   refine o_alloc he rfl (fun g10 => ?_)
   refine go 1 ?_
   refine o_alloc he rfl (fun g11 => ?_)
   refine go 1 ?_
   refine bring1 ?_
   refine o_stw _ he rfl rfl rfl rfl rfl rfl ?_
   refine go 1 ?_
   refine bring1 ?_
   refine o_stw _ he rfl rfl rfl rfl rfl rfl ?_
   refine go 10 ?_
   refine cb rfl (fun h39 p39 => ?_) (fun h39 p39 => ?_)
   ·refine go 8 ?_
    refine fin1 rfl rfl ?_
    exact q_vI rfl
   ·have hab : (runL f c l 40000).2.2 = 0 ∧ (runL f c (l ++ [(⟨4, 40000, s, nil8, nil8, nil8, nil8, nil8, u⟩ : Evt)]) 40000).2.2 = 0 := by simpa using h39
    have hLR := life_runs (f := f) (c := c) (e := (⟨4, 40000, s, nil8, nil8, nil8, nil8, nil8, u⟩ : Evt)) rfl rfl hab.1 hab.2
    have hlen : (runL f c (l ++ [(⟨4, 40000, s, nil8, nil8, nil8, nil8, nil8, u⟩ : Evt)]) 40000).1.length = (runL f c l 40000).1.length := by rw [hLR, use_len]
    refine go 11 ?_
    refine o_v rfl (OV.cast (u := .bool false) (v_neq rfl rfl) (congrArg Value.bool (by simp [hlen]))) ?_
    refine go 2 ?_
    refine c_false rfl ?_
    refine go 5 ?_
    refine o_v rfl (v_ldp ([ci f.op, ci f.n, sf]) m2 he rfl rfl rfl) ?_
    refine go 2 ?_
    refine o_callV (fmDamage _ f _ hf u) rfl rfl ?_
    refine go 1 ?_
    refine o_alloc he rfl (fun g13 => ?_)
    refine go 1 ?_
    refine o_stw _ he rfl rfl rfl rfl rfl rfl ?_
    refine go 9 ?_
    refine bring3 ?_
    refine sx_drop ?_
    refine bring3 ?_
    refine bring2 ?_
    refine bring3 ?_
    refine bring3 ?_
    refine c_loop (α := Nat) 0 (fun i => I34)
     (fun i => [(2, .string s), (7, .pointer (some ⟨g7, 0, none⟩)), (9, .bool true), (10, .pointer (some ⟨g10, 0, none⟩)), (11, .pointer (some ⟨g11, 0, none⟩)), (13, .pointer (some ⟨g13, 0, none⟩)), (14, .int .i64 ((i : Nat) : Int))])
     (fun i => [.blk g13 32 (damF f u).cells, .blk g10 39 [.slice Aa (runL f c l 40000).1.length cap1], .blk g11 39 [.slice Ab (runL f c (l ++ [(⟨4, 40000, s, nil8, nil8, nil8, nil8, nil8, u⟩ : Evt)]) 40000).1.length cap2], .blk g7 34 u.cells])
     (fun i => i ≤ (runL f c l 40000).1.length)
     (fun i => (runL f c l 40000).1.length - i) (Nat.zero_le _) rfl sb rfl ?_
    intro i hi
    refine go 10 ?_
    refine cb rfl (fun h56 p56 => ?_) (fun h56 p56 => ?_)
    ·have hlt : i < (runL f c l 40000).1.length := by omega
     have hltb : i < (runL f c (l ++ [(⟨4, 40000, s, nil8, nil8, nil8, nil8, nil8, u⟩ : Evt)]) 40000).1.length := by omega
     obtain ⟨hpp, hY, hN⟩ := useL_at (e := (⟨4, 40000, s, nil8, nil8, nil8, nil8, nil8, u⟩ : Evt)) (d := damF f u) hlt
     have hbi : (runL f c (l ++ [(⟨4, 40000, s, nil8, nil8, nil8, nil8, nil8, u⟩ : Evt)]) 40000).1[i] = (useL (runL f c l 40000).1 (⟨4, 40000, s, nil8, nil8, nil8, nil8, nil8, u⟩ : Evt) (damF f u))[i]'(by rw [use_len]; exact hlt) := by congr 1
     refine go 5 ?_
     refine c_cutx4 (Ix := (fun g15 g16 qa qb => I34)) (Lx := (fun g15 g16 qa qb => [(2, .string s), (7, .pointer (some ⟨g7, 0, none⟩)), (9, .bool true), (10, .pointer (some ⟨g10, 0, none⟩)), (11, .pointer (some ⟨g11, 0, none⟩)), (13, .pointer (some ⟨g13, 0, none⟩)), (14, .int .i64 ((i : Nat) : Int)), (15, .pointer (some ⟨g15, 0, none⟩)), (16, .pointer (some ⟨g16, 0, none⟩))])) (Hx := (fun g15 g16 qa qb => [.blk g15 49 ((runL f c l 40000).1[i].cells qa), .blk g16 49 ((runL f c (l ++ [(⟨4, 40000, s, nil8, nil8, nil8, nil8, nil8, u⟩ : Evt)]) 40000).1[i].cells qb), .blk g13 32 (damF f u).cells, .blk g10 39 [.slice Aa (runL f c l 40000).1.length cap1], .blk g11 39 [.slice Ab (runL f c (l ++ [(⟨4, 40000, s, nil8, nil8, nil8, nil8, nil8, u⟩ : Evt)]) 40000).1.length cap2], .blk g7 34 u.cells])) (p := (fun g15 g16 qa qb => RdS I34 qa (runL f c l 40000).1[i].props ∧ RdS I34 qb (runL f c (l ++ [(⟨4, 40000, s, nil8, nil8, nil8, nil8, nil8, u⟩ : Evt)]) 40000).1[i].props)) ?_ ?_
     ·refine d_startH T.mixed ?_
      refine d_tv 0 rfl rfl (by kernel_rfl) rfl (.refl _) rfl (v_fieldAddr he rfl) ?_
      refine d_tv 1 rfl rfl (by kernel_rfl) rfl (.refl _) rfl (v_ld m1 he rfl rfl) ?_
      refine d_tv 2 rfl rfl (by kernel_rfl) rfl (.refl _) rfl (v_move rfl) ?_
      obtain ⟨b62, o62, w62, e62, c62, r62⟩ := RdA.at_ hAa (i := i) hlt
      obtain ⟨q62, rfl, hq62⟩ := r62
      refine d_tv 3 rfl rfl (by kernel_rfl) rfl (.refl _) rfl (v_idx he rfl rfl e62 (i) (by omega) hlt) ?_
      refine d_tv 4 rfl rfl (by kernel_rfl) rfl (.refl _) rfl (v_ldIa he rfl c62 rfl) ?_
      refine d_tv 5 rfl rfl (by kernel_rfl) rfl (.refl _) rfl (v_fieldAddr he rfl) ?_
      refine d_tv 6 rfl rfl (by kernel_rfl) rfl (.refl _) rfl (v_ld m2 he rfl rfl) ?_
      refine d_tv 7 rfl rfl (by kernel_rfl) rfl (.refl _) rfl (v_move rfl) ?_
      obtain ⟨b67, o67, w67, e67, c67, r67⟩ := RdA.at_ hAb (i := i) hltb
      obtain ⟨q67, rfl, hq67⟩ := r67
      refine d_tv 8 rfl rfl (by kernel_rfl) rfl (.refl _) rfl (v_idx he rfl rfl e67 (i) (by omega) hltb) ?_
      refine d_tv 9 rfl rfl (by kernel_rfl) rfl (.refl _) rfl (v_ldIa he rfl c67 rfl) ?_
      refine d_two 10 11 (by kernel_rfl) rfl rfl ?_ ?_
      ·refine o_alloc he rfl (fun g15 => ?_)
       refine d_on (fun _ m => m.keeps (.cons _ (.refl _))) ?_
       refine d_one 11 (by kernel_rfl) rfl ?_
       refine o_alloc he rfl (fun g16 => ?_)
       refine d_on (fun _ m => m.keeps (.cons _ (.cons _ (.refl _)))) ?_
       refine d_one 12 (by kernel_rfl) rfl ?_
       refine bring1 ?_
       refine o_stw _ he rfl rfl rfl rfl rfl (Enc.one (α := Part) (x := (runL f c l 40000).1[i]) ⟨q62, rfl, hq62⟩) ?_
       refine d_on (fun _ m => m.keeps (.cons _ (.cons _ (.refl _)))) ?_
       refine d_one 13 (by kernel_rfl) rfl ?_
       refine bring1 ?_
       refine o_stw _ he rfl rfl rfl rfl rfl (Enc.one (α := Part) (x := (runL f c (l ++ [(⟨4, 40000, s, nil8, nil8, nil8, nil8, nil8, u⟩ : Evt)]) 40000).1[i]) ⟨q67, rfl, hq67⟩) ?_
       refine d_on (fun _ m => m.keeps (.cons _ (.cons _ (.refl _)))) ?_
       refine d_done (by kernel_rfl) ?_
       refine go 1 ?_
       refine bring5 ?_
       refine bring5 ?_
       refine bring5 ?_
       refine bring5 ?_
       refine bring4 ?_
       refine bring5 ?_
       exact q_cutx4 (g15) (g16) (q62) (q67) ⟨hq62, hq67⟩ sb rfl rfl
      ·refine o_alloc he rfl (fun g16 => ?_)
       refine d_on (fun _ m => m.keeps (.cons _ (.refl _))) ?_
       refine d_one 10 (by kernel_rfl) rfl ?_
       refine o_alloc he rfl (fun g15 => ?_)
       refine d_on (fun _ m => m.keeps (.cons _ (.cons _ (.refl _)))) ?_
       refine d_one 12 (by kernel_rfl) rfl ?_
       refine o_stw _ he rfl rfl rfl rfl rfl (Enc.one (α := Part) (x := (runL f c l 40000).1[i]) ⟨q62, rfl, hq62⟩) ?_
       refine d_on (fun _ m => m.keeps (.cons _ (.cons _ (.refl _)))) ?_
       refine d_one 13 (by kernel_rfl) rfl ?_
       refine bring1 ?_
       refine o_stw _ he rfl rfl rfl rfl rfl (Enc.one (α := Part) (x := (runL f c (l ++ [(⟨4, 40000, s, nil8, nil8, nil8, nil8, nil8, u⟩ : Evt)]) 40000).1[i]) ⟨q67, rfl, hq67⟩) ?_
       refine d_on (fun _ m => m.keeps (.cons _ (.cons _ (.refl _)))) ?_
       refine d_done (by kernel_rfl) ?_
       refine go 1 ?_
       refine bring5 ?_
       refine bring5 ?_
       refine bring5 ?_
       refine bring5 ?_
       refine bring4 ?_
       refine bring5 ?_
       exact q_cutx4 (g15) (g16) (q62) (q67) ⟨hq62, hq67⟩ sb rfl rfl
     ·intro g15 g16 qa qb ⟨hqa, hqb⟩
      refine go 1 ?_
      refine c_cut (I' := I34) (L' := [(2, .string s), (7, .pointer (some ⟨g7, 0, none⟩)), (9, .bool true), (10, .pointer (some ⟨g10, 0, none⟩)), (11, .pointer (some ⟨g11, 0, none⟩)), (13, .pointer (some ⟨g13, 0, none⟩)), (14, .int .i64 ((i : Nat) : Int)), (15, .pointer (some ⟨g15, 0, none⟩)), (16, .pointer (some ⟨g16, 0, none⟩))]) (H' := [.blk g15 49 ((runL f c (l ++ [(⟨4, 40000, s, nil8, nil8, nil8, nil8, nil8, u⟩ : Evt)]) 40000).1[i].cells qa), .blk g16 49 ((runL f c (l ++ [(⟨4, 40000, s, nil8, nil8, nil8, nil8, nil8, u⟩ : Evt)]) 40000).1[i].cells qb), .blk g13 32 (damF f u).cells, .blk g10 39 [.slice Aa (runL f c l 40000).1.length cap1], .blk g11 39 [.slice Ab (runL f c (l ++ [(⟨4, 40000, s, nil8, nil8, nil8, nil8, nil8, u⟩ : Evt)]) 40000).1.length cap2], .blk g7 34 u.cells]) ?_ ?_
      ·refine go 7 ?_
       refine o_callE (law12inside _ _ (runL f c l 40000).1 hwa hfn s (runL f c l 40000).1[i].name) rfl rfl (fun v73 q73 => ?_)
       obtain ⟨b73, rfl, hb73⟩ := q73
       refine go 2 ?_
       refine cb rfl (fun h73 p73 => ?_) (fun h73 p73 => ?_)
       ·have hv := hbi.trans (hY (hb73.1 h73))
        refine d_start1 T.mixed ?_
        refine d_tv 0 rfl rfl (by kernel_rfl) rfl (.cons _ (.refl _)) rfl (v_fieldAddr he rfl) ?_
        refine d_tv 1 rfl rfl (by kernel_rfl) rfl (.cons _ (.refl _)) rfl (v_fieldAddr he rfl) ?_
        refine d_tv 3 rfl rfl (by kernel_rfl) rfl (.cons _ (.refl _)) rfl (v_fieldAddr he rfl) ?_
        refine d_tv 4 rfl rfl (by kernel_rfl) rfl (.cons _ (.refl _)) rfl (v_ldp (u.km.cells) m4 he rfl rfl rfl) ?_
        refine d_tv 6 rfl rfl (by kernel_rfl) rfl (.cons _ (.refl _)) rfl (v_fieldAddr he rfl) ?_
        refine d_tv 7 rfl rfl (by kernel_rfl) rfl (.cons _ (.refl _)) rfl (v_fieldAddr he rfl) ?_
        refine d_tv 9 rfl rfl (by kernel_rfl) rfl (.cons _ (.refl _)) rfl (v_fieldAddr he rfl) ?_
        refine d_tv 10 rfl rfl (by kernel_rfl) rfl (.cons _ (.refl _)) rfl (v_ldp (u.cycles.cells) m4 he rfl rfl rfl) ?_
        refine d_tv 12 rfl rfl (by kernel_rfl) rfl (.cons _ (.refl _)) rfl (v_fieldAddr he rfl) ?_
        refine d_tv 13 rfl rfl (by kernel_rfl) rfl (.cons _ (.refl _)) rfl (v_fieldAddr he rfl) ?_
        refine d_tv 15 rfl rfl (by kernel_rfl) rfl (.cons _ (.refl _)) rfl (v_ldw m1 he rfl rfl) ?_
        refine d_three 2 8 14 (by kernel_rfl) rfl rfl rfl ?_ ?_ ?_
        ·refine o_val rfl (v_ldp ((runL f c l 40000).1[i].life.km.cells) m0 he rfl rfl rfl) ?_
         refine d_on (fun _ m => m.keeps (.cons _ (.refl _))) ?_
         refine d_three 5 8 14 (by kernel_rfl) rfl rfl rfl ?_ ?_ ?_
         ·refine o_callV (ivAdd _ _ u.km) rfl rfl ?_
          refine d_on (fun _ m => m.keeps (.cons _ (.refl _))) ?_
          refine d_two 8 14 (by kernel_rfl) rfl rfl ?_ ?_
          ·refine o_val rfl (v_ldp ((runL f c l 40000).1[i].life.cycles.cells) m0 he rfl rfl rfl) ?_
           refine d_on (fun _ m => m.keeps (.cons _ (.refl _))) ?_
           refine d_two 11 14 (by kernel_rfl) rfl rfl ?_ ?_
           ·refine o_callV (ivAdd _ _ u.cycles) rfl rfl ?_
            refine d_on (fun _ m => m.keeps (.cons _ (.refl _))) ?_
            refine d_one 14 (by kernel_rfl) rfl ?_
            refine o_val rfl (v_ldp ((runL f c l 40000).1[i].life.damage.cells) m0 he rfl rfl rfl) ?_
            refine d_on (fun _ m => m.keeps (.cons _ (.refl _))) ?_
            refine d_one 16 (by kernel_rfl) rfl ?_
            refine o_callV (ivAdd _ _ (damF f u)) rfl rfl ?_
            refine d_on (fun _ m => m.keeps (.cons _ (.refl _))) ?_
            refine d_tv 17 rfl rfl (by kernel_rfl) rfl (.cons _ (.refl _)) rfl (v_build (pl := [(0, 2), (2, 2), (4, 2)]) he he rfl rfl) ?_
            refine d_tv 18 rfl rfl (by kernel_rfl) rfl (.cons _ (.refl _)) rfl (v_fieldAddr he rfl) ?_
            refine d_one 19 (by kernel_rfl) rfl ?_
            refine o_st _ _ he rfl rfl rfl rfl rfl rfl rfl ?_
            refine d_on (fun _ m => m.keeps (.cons _ (.refl _))) ?_
            refine d_done (by kernel_rfl) ?_
            refine go 1 ?_
            exact q_cut sb (by rw [hv] <;> rfl) rfl
           ·refine o_val rfl (v_ldp ((runL f c l 40000).1[i].life.damage.cells) m0 he rfl rfl rfl) ?_
            refine d_on (fun _ m => m.keeps (.cons _ (.refl _))) ?_
            refine d_one 11 (by kernel_rfl) rfl ?_
            refine o_callV (ivAdd _ _ u.cycles) rfl rfl ?_
            refine d_on (fun _ m => m.keeps (.cons _ (.refl _))) ?_
            refine d_one 16 (by kernel_rfl) rfl ?_
            refine o_callV (ivAdd _ _ (damF f u)) rfl rfl ?_
            refine d_on (fun _ m => m.keeps (.cons _ (.refl _))) ?_
            refine d_tv 17 rfl rfl (by kernel_rfl) rfl (.cons _ (.refl _)) rfl (v_build (pl := [(0, 2), (2, 2), (4, 2)]) he he rfl rfl) ?_
            refine d_tv 18 rfl rfl (by kernel_rfl) rfl (.cons _ (.refl _)) rfl (v_fieldAddr he rfl) ?_
            refine d_one 19 (by kernel_rfl) rfl ?_
            refine o_st _ _ he rfl rfl rfl rfl rfl rfl rfl ?_
            refine d_on (fun _ m => m.keeps (.cons _ (.refl _))) ?_
            refine d_done (by kernel_rfl) ?_
            refine go 1 ?_
            exact q_cut sb (by rw [hv] <;> rfl) rfl
          ·refine o_val rfl (v_ldp ((runL f c l 40000).1[i].life.damage.cells) m0 he rfl rfl rfl) ?_
           refine d_on (fun _ m => m.keeps (.cons _ (.refl _))) ?_
           refine d_one 8 (by kernel_rfl) rfl ?_
           refine o_val rfl (v_ldp ((runL f c l 40000).1[i].life.cycles.cells) m0 he rfl rfl rfl) ?_
           refine d_on (fun _ m => m.keeps (.cons _ (.refl _))) ?_
           refine d_one 11 (by kernel_rfl) rfl ?_
           refine o_callV (ivAdd _ _ u.cycles) rfl rfl ?_
           refine d_on (fun _ m => m.keeps (.cons _ (.refl _))) ?_
           refine d_one 16 (by kernel_rfl) rfl ?_
           refine o_callV (ivAdd _ _ (damF f u)) rfl rfl ?_
           refine d_on (fun _ m => m.keeps (.cons _ (.refl _))) ?_
           refine d_tv 17 rfl rfl (by kernel_rfl) rfl (.cons _ (.refl _)) rfl (v_build (pl := [(0, 2), (2, 2), (4, 2)]) he he rfl rfl) ?_
           refine d_tv 18 rfl rfl (by kernel_rfl) rfl (.cons _ (.refl _)) rfl (v_fieldAddr he rfl) ?_
           refine d_one 19 (by kernel_rfl) rfl ?_
           refine o_st _ _ he rfl rfl rfl rfl rfl rfl rfl ?_
           refine d_on (fun _ m => m.keeps (.cons _ (.refl _))) ?_
           refine d_done (by kernel_rfl) ?_
           refine go 1 ?_
           exact q_cut sb (by rw [hv] <;> rfl) rfl
         ·refine o_val rfl (v_ldp ((runL f c l 40000).1[i].life.cycles.cells) m0 he rfl rfl rfl) ?_
          refine d_on (fun _ m => m.keeps (.cons _ (.refl _))) ?_
          refine d_two 5 14 (by kernel_rfl) rfl rfl ?_ ?_
          ·refine o_callV (ivAdd _ _ u.km) rfl rfl ?_
           refine d_on (fun _ m => m.keeps (.cons _ (.refl _))) ?_
           refine d_two 11 14 (by kernel_rfl) rfl rfl ?_ ?_
           ·refine o_callV (ivAdd _ _ u.cycles) rfl rfl ?_
            refine d_on (fun _ m => m.keeps (.cons _ (.refl _))) ?_
            refine d_one 14 (by kernel_rfl) rfl ?_
            refine o_val rfl (v_ldp ((runL f c l 40000).1[i].life.damage.cells) m0 he rfl rfl rfl) ?_
            refine d_on (fun _ m => m.keeps (.cons _ (.refl _))) ?_
            refine d_one 16 (by kernel_rfl) rfl ?_
            refine o_callV (ivAdd _ _ (damF f u)) rfl rfl ?_
            refine d_on (fun _ m => m.keeps (.cons _ (.refl _))) ?_
            refine d_tv 17 rfl rfl (by kernel_rfl) rfl (.cons _ (.refl _)) rfl (v_build (pl := [(0, 2), (2, 2), (4, 2)]) he he rfl rfl) ?_
            refine d_tv 18 rfl rfl (by kernel_rfl) rfl (.cons _ (.refl _)) rfl (v_fieldAddr he rfl) ?_
            refine d_one 19 (by kernel_rfl) rfl ?_
            refine o_st _ _ he rfl rfl rfl rfl rfl rfl rfl ?_
            refine d_on (fun _ m => m.keeps (.cons _ (.refl _))) ?_
            refine d_done (by kernel_rfl) ?_
            refine go 1 ?_
            exact q_cut sb (by rw [hv] <;> rfl) rfl
           ·refine o_val rfl (v_ldp ((runL f c l 40000).1[i].life.damage.cells) m0 he rfl rfl rfl) ?_
            refine d_on (fun _ m => m.keeps (.cons _ (.refl _))) ?_
            refine d_one 11 (by kernel_rfl) rfl ?_
            refine o_callV (ivAdd _ _ u.cycles) rfl rfl ?_
            refine d_on (fun _ m => m.keeps (.cons _ (.refl _))) ?_
            refine d_one 16 (by kernel_rfl) rfl ?_
            refine o_callV (ivAdd _ _ (damF f u)) rfl rfl ?_
            refine d_on (fun _ m => m.keeps (.cons _ (.refl _))) ?_
            refine d_tv 17 rfl rfl (by kernel_rfl) rfl (.cons _ (.refl _)) rfl (v_build (pl := [(0, 2), (2, 2), (4, 2)]) he he rfl rfl) ?_
            refine d_tv 18 rfl rfl (by kernel_rfl) rfl (.cons _ (.refl _)) rfl (v_fieldAddr he rfl) ?_
            refine d_one 19 (by kernel_rfl) rfl ?_
            refine o_st _ _ he rfl rfl rfl rfl rfl rfl rfl ?_
            refine d_on (fun _ m => m.keeps (.cons _ (.refl _))) ?_
            refine d_done (by kernel_rfl) ?_
            refine go 1 ?_
            exact q_cut sb (by rw [hv] <;> rfl) rfl
          ·refine o_val rfl (v_ldp ((runL f c l 40000).1[i].life.damage.cells) m0 he rfl rfl rfl) ?_
           refine d_on (fun _ m => m.keeps (.cons _ (.refl _))) ?_
           refine d_one 5 (by kernel_rfl) rfl ?_
           refine o_callV (ivAdd _ _ u.km) rfl rfl ?_
           refine d_on (fun _ m => m.keeps (.cons _ (.refl _))) ?_
           refine d_one 11 (by kernel_rfl) rfl ?_
           refine o_callV (ivAdd _ _ u.cycles) rfl rfl ?_
           refine d_on (fun _ m => m.keeps (.cons _ (.refl _))) ?_
           refine d_one 16 (by kernel_rfl) rfl ?_
           refine o_callV (ivAdd _ _ (damF f u)) rfl rfl ?_
           refine d_on (fun _ m => m.keeps (.cons _ (.refl _))) ?_
           refine d_tv 17 rfl rfl (by kernel_rfl) rfl (.cons _ (.refl _)) rfl (v_build (pl := [(0, 2), (2, 2), (4, 2)]) he he rfl rfl) ?_
           refine d_tv 18 rfl rfl (by kernel_rfl) rfl (.cons _ (.refl _)) rfl (v_fieldAddr he rfl) ?_
           refine d_one 19 (by kernel_rfl) rfl ?_
           refine o_st _ _ he rfl rfl rfl rfl rfl rfl rfl ?_
           refine d_on (fun _ m => m.keeps (.cons _ (.refl _))) ?_
           refine d_done (by kernel_rfl) ?_
           refine go 1 ?_
           exact q_cut sb (by rw [hv] <;> rfl) rfl
         ·refine o_val rfl (v_ldp ((runL f c l 40000).1[i].life.damage.cells) m0 he rfl rfl rfl) ?_
          refine d_on (fun _ m => m.keeps (.cons _ (.refl _))) ?_
          refine d_two 5 8 (by kernel_rfl) rfl rfl ?_ ?_
          ·refine o_callV (ivAdd _ _ u.km) rfl rfl ?_
           refine d_on (fun _ m => m.keeps (.cons _ (.refl _))) ?_
           refine d_one 8 (by kernel_rfl) rfl ?_
           refine o_val rfl (v_ldp ((runL f c l 40000).1[i].life.cycles.cells) m0 he rfl rfl rfl) ?_
           refine d_on (fun _ m => m.keeps (.cons _ (.refl _))) ?_
           refine d_one 11 (by kernel_rfl) rfl ?_
           refine o_callV (ivAdd _ _ u.cycles) rfl rfl ?_
           refine d_on (fun _ m => m.keeps (.cons _ (.refl _))) ?_
           refine d_one 16 (by kernel_rfl) rfl ?_
           refine o_callV (ivAdd _ _ (damF f u)) rfl rfl ?_
           refine d_on (fun _ m => m.keeps (.cons _ (.refl _))) ?_
           refine d_tv 17 rfl rfl (by kernel_rfl) rfl (.cons _ (.refl _)) rfl (v_build (pl := [(0, 2), (2, 2), (4, 2)]) he he rfl rfl) ?_
           refine d_tv 18 rfl rfl (by kernel_rfl) rfl (.cons _ (.refl _)) rfl (v_fieldAddr he rfl) ?_
           refine d_one 19 (by kernel_rfl) rfl ?_
           refine o_st _ _ he rfl rfl rfl rfl rfl rfl rfl ?_
           refine d_on (fun _ m => m.keeps (.cons _ (.refl _))) ?_
           refine d_done (by kernel_rfl) ?_
           refine go 1 ?_
           exact q_cut sb (by rw [hv] <;> rfl) rfl
          ·refine o_val rfl (v_ldp ((runL f c l 40000).1[i].life.cycles.cells) m0 he rfl rfl rfl) ?_
           refine d_on (fun _ m => m.keeps (.cons _ (.refl _))) ?_
           refine d_one 5 (by kernel_rfl) rfl ?_
           refine o_callV (ivAdd _ _ u.km) rfl rfl ?_
           refine d_on (fun _ m => m.keeps (.cons _ (.refl _))) ?_
           refine d_one 11 (by kernel_rfl) rfl ?_
           refine o_callV (ivAdd _ _ u.cycles) rfl rfl ?_
           refine d_on (fun _ m => m.keeps (.cons _ (.refl _))) ?_
           refine d_one 16 (by kernel_rfl) rfl ?_
           refine o_callV (ivAdd _ _ (damF f u)) rfl rfl ?_
           refine d_on (fun _ m => m.keeps (.cons _ (.refl _))) ?_
           refine d_tv 17 rfl rfl (by kernel_rfl) rfl (.cons _ (.refl _)) rfl (v_build (pl := [(0, 2), (2, 2), (4, 2)]) he he rfl rfl) ?_
           refine d_tv 18 rfl rfl (by kernel_rfl) rfl (.cons _ (.refl _)) rfl (v_fieldAddr he rfl) ?_
           refine d_one 19 (by kernel_rfl) rfl ?_
           refine o_st _ _ he rfl rfl rfl rfl rfl rfl rfl ?_
           refine d_on (fun _ m => m.keeps (.cons _ (.refl _))) ?_
           refine d_done (by kernel_rfl) ?_
           refine go 1 ?_
           exact q_cut sb (by rw [hv] <;> rfl) rfl
        ·refine o_val rfl (v_ldp ((runL f c l 40000).1[i].life.cycles.cells) m0 he rfl rfl rfl) ?_
         refine d_on (fun _ m => m.keeps (.cons _ (.refl _))) ?_
         refine d_two 2 14 (by kernel_rfl) rfl rfl ?_ ?_
         ·refine o_val rfl (v_ldp ((runL f c l 40000).1[i].life.km.cells) m0 he rfl rfl rfl) ?_
          refine d_on (fun _ m => m.keeps (.cons _ (.refl _))) ?_
          refine d_two 5 14 (by kernel_rfl) rfl rfl ?_ ?_
          ·refine o_callV (ivAdd _ _ u.km) rfl rfl ?_
           refine d_on (fun _ m => m.keeps (.cons _ (.refl _))) ?_
           refine d_two 11 14 (by kernel_rfl) rfl rfl ?_ ?_
           ·refine o_callV (ivAdd _ _ u.cycles) rfl rfl ?_
            refine d_on (fun _ m => m.keeps (.cons _ (.refl _))) ?_
            refine d_one 14 (by kernel_rfl) rfl ?_
            refine o_val rfl (v_ldp ((runL f c l 40000).1[i].life.damage.cells) m0 he rfl rfl rfl) ?_
            refine d_on (fun _ m => m.keeps (.cons _ (.refl _))) ?_
            refine d_one 16 (by kernel_rfl) rfl ?_
            refine o_callV (ivAdd _ _ (damF f u)) rfl rfl ?_
            refine d_on (fun _ m => m.keeps (.cons _ (.refl _))) ?_
            refine d_tv 17 rfl rfl (by kernel_rfl) rfl (.cons _ (.refl _)) rfl (v_build (pl := [(0, 2), (2, 2), (4, 2)]) he he rfl rfl) ?_
            refine d_tv 18 rfl rfl (by kernel_rfl) rfl (.cons _ (.refl _)) rfl (v_fieldAddr he rfl) ?_
            refine d_one 19 (by kernel_rfl) rfl ?_
            refine o_st _ _ he rfl rfl rfl rfl rfl rfl rfl ?_
            refine d_on (fun _ m => m.keeps (.cons _ (.refl _))) ?_
            refine d_done (by kernel_rfl) ?_
            refine go 1 ?_
            exact q_cut sb (by rw [hv] <;> rfl) rfl
           ·refine o_val rfl (v_ldp ((runL f c l 40000).1[i].life.damage.cells) m0 he rfl rfl rfl) ?_
            refine d_on (fun _ m => m.keeps (.cons _ (.refl _))) ?_
            refine d_one 11 (by kernel_rfl) rfl ?_
            refine o_callV (ivAdd _ _ u.cycles) rfl rfl ?_
            refine d_on (fun _ m => m.keeps (.cons _ (.refl _))) ?_
            refine d_one 16 (by kernel_rfl) rfl ?_
            refine o_callV (ivAdd _ _ (damF f u)) rfl rfl ?_
            refine d_on (fun _ m => m.keeps (.cons _ (.refl _))) ?_
            refine d_tv 17 rfl rfl (by kernel_rfl) rfl (.cons _ (.refl _)) rfl (v_build (pl := [(0, 2), (2, 2), (4, 2)]) he he rfl rfl) ?_
            refine d_tv 18 rfl rfl (by kernel_rfl) rfl (.cons _ (.refl _)) rfl (v_fieldAddr he rfl) ?_
            refine d_one 19 (by kernel_rfl) rfl ?_
            refine o_st _ _ he rfl rfl rfl rfl rfl rfl rfl ?_
            refine d_on (fun _ m => m.keeps (.cons _ (.refl _))) ?_
            refine d_done (by kernel_rfl) ?_
            refine go 1 ?_
            exact q_cut sb (by rw [hv] <;> rfl) rfl
          ·refine o_val rfl (v_ldp ((runL f c l 40000).1[i].life.damage.cells) m0 he rfl rfl rfl) ?_
           refine d_on (fun _ m => m.keeps (.cons _ (.refl _))) ?_
           refine d_one 5 (by kernel_rfl) rfl ?_
           refine o_callV (ivAdd _ _ u.km) rfl rfl ?_
           refine d_on (fun _ m => m.keeps (.cons _ (.refl _))) ?_
           refine d_one 11 (by kernel_rfl) rfl ?_
           refine o_callV (ivAdd _ _ u.cycles) rfl rfl ?_
           refine d_on (fun _ m => m.keeps (.cons _ (.refl _))) ?_
           refine d_one 16 (by kernel_rfl) rfl ?_
           refine o_callV (ivAdd _ _ (damF f u)) rfl rfl ?_
           refine d_on (fun _ m => m.keeps (.cons _ (.refl _))) ?_
           refine d_tv 17 rfl rfl (by kernel_rfl) rfl (.cons _ (.refl _)) rfl (v_build (pl := [(0, 2), (2, 2), (4, 2)]) he he rfl rfl) ?_
           refine d_tv 18 rfl rfl (by kernel_rfl) rfl (.cons _ (.refl _)) rfl (v_fieldAddr he rfl) ?_
           refine d_one 19 (by kernel_rfl) rfl ?_
           refine o_st _ _ he rfl rfl rfl rfl rfl rfl rfl ?_
           refine d_on (fun _ m => m.keeps (.cons _ (.refl _))) ?_
           refine d_done (by kernel_rfl) ?_
           refine go 1 ?_
           exact q_cut sb (by rw [hv] <;> rfl) rfl
         ·refine o_val rfl (v_ldp ((runL f c l 40000).1[i].life.damage.cells) m0 he rfl rfl rfl) ?_
          refine d_on (fun _ m => m.keeps (.cons _ (.refl _))) ?_
          refine d_one 2 (by kernel_rfl) rfl ?_
          refine o_val rfl (v_ldp ((runL f c l 40000).1[i].life.km.cells) m0 he rfl rfl rfl) ?_
          refine d_on (fun _ m => m.keeps (.cons _ (.refl _))) ?_
          refine d_one 5 (by kernel_rfl) rfl ?_
          refine o_callV (ivAdd _ _ u.km) rfl rfl ?_
          refine d_on (fun _ m => m.keeps (.cons _ (.refl _))) ?_
          refine d_one 11 (by kernel_rfl) rfl ?_
          refine o_callV (ivAdd _ _ u.cycles) rfl rfl ?_
          refine d_on (fun _ m => m.keeps (.cons _ (.refl _))) ?_
          refine d_one 16 (by kernel_rfl) rfl ?_
          refine o_callV (ivAdd _ _ (damF f u)) rfl rfl ?_
          refine d_on (fun _ m => m.keeps (.cons _ (.refl _))) ?_
          refine d_tv 17 rfl rfl (by kernel_rfl) rfl (.cons _ (.refl _)) rfl (v_build (pl := [(0, 2), (2, 2), (4, 2)]) he he rfl rfl) ?_
          refine d_tv 18 rfl rfl (by kernel_rfl) rfl (.cons _ (.refl _)) rfl (v_fieldAddr he rfl) ?_
          refine d_one 19 (by kernel_rfl) rfl ?_
          refine o_st _ _ he rfl rfl rfl rfl rfl rfl rfl ?_
          refine d_on (fun _ m => m.keeps (.cons _ (.refl _))) ?_
          refine d_done (by kernel_rfl) ?_
          refine go 1 ?_
          exact q_cut sb (by rw [hv] <;> rfl) rfl
        ·refine o_val rfl (v_ldp ((runL f c l 40000).1[i].life.damage.cells) m0 he rfl rfl rfl) ?_
         refine d_on (fun _ m => m.keeps (.cons _ (.refl _))) ?_
         refine d_two 2 8 (by kernel_rfl) rfl rfl ?_ ?_
         ·refine o_val rfl (v_ldp ((runL f c l 40000).1[i].life.km.cells) m0 he rfl rfl rfl) ?_
          refine d_on (fun _ m => m.keeps (.cons _ (.refl _))) ?_
          refine d_two 5 8 (by kernel_rfl) rfl rfl ?_ ?_
          ·refine o_callV (ivAdd _ _ u.km) rfl rfl ?_
           refine d_on (fun _ m => m.keeps (.cons _ (.refl _))) ?_
           refine d_one 8 (by kernel_rfl) rfl ?_
           refine o_val rfl (v_ldp ((runL f c l 40000).1[i].life.cycles.cells) m0 he rfl rfl rfl) ?_
           refine d_on (fun _ m => m.keeps (.cons _ (.refl _))) ?_
           refine d_one 11 (by kernel_rfl) rfl ?_
           refine o_callV (ivAdd _ _ u.cycles) rfl rfl ?_
           refine d_on (fun _ m => m.keeps (.cons _ (.refl _))) ?_
           refine d_one 16 (by kernel_rfl) rfl ?_
           refine o_callV (ivAdd _ _ (damF f u)) rfl rfl ?_
           refine d_on (fun _ m => m.keeps (.cons _ (.refl _))) ?_
           refine d_tv 17 rfl rfl (by kernel_rfl) rfl (.cons _ (.refl _)) rfl (v_build (pl := [(0, 2), (2, 2), (4, 2)]) he he rfl rfl) ?_
           refine d_tv 18 rfl rfl (by kernel_rfl) rfl (.cons _ (.refl _)) rfl (v_fieldAddr he rfl) ?_
           refine d_one 19 (by kernel_rfl) rfl ?_
           refine o_st _ _ he rfl rfl rfl rfl rfl rfl rfl ?_
           refine d_on (fun _ m => m.keeps (.cons _ (.refl _))) ?_
           refine d_done (by kernel_rfl) ?_
           refine go 1 ?_
           exact q_cut sb (by rw [hv] <;> rfl) rfl
          ·refine o_val rfl (v_ldp ((runL f c l 40000).1[i].life.cycles.cells) m0 he rfl rfl rfl) ?_
           refine d_on (fun _ m => m.keeps (.cons _ (.refl _))) ?_
           refine d_one 5 (by kernel_rfl) rfl ?_
           refine o_callV (ivAdd _ _ u.km) rfl rfl ?_
           refine d_on (fun _ m => m.keeps (.cons _ (.refl _))) ?_
           refine d_one 11 (by kernel_rfl) rfl ?_
           refine o_callV (ivAdd _ _ u.cycles) rfl rfl ?_
           refine d_on (fun _ m => m.keeps (.cons _ (.refl _))) ?_
           refine d_one 16 (by kernel_rfl) rfl ?_
           refine o_callV (ivAdd _ _ (damF f u)) rfl rfl ?_
           refine d_on (fun _ m => m.keeps (.cons _ (.refl _))) ?_
           refine d_tv 17 rfl rfl (by kernel_rfl) rfl (.cons _ (.refl _)) rfl (v_build (pl := [(0, 2), (2, 2), (4, 2)]) he he rfl rfl) ?_
           refine d_tv 18 rfl rfl (by kernel_rfl) rfl (.cons _ (.refl _)) rfl (v_fieldAddr he rfl) ?_
           refine d_one 19 (by kernel_rfl) rfl ?_
           refine o_st _ _ he rfl rfl rfl rfl rfl rfl rfl ?_
           refine d_on (fun _ m => m.keeps (.cons _ (.refl _))) ?_
           refine d_done (by kernel_rfl) ?_
           refine go 1 ?_
           exact q_cut sb (by rw [hv] <;> rfl) rfl
         ·refine o_val rfl (v_ldp ((runL f c l 40000).1[i].life.cycles.cells) m0 he rfl rfl rfl) ?_
          refine d_on (fun _ m => m.keeps (.cons _ (.refl _))) ?_
          refine d_one 2 (by kernel_rfl) rfl ?_
          refine o_val rfl (v_ldp ((runL f c l 40000).1[i].life.km.cells) m0 he rfl rfl rfl) ?_
          refine d_on (fun _ m => m.keeps (.cons _ (.refl _))) ?_
          refine d_one 5 (by kernel_rfl) rfl ?_
          refine o_callV (ivAdd _ _ u.km) rfl rfl ?_
          refine d_on (fun _ m => m.keeps (.cons _ (.refl _))) ?_
          refine d_one 11 (by kernel_rfl) rfl ?_
          refine o_callV (ivAdd _ _ u.cycles) rfl rfl ?_
          refine d_on (fun _ m => m.keeps (.cons _ (.refl _))) ?_
          refine d_one 16 (by kernel_rfl) rfl ?_
          refine o_callV (ivAdd _ _ (damF f u)) rfl rfl ?_
          refine d_on (fun _ m => m.keeps (.cons _ (.refl _))) ?_
          refine d_tv 17 rfl rfl (by kernel_rfl) rfl (.cons _ (.refl _)) rfl (v_build (pl := [(0, 2), (2, 2), (4, 2)]) he he rfl rfl) ?_
          refine d_tv 18 rfl rfl (by kernel_rfl) rfl (.cons _ (.refl _)) rfl (v_fieldAddr he rfl) ?_
          refine d_one 19 (by kernel_rfl) rfl ?_
          refine o_st _ _ he rfl rfl rfl rfl rfl rfl rfl ?_
          refine d_on (fun _ m => m.keeps (.cons _ (.refl _))) ?_
          refine d_done (by kernel_rfl) ?_
          refine go 1 ?_
          exact q_cut sb (by rw [hv] <;> rfl) rfl
       ·have hv := hbi.trans (hN (fun h => by rw [hb73.2 h] at h73; cases h73))
        refine go 2 ?_
        exact q_cut sb (by rw [hv] <;> rfl) rfl
      ·refine go 5 ?_
       refine o_callV (samePart_t _ (runL f c (l ++ [(⟨4, 40000, s, nil8, nil8, nil8, nil8, nil8, u⟩ : Evt)]) 40000).1[i] qa qb (by rw [hbi, hpp]; exact hqa) hqb) rfl rfl ?_
       refine go 3 ?_
       refine c_false rfl ?_
       refine go 9 ?_
       refine sx_drop ?_
       refine sx_drop ?_
       exact q_next (i + 1) (by omega) (by omega) rfl sb rfl
    ·refine go 12 ?_
     refine fin1 rfl rfl ?_
     exact q_vI rfl

end Go.Proofs.YthcefohbbfjjfaaGreat

/- The law LifeRuns holds of the given program, for every input. No condition. -/
namespace Go.Proofs.YthcefohbbfjjfaaGreat
open Go Go.Sx
set_option linter.all false
theorem T.cel_111 : Tryz.prog.cellsOf 111 = 3 := by kernel_rfl
theorem T.cel_113 : Tryz.prog.cellsOf 113 = 3 := by kernel_rfl
theorem T.cel_24 : Tryz.prog.cellsOf 24 = 1 := by kernel_rfl
theorem T.cel_27 : Tryz.prog.cellsOf 27 = 3 := by kernel_rfl
theorem T.cel_29 : Tryz.prog.cellsOf 29 = 4 := by kernel_rfl
theorem T.cel_32 : Tryz.prog.cellsOf 32 = 2 := by kernel_rfl
theorem T.cel_34 : Tryz.prog.cellsOf 34 = 6 := by kernel_rfl
theorem T.cel_43 : Tryz.prog.cellsOf 43 = 14 := by kernel_rfl
theorem T.cel_9 : Tryz.prog.cellsOf 9 = 1 := by kernel_rfl
instance T.fds_111 : Has (fieldsK Tryz.prog 111) [(9, 0, 1), (4, 1, 1), (109, 2, 1)] := ⟨by kernel_rfl⟩
instance T.fds_113 : Has (fieldsK Tryz.prog 113) [(9, 0, 1), (63, 1, 1), (3, 2, 1)] := ⟨by kernel_rfl⟩
instance T.fds_24 : Has (fieldsK Tryz.prog 24) [(22, 0, 1)] := ⟨by kernel_rfl⟩
instance T.fds_27 : Has (fieldsK Tryz.prog 27) [(3, 0, 1), (3, 1, 1), (25, 2, 1)] := ⟨by kernel_rfl⟩
instance T.fds_29 : Has (fieldsK Tryz.prog 29) [(24, 0, 1), (27, 1, 3)] := ⟨by kernel_rfl⟩
instance T.fds_32 : Has (fieldsK Tryz.prog 32) [(3, 0, 1), (3, 1, 1)] := ⟨by kernel_rfl⟩
instance T.fds_34 : Has (fieldsK Tryz.prog 34) [(32, 0, 2), (32, 2, 2), (32, 4, 2)] := ⟨by kernel_rfl⟩
instance T.fds_43 : Has (fieldsK Tryz.prog 43) [(3, 0, 1), (3, 1, 1), (9, 2, 1), (9, 3, 1), (9, 4, 1), (9, 5, 1), (9, 6, 1), (9, 7, 1), (34, 8, 6)] := ⟨by kernel_rfl⟩
namespace lawLifeRuns
open Go.ChangeShapes Go.WideShapes Go.ChangeAt Go.RowKit Go.ChangeMaps Go.MapKept
theorem own : ownKnob Tryz.prog.godebug = none := by kernel_rfl
set_option maxRecDepth 100000 in
theorem lifted (os : Os) (started : os.Started) (H : Type) (enc : TypeId × Value → H) :
    ReturnsInHanded {} Tryz.checked os 3 .any (Rows.lifeRunsSpec.pre6 enc Tryz.prog Tryz.f3 Rows.lifeRunsRow.domain false) (Rows.lifeRunsSpec.post enc Tryz.prog Tryz.f3 false true false false) := by
  refine returnsInHanded_of_change (C := Tryz.checked) own started (by kernel_rfl) Tryz.func3
    (ChangeSpec.witness6 (enc := enc) (C := Tryz.checked) false ⟨#[], #[.agg #[.slice none 0 0, .int .i64 0, .int .i64 0, .slice none 0 0], .slice none 0 0, .string ⟨#[]⟩, .agg #[.int .i64 0, .int .i64 0, .int .i64 0, .int .i64 0, .int .i64 0, .int .i64 0]], []⟩ 8 (by kernel_rfl) (by kernel_rfl) (by kernel_rfl) (by kernel_rfl)) ?_
  intro W base args ds gs before hval0 hW hcnd _
  have hval : ∀ (j : Nat) t v, Tryz.f3.params[j]? = some t → args[j]? = some v → Value.okWide Tryz.prog W .any base t v := hval0
  have hW' := hW
  obtain ⟨p, q, hA0, hV, rfl, hfz, hnd⟩ := hW
  have hA : DataW.TrodAll enc Tryz.prog W 0 (fun _ => true) true Tryz.f3.params.toList args.toList ds p := hA0
  rw [Tryz.params3] at hA hval
  obtain ⟨v0, vs0, d0, ds0, p0, q0, hargs, rfl, rfl, h0, r0⟩ := trodAll_cons hA
  obtain ⟨v1, vs1, d1, ds1, p1, q1, rfl, rfl, rfl, h1, r1⟩ := trodAll_cons r0
  obtain ⟨v2, vs2, d2, ds2, p2, q2, rfl, rfl, rfl, h2, r2⟩ := trodAll_cons r1
  obtain ⟨v3, vs3, d3, ds3, p3, q3, rfl, rfl, rfl, h3, r3⟩ := trodAll_cons r2
  obtain ⟨rfl, rfl, rfl⟩ := trodAll_nil r3
  obtain rfl : args = #[v0, v1, v2, v3] := by cases args; simp_all
  obtain ⟨rfl, rfl⟩ := trodVars_none hV
  clear hA0 hval0
  obtain ⟨cs0, rfl, hz0⟩ := okWide_agg T.fds_29.eq (hval 0 29 v0 rfl rfl)
  obtain ⟨fu0, hf0⟩ := h0
  obtain ⟨x0, ⟨vc0, sf0, e0, R0, F0⟩, G0⟩ := (opens_setup T.fds_29.eq T.cel_29 (opens_wrap T.fds_24.eq T.cel_24 (opens_slice T.und_22.eq T.cel_111 rfl (opens_kind T.fds_111.eq T.cel_111 (opens_string T.und_9.eq) (opens_bool T.und_4.eq) (opens_slice T.und_109.eq T.cel_113 rfl (opens_slot T.fds_113.eq T.cel_113 (opens_string T.und_9.eq) (opens_slice T.und_63.eq T.cel_9 rfl (opens_string T.und_9.eq)) (opens_int T.und_3.eq)))))) (opens_form T.fds_27.eq T.cel_27 T.und_25.eq T.und_3.eq)) enc W 0 _ true fu0 _ _ hf0
  obtain rfl : cs0 = #[vc0, ci x0.dam.op, ci x0.dam.n, sf0] := Array.toList_inj.1 e0
  obtain ⟨s1, n1, c1, rfl⟩ := okWide_slice T.und_30.eq (hval 1 30 v1 rfl rfl)
  obtain ⟨fu1, hf1⟩ := h1
  obtain ⟨l1, ⟨u1, e1, R1⟩, G1⟩ := (opens_slice T.und_30.eq T.cel_43 rfl (opens_evt T.fds_43.eq T.cel_43 (opens_int T.und_3.eq) (opens_string T.und_9.eq) (opens_use T.fds_34.eq T.cel_34 (opens_ivl T.fds_32.eq T.cel_32 (opens_int T.und_3.eq))))) enc W 0 _ true fu1 _ _ hf1
  cases e1
  obtain ⟨a2, rfl, rfl, rfl, w2⟩ := open_string T.und_9.eq (hval 2 9 v2 rfl rfl) h2
  obtain ⟨cs3, rfl, hz3⟩ := okWide_agg T.fds_34.eq (hval 3 34 v3 rfl rfl)
  obtain ⟨fu3, hf3⟩ := h3
  obtain ⟨x3, e3, G3⟩ := (opens_use T.fds_34.eq T.cel_34 (opens_ivl T.fds_32.eq T.cel_32 (opens_int T.und_3.eq))) enc W 0 _ true fu3 _ _ hf3
  obtain rfl : cs3 = x3.cells.toArray := Array.toList_inj.1 e3
  exact law_calls (s := Rows.lifeRunsSpec) Tryz.call3 (lawLRuns (Iw W) vc0 x0.kinds R0 G0.1 x0.dam sf0 F0 G0.2 _ l1 R1 G1 a2 w2 x3 G3) hW' (by kernel_rfl) (by kernel_rfl) rfl T.und_4.eq rfl rfl
theorem over : Rows.lifeRunsRow.holds Tryz.pinned (OpenSpec.ofChange Rows.lifeRunsSpec) :=
  OpenClaim.holds_of_wide 3 Tryz.f3 rfl rfl rfl rfl rfl rfl rfl ⟨rfl, rfl, rfl, rfl, rfl⟩ rfl rfl rfl rfl rfl (by kernel_rfl) Tryz.func3 (by kernel_rfl)
    (of_decide_eq_true (by kernel_rfl)) (by unfold Func.isWrapper; first | (rw [if_pos (by decide +kernel)]; kernel_rfl) | (rw [if_neg (by decide +kernel)]; exact ⟨rfl, rfl⟩))
    (fun os started H enc _ => lifted os started H enc)
/-- the statement -/
theorem proved : Rows.LifeRunsSaid := over
end lawLifeRuns
end Go.Proofs.YthcefohbbfjjfaaGreat

