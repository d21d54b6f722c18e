/- The law LifeLater holds of the given program, for every input. No condition. -/
import Derived.Test.YthcefohbbfjjfaaGreatZLae
import Derived.ChangeMaps5
import Derived.OpenShut
import Derived.ProofKit
import Derived.Test.YthcefohbbfjjfaaGreatRows
/- Walks, printed by a program out of the code of the functions: each theorem is a contract of one function. -/
namespace Go.Proofs.YthcefohbbfjjfaaGreat
open Go Go.Sx
set_option linter.all false
set_option maxRecDepth 20000
set_option maxHeartbeats 4000000
instance T.und_62 : Has (Tryz.prog.underlying 62) (.int .u16) := ⟨by kernel_rfl⟩
theorem law12least_t (I : IMap) (a b : Ivl) (h : leastI a b = true) : FnV Tryz.prog 24 #[.agg a.cells.toArray, .agg b.cells.toArray] I (.bool true) := by
  have := law12least I a b
  rwa [h] at this

theorem lawLLater (I : IMap) (vc : Value) (c : List Kind) (hvc : RdS I vc c) (hoc : ∀ x ∈ c, OkKd x) (f : Fm) (sf : Value) (hf : FmRd I [ci f.op, ci f.n, sf] f) (hof : OkFm f) (v : Value) (l : List Evt) (hv : RdS I v l) (hok : ∀ x ∈ l, OkE x) (a0 : Int) (w0 : (Lit.int .u16 a0).wf = true) (b0 : Int) (w1 : (Lit.int .u16 b0).wf = true) :
    FnV Tryz.prog 7 #[.agg #[vc, ci f.op, ci f.n, sf], v, .int .u16 a0, .int .u16 b0] I (.bool true) := by
 obtain ⟨a, rfl, ha⟩ := u16_nat w0
 obtain ⟨b, rfl, hb⟩ := u16_nat w1
 have hv0 := hv
 obtain ⟨A, c0, rfl, hA, hc, hm⟩ := hv0
 refine enter Tryz.func7 Tryz.call7 rfl Tryz.ntmps7 rfl (fun w0 => ?_)
 refine go 3 ?_
 refine o_box _ rfl rfl rfl (fun g4 => ?_)
 refine go 6 ?_
 refine o_callV (head12 _) rfl rfl ?_
 refine go 9 ?_
 refine o_callV (law12few _ vc c hvc f sf hf _ l hv) rfl rfl ?_
 refine go 3 ?_
 refine cb rfl (fun h28 p28 => ?_) (fun h28 p28 => ?_)
 ·refine go 8 ?_
  refine fin1 rfl rfl ?_
  exact q_vI rfl
 ·have hfw : few12 c f l 24 = true := by simpa using h28
  obtain ⟨hsc, hl, hse⟩ := few12_sm (n := 24) hfw
  have hl6 : l.length ≤ 1000000 := by omega
  refine go 6 ?_
  refine o_v rfl (OV.cast (u := .int .u16 (((min a b : Nat) : Int))) (v_iminK rfl rfl) (congrArg (Value.int .u16) (by omega))) ?_
  refine o_v rfl (v_conv he he rfl (m := ((min a b : Nat) : Int)) (by rw [IntKind.wrap_i64]; omega)) ?_
  refine go 2 ?_
  refine o_v rfl (OV.cast (u := .int .u16 (((max a b : Nat) : Int))) (v_imaxK rfl rfl) (congrArg (Value.int .u16) (by omega))) ?_
  refine o_v rfl (v_conv he he rfl (m := ((max a b : Nat) : Int)) (by rw [IntKind.wrap_i64]; omega)) ?_
  refine go 10 ?_
  refine o_call (lifeRun _ vc c hvc hsc f sf hf _ l hv (by omega) hse ((min a b : Nat) : Int)) rfl rfl (fun v42 I42 j42 q42 => ?_)
  try have hvc := hvc.le j42
  try have hf := hf.le j42
  try have hv := hv.le j42
  try have hwa := hwa.le j42
  try have hwb := hwb.le j42
  try have hAa := hAa.le j42
  try have hAb := hAb.le j42
  try have hA := hA.le j42
  obtain ⟨wa, rfl, hwa⟩ := q42
  refine go 5 ?_
  refine o_alloc he rfl (fun g12 => ?_)
  refine go 1 ?_
  refine o_stw _ he rfl rfl rfl rfl rfl (by simp [RdS.one hwa]) ?_
  refine go 10 ?_
  refine o_call (lifeRun _ vc c hvc hsc f sf hf _ l hv (by omega) hse ((max a b : Nat) : Int)) rfl rfl (fun v50 I50 j50 q50 => ?_)
  try have hvc := hvc.le j50
  try have hf := hf.le j50
  try have hv := hv.le j50
  try have hwa := hwa.le j50
  try have hwb := hwb.le j50
  try have hAa := hAa.le j50
  try have hAb := hAb.le j50
  try have hA := hA.le j50
  obtain ⟨wb, rfl, hwb⟩ := q50
  have hwas := hwa
  have hwbs := hwb
  obtain ⟨Aa, cap1, rfl, hAa, hca, _⟩ := hwas
  obtain ⟨Ab, cap2, rfl, hAb, hcb, _⟩ := hwbs
  refine go 5 ?_
  refine o_alloc he rfl (fun g15 => ?_)
  refine go 1 ?_
  refine o_stw _ he rfl rfl rfl rfl rfl rfl ?_
  refine go 11 ?_
  refine cb rfl (fun h55 p55 => ?_) (fun h55 p55 => ?_)
  ·refine go 8 ?_
   refine fin1 rfl rfl ?_
   exact q_vI rfl
  ·have hb0 : (runL f c l ((max a b : Nat) : Int)).2.2 = 0 := by simpa using h55
   obtain ⟨ha0, hpl⟩ := life_later (f := f) (c := c) (l := l) (a := ((min a b : Nat) : Int)) (b := ((max a b : Nat) : Int)) (by omega) hb0
   refine go 6 ?_
   refine o_v rfl (OV.cast (u := .bool false) (v_neq rfl rfl) (congrArg Value.bool (by rw [ha0]; rfl))) ?_
   refine go 2 ?_
   refine c_false rfl ?_
   refine go 9 ?_
   refine bring2 ?_
   refine sx_drop ?_
   refine bring1 ?_
   refine c_loop (α := Nat) 0 (fun i => I50)
    (fun i => [(1, .slice A l.length c0), (9, .bool true), (10, .int .i64 ((min a b : Nat) : Int)), (11, .int .i64 ((max a b : Nat) : Int)), (12, .pointer (some ⟨g12, 0, none⟩)), (15, .pointer (some ⟨g15, 0, none⟩)), (18, .int .i64 ((i : Nat) : Int))])
    (fun i => [.blk g12 39 [.slice Aa (runL f c l ((min a b : Nat) : Int)).1.length cap1], .blk g15 39 [.slice Ab (runL f c l ((max a b : Nat) : Int)).1.length cap2]])
    (fun i => i ≤ (runL f c l ((min a b : Nat) : Int)).1.length)
    (fun i => (runL f c l ((min a b : Nat) : Int)).1.length - i) (Nat.zero_le _) rfl sb rfl ?_
   intro i hi
   refine go 10 ?_
   refine cb rfl (fun h63 p63 => ?_) (fun h63 p63 => ?_)
   ·have hlt : i < (runL f c l ((min a b : Nat) : Int)).1.length := by omega
    obtain ⟨q, hqf, hqx⟩ := hpl _ (List.getElem_mem hlt)
    refine go 9 ?_
    obtain ⟨b69, o69, w69, e69, c69, r69⟩ := RdA.at_ hAa (i := i) hlt
    obtain ⟨q69, rfl, hq69⟩ := r69
    refine o_v rfl (v_idx he rfl rfl e69 (i) (by omega) hlt) ?_
    refine o_v rfl (v_ldIa he rfl c69 rfl) ?_
    refine go 1 ?_
    refine o_alloc he rfl (fun g19 => ?_)
    refine go 1 ?_
    refine o_stw _ he rfl rfl rfl rfl rfl (Enc.one (α := Part) (x := (runL f c l ((min a b : Nat) : Int)).1[i]) ⟨q69, rfl, hq69⟩) ?_
    refine go 8 ?_
    refine o_callE (flFind _ _ (runL f c l ((max a b : Nat) : Int)).1 hwb (runL f c l ((min a b : Nat) : Int)).1[i].name) rfl rfl (fun v75 q75 => ?_)
    obtain ⟨vs75, rfl, s75, rfl, hs75⟩ := q75
    refine go 2 ?_
    refine o_v rfl (OV.cast (u := .bool true) (v_extract rfl rfl) (congrArg Value.bool (by rw [hqf]; rfl))) ?_
    refine go 1 ?_
    refine o_alloc he rfl (fun g20 => ?_)
    refine go 1 ?_
    refine o_stw _ he rfl rfl rfl rfl rfl (Enc.one (α := Part) (x := ((findP (runL f c l ((max a b : Nat) : Int)).1 (runL f c l ((min a b : Nat) : Int)).1[i].name).getD zPart)) ⟨s75, rfl, hs75⟩) ?_
    refine go 15 ?_
    refine bring3 ?_
    refine bring3 ?_
    refine bring2 ?_
    refine bring3 ?_
    refine c_loop (α := Nat) 0 (fun k => I50)
     (fun k => [(1, .slice A l.length c0), (9, .bool true), (10, .int .i64 ((min a b : Nat) : Int)), (11, .int .i64 ((max a b : Nat) : Int)), (12, .pointer (some ⟨g12, 0, none⟩)), (15, .pointer (some ⟨g15, 0, none⟩)), (18, .int .i64 ((i : Nat) : Int)), (19, .pointer (some ⟨g19, 0, none⟩)), (20, .pointer (some ⟨g20, 0, none⟩)), (21, .bool true), (22, .bool (frTo l (runL f c l ((min a b : Nat) : Int)).1[i].name ((min a b : Nat) : Int) ((max a b : Nat) : Int) (k))), (23, .int .i64 ((k : Nat) : Int))])
     (fun k => [.blk g19 49 ((runL f c l ((min a b : Nat) : Int)).1[i].cells q69), .blk g20 49 (((findP (runL f c l ((max a b : Nat) : Int)).1 (runL f c l ((min a b : Nat) : Int)).1[i].name).getD zPart).cells s75), .blk g12 39 [.slice Aa (runL f c l ((min a b : Nat) : Int)).1.length cap1], .blk g15 39 [.slice Ab (runL f c l ((max a b : Nat) : Int)).1.length cap2]])
     (fun k => k ≤ l.length)
     (fun k => l.length - k) (Nat.zero_le _) rfl sb rfl ?_
    intro k hk
    refine go 9 ?_
    refine cb rfl (fun h81 p81 => ?_) (fun h81 p81 => ?_)
    ·have hlk : k < l.length := by omega
     refine go 3 ?_
     refine c_cut (I' := I50) (L' := [(1, .slice A l.length c0), (9, .bool true), (10, .int .i64 ((min a b : Nat) : Int)), (11, .int .i64 ((max a b : Nat) : Int)), (12, .pointer (some ⟨g12, 0, none⟩)), (15, .pointer (some ⟨g15, 0, none⟩)), (18, .int .i64 ((i : Nat) : Int)), (19, .pointer (some ⟨g19, 0, none⟩)), (20, .pointer (some ⟨g20, 0, none⟩)), (21, .bool true), (22, .bool (frTo l (runL f c l ((min a b : Nat) : Int)).1[i].name ((min a b : Nat) : Int) ((max a b : Nat) : Int) (k + 1))), (23, .int .i64 ((k : Nat) : Int))]) (H' := [.blk g19 49 ((runL f c l ((min a b : Nat) : Int)).1[i].cells q69), .blk g20 49 (((findP (runL f c l ((max a b : Nat) : Int)).1 (runL f c l ((min a b : Nat) : Int)).1[i].name).getD zPart).cells s75), .blk g12 39 [.slice Aa (runL f c l ((min a b : Nat) : Int)).1.length cap1], .blk g15 39 [.slice Ab (runL f c l ((max a b : Nat) : Int)).1.length cap2]]) ?_ ?_
     ·refine go 1 ?_
      refine d_startH T.mixed ?_
      refine d_tv 0 rfl rfl (by kernel_rfl) rfl (.refl _) rfl (v_move rfl) ?_
      refine d_tv 1 rfl rfl (by kernel_rfl) rfl (.refl _) rfl (v_move rfl) ?_
      refine sxb 85 rfl (fun h85 p85 => ?_) (fun h85 p85 => ?_)
      ·refine d_t 2 rfl rfl (by kernel_rfl) rfl (fun _ m => m.keeps (.refl _)) (y_no rfl rfl h85) ?_
       refine d_t 3 rfl rfl (by kernel_rfl) rfl (fun _ m => m.keeps (.refl _)) (y_no rfl rfl h85) ?_
       refine d_t 4 rfl rfl (by kernel_rfl) rfl (fun _ m => m.keeps (.refl _)) (y_no rfl rfl h85) ?_
       refine d_t 5 rfl rfl (by kernel_rfl) rfl (fun _ m => m.keeps (.refl _)) (y_no rfl rfl h85) ?_
       refine d_t 6 rfl rfl (by kernel_rfl) rfl (fun _ m => m.keeps (.refl _)) (y_no rfl rfl h85) ?_
       refine d_t 7 rfl rfl (by kernel_rfl) rfl (fun _ m => m.keeps (.refl _)) (y_no rfl rfl h85) ?_
       refine d_t 8 rfl rfl (by kernel_rfl) rfl (fun _ m => m.keeps (.refl _)) (y_no rfl rfl h85) ?_
       refine d_t 9 rfl rfl (by kernel_rfl) rfl (fun _ m => m.keeps (.refl _)) (y_nou rfl rfl) ?_
       refine d_t 10 rfl rfl (by kernel_rfl) rfl (fun _ m => m.keeps (.refl _)) (y_nou rfl rfl) ?_
       refine d_t 11 rfl rfl (by kernel_rfl) rfl (fun _ m => m.keeps (.refl _)) (y_nou rfl rfl) ?_
       refine d_t 12 rfl rfl (by kernel_rfl) rfl (fun _ m => m.keeps (.refl _)) (y_nou rfl rfl) ?_
       refine d_t 13 rfl rfl (by kernel_rfl) rfl (fun _ m => m.keeps (.refl _)) (y_nou rfl rfl) ?_
       refine d_t 14 rfl rfl (by kernel_rfl) rfl (fun _ m => m.keeps (.refl _)) (y_nou rfl rfl) ?_
       refine d_t 15 rfl rfl (by kernel_rfl) rfl (fun _ m => m.keeps (.refl _)) (y_nou rfl rfl) ?_
       refine d_t 16 rfl rfl (by kernel_rfl) rfl (fun _ m => m.keeps (.refl _)) (y_nou rfl rfl) ?_
       refine d_t 17 rfl rfl (by kernel_rfl) rfl (fun _ m => m.keeps (.refl _)) (y_no rfl rfl h85) ?_
       refine d_t 18 rfl rfl (by kernel_rfl) rfl (fun _ m => m.keeps (.refl _)) (y_no rfl rfl h85) ?_
       refine d_t 19 rfl rfl (by kernel_rfl) rfl (fun _ m => m.keeps (.refl _)) (y_nou rfl rfl) ?_
       refine d_t 20 rfl rfl (by kernel_rfl) rfl (fun _ m => m.keeps (.refl _)) (y_nou rfl rfl) ?_
       refine d_t 21 rfl rfl (by kernel_rfl) rfl (fun _ m => m.keeps (.refl _)) (y_nou rfl rfl) ?_
       refine d_t 22 rfl rfl (by kernel_rfl) rfl (fun _ m => m.keeps (.refl _)) (y_nou rfl rfl) ?_
       refine d_t 23 rfl rfl (by kernel_rfl) rfl (fun _ m => m.keeps (.refl _)) (y_nou rfl rfl) ?_
       refine d_t 24 rfl rfl (by kernel_rfl) rfl (fun _ m => m.keeps (.refl _)) (y_nou rfl rfl) ?_
       refine d_t 25 rfl rfl (by kernel_rfl) rfl (fun _ m => m.keeps (.refl _)) (y_nou rfl rfl) ?_
       refine d_t 26 rfl rfl (by kernel_rfl) rfl (fun _ m => m.keeps (.refl _)) (y_no rfl rfl h85) ?_
       refine d_t 27 rfl rfl (by kernel_rfl) rfl (fun _ m => m.keeps (.refl _)) (y_no rfl rfl h85) ?_
       refine d_t 28 rfl rfl (by kernel_rfl) rfl (fun _ m => m.keeps (.refl _)) (y_nou rfl rfl) ?_
       refine d_t 29 rfl rfl (by kernel_rfl) rfl (fun _ m => m.keeps (.refl _)) (y_nou rfl rfl) ?_
       refine d_t 30 rfl rfl (by kernel_rfl) rfl (fun _ m => m.keeps (.refl _)) (y_nou rfl rfl) ?_
       refine d_t 31 rfl rfl (by kernel_rfl) rfl (fun _ m => m.keeps (.refl _)) (y_nou rfl rfl) ?_
       refine d_t 32 rfl rfl (by kernel_rfl) rfl (fun _ m => m.keeps (.refl _)) (y_nou rfl rfl) ?_
       refine d_t 33 rfl rfl (by kernel_rfl) rfl (fun _ m => m.keeps (.refl _)) (y_nou rfl rfl) ?_
       refine d_t 34 rfl rfl (by kernel_rfl) rfl (fun _ m => m.keeps (.refl _)) (y_nou rfl rfl) ?_
       refine d_t 35 rfl rfl (by kernel_rfl) rfl (fun _ m => m.keeps (.refl _)) (y_no rfl rfl h85) ?_
       refine d_tv 36 rfl rfl (by kernel_rfl) rfl (.refl _) rfl (v_or_t h85 rfl) ?_
       refine d_tv 37 rfl rfl (by kernel_rfl) rfl (.refl _) rfl (v_assign rfl) ?_
       refine d_done (by kernel_rfl) ?_
       refine go 2 ?_
       exact q_cut ⟨rfl, rfl, rfl, rfl, rfl, rfl, rfl, rfl, rfl, rfl, (congrArg (fun b => some (Value.bool b)) (by simp only [fr_step hlk, frP, h81, h85, bS])), rfl, trivial⟩ rfl rfl
      ·refine d_t 2 rfl rfl (by kernel_rfl) rfl (fun _ m => m.keeps (.refl _)) (y_yes rfl rfl h85 (v_move rfl)) ?_
       refine d_t 3 rfl rfl (by kernel_rfl) rfl (fun _ m => m.keeps (.refl _)) (y_yes rfl rfl h85 (v_move rfl)) ?_
       obtain ⟨b88, o88, w88, e88, c88, r88⟩ := RdA.at_ hA (i := k) hlk
       obtain rfl := r88
       refine d_t 4 rfl rfl (by kernel_rfl) rfl (fun _ m => m.keeps (.refl _)) (y_yes rfl rfl h85 (v_idx he rfl rfl e88 (k) (by omega) hlk)) ?_
       refine d_t 5 rfl rfl (by kernel_rfl) rfl (fun _ m => m.keeps (.refl _)) (y_yes rfl rfl h85 (v_fieldAddr he rfl)) ?_
       refine d_t 6 rfl rfl (by kernel_rfl) rfl (fun _ m => m.keeps (.refl _)) (y_yes rfl rfl h85 (v_ldI he rfl (c88 0 _ rfl))) ?_
       refine d_t 7 rfl rfl (by kernel_rfl) rfl (fun _ m => m.keeps (.refl _)) (y_yes rfl rfl h85 (v_eql rfl rfl)) ?_
       refine d_t 8 rfl rfl (by kernel_rfl) rfl (fun _ m => m.keeps (.refl _)) (y_yes rfl rfl h85 (v_move rfl)) ?_
       refine sxb 92 rfl (fun h92 p92 => ?_) (fun h92 p92 => ?_)
       ·refine d_t 9 rfl rfl (by kernel_rfl) rfl (fun _ m => m.keeps (.refl _)) (y_yes rfl rfl h92 (v_move rfl)) ?_
        refine d_t 10 rfl rfl (by kernel_rfl) rfl (fun _ m => m.keeps (.refl _)) (y_yes rfl rfl h92 (v_move rfl)) ?_
        obtain ⟨b95, o95, w95, e95, c95, r95⟩ := RdA.at_ hA (i := k) hlk
        obtain rfl := r95
        refine d_t 11 rfl rfl (by kernel_rfl) rfl (fun _ m => m.keeps (.refl _)) (y_yes rfl rfl h92 (v_idx he rfl rfl e95 (k) (by omega) hlk)) ?_
        refine d_t 12 rfl rfl (by kernel_rfl) rfl (fun _ m => m.keeps (.refl _)) (y_yes rfl rfl h92 (v_fieldAddr he rfl)) ?_
        refine d_t 13 rfl rfl (by kernel_rfl) rfl (fun _ m => m.keeps (.refl _)) (y_yes rfl rfl h92 (v_ldI he rfl (c95 2 _ rfl))) ?_
        refine d_t 14 rfl rfl (by kernel_rfl) rfl (fun _ m => m.keeps (.refl _)) (y_yes rfl rfl h92 (v_fieldAddr he rfl)) ?_
        refine d_t 15 rfl rfl (by kernel_rfl) rfl (fun _ m => m.keeps (.refl _)) (y_yes rfl rfl h92 (v_ld m0 he rfl rfl)) ?_
        refine d_t 16 rfl rfl (by kernel_rfl) rfl (fun _ m => m.keeps (.refl _)) (y_yes rfl rfl h92 (v_seql rfl rfl)) ?_
        refine d_t 17 rfl rfl (by kernel_rfl) rfl (fun _ m => m.keeps (.refl _)) (y_yes rfl rfl h85 (v_and_t h92 rfl rfl)) ?_
        refine d_t 18 rfl rfl (by kernel_rfl) rfl (fun _ m => m.keeps (.refl _)) (y_yes rfl rfl h85 (v_move rfl)) ?_
        refine sxb 102 rfl (fun h102 p102 => ?_) (fun h102 p102 => ?_)
        ·refine d_t 19 rfl rfl (by kernel_rfl) rfl (fun _ m => m.keeps (.refl _)) (y_yes rfl rfl h102 (v_move rfl)) ?_
         refine d_t 20 rfl rfl (by kernel_rfl) rfl (fun _ m => m.keeps (.refl _)) (y_yes rfl rfl h102 (v_move rfl)) ?_
         obtain ⟨b105, o105, w105, e105, c105, r105⟩ := RdA.at_ hA (i := k) hlk
         obtain rfl := r105
         refine d_t 21 rfl rfl (by kernel_rfl) rfl (fun _ m => m.keeps (.refl _)) (y_yes rfl rfl h102 (v_idx he rfl rfl e105 (k) (by omega) hlk)) ?_
         refine d_t 22 rfl rfl (by kernel_rfl) rfl (fun _ m => m.keeps (.refl _)) (y_yes rfl rfl h102 (v_fieldAddr he rfl)) ?_
         refine d_t 23 rfl rfl (by kernel_rfl) rfl (fun _ m => m.keeps (.refl _)) (y_yes rfl rfl h102 (v_ldI he rfl (c105 1 _ rfl))) ?_
         refine d_t 24 rfl rfl (by kernel_rfl) rfl (fun _ m => m.keeps (.refl _)) (y_yes rfl rfl h102 (v_move rfl)) ?_
         refine d_t 25 rfl rfl (by kernel_rfl) rfl (fun _ m => m.keeps (.refl _)) (y_yes rfl rfl h102 (v_gtr rfl rfl)) ?_
         refine d_t 26 rfl rfl (by kernel_rfl) rfl (fun _ m => m.keeps (.refl _)) (y_yes rfl rfl h85 (v_and_t h102 rfl rfl)) ?_
         refine d_t 27 rfl rfl (by kernel_rfl) rfl (fun _ m => m.keeps (.refl _)) (y_yes rfl rfl h85 (v_move rfl)) ?_
         refine sxb 111 rfl (fun h111 p111 => ?_) (fun h111 p111 => ?_)
         ·refine d_t 28 rfl rfl (by kernel_rfl) rfl (fun _ m => m.keeps (.refl _)) (y_yes rfl rfl h111 (v_move rfl)) ?_
          refine d_t 29 rfl rfl (by kernel_rfl) rfl (fun _ m => m.keeps (.refl _)) (y_yes rfl rfl h111 (v_move rfl)) ?_
          obtain ⟨b114, o114, w114, e114, c114, r114⟩ := RdA.at_ hA (i := k) hlk
          obtain rfl := r114
          refine d_t 30 rfl rfl (by kernel_rfl) rfl (fun _ m => m.keeps (.refl _)) (y_yes rfl rfl h111 (v_idx he rfl rfl e114 (k) (by omega) hlk)) ?_
          refine d_t 31 rfl rfl (by kernel_rfl) rfl (fun _ m => m.keeps (.refl _)) (y_yes rfl rfl h111 (v_fieldAddr he rfl)) ?_
          refine d_t 32 rfl rfl (by kernel_rfl) rfl (fun _ m => m.keeps (.refl _)) (y_yes rfl rfl h111 (v_ldI he rfl (c114 1 _ rfl))) ?_
          refine d_t 33 rfl rfl (by kernel_rfl) rfl (fun _ m => m.keeps (.refl _)) (y_yes rfl rfl h111 (v_move rfl)) ?_
          refine d_t 34 rfl rfl (by kernel_rfl) rfl (fun _ m => m.keeps (.refl _)) (y_yes rfl rfl h111 (v_leq rfl rfl)) ?_
          refine d_t 35 rfl rfl (by kernel_rfl) rfl (fun _ m => m.keeps (.refl _)) (y_yes rfl rfl h85 (v_and_t h111 rfl rfl)) ?_
          refine d_tv 36 rfl rfl (by kernel_rfl) rfl (.refl _) rfl (v_or_f h85 rfl rfl) ?_
          refine d_tv 37 rfl rfl (by kernel_rfl) rfl (.refl _) rfl (v_assign rfl) ?_
          refine d_done (by kernel_rfl) ?_
          refine go 2 ?_
          exact q_cut ⟨rfl, rfl, rfl, rfl, rfl, rfl, rfl, rfl, rfl, rfl, (congrArg (fun b => some (Value.bool b)) (by simp only [fr_step hlk, frP, h81, h85, h92, h102, h111, bS])), rfl, trivial⟩ rfl rfl
         ·refine d_t 28 rfl rfl (by kernel_rfl) rfl (fun _ m => m.keeps (.refl _)) (y_no rfl rfl h111) ?_
          refine d_t 29 rfl rfl (by kernel_rfl) rfl (fun _ m => m.keeps (.refl _)) (y_no rfl rfl h111) ?_
          refine d_t 30 rfl rfl (by kernel_rfl) rfl (fun _ m => m.keeps (.refl _)) (y_no rfl rfl h111) ?_
          refine d_t 31 rfl rfl (by kernel_rfl) rfl (fun _ m => m.keeps (.refl _)) (y_no rfl rfl h111) ?_
          refine d_t 32 rfl rfl (by kernel_rfl) rfl (fun _ m => m.keeps (.refl _)) (y_no rfl rfl h111) ?_
          refine d_t 33 rfl rfl (by kernel_rfl) rfl (fun _ m => m.keeps (.refl _)) (y_no rfl rfl h111) ?_
          refine d_t 34 rfl rfl (by kernel_rfl) rfl (fun _ m => m.keeps (.refl _)) (y_no rfl rfl h111) ?_
          refine d_t 35 rfl rfl (by kernel_rfl) rfl (fun _ m => m.keeps (.refl _)) (y_yes rfl rfl h85 (v_and_f h111 rfl)) ?_
          refine d_tv 36 rfl rfl (by kernel_rfl) rfl (.refl _) rfl (v_or_f h85 rfl rfl) ?_
          refine d_tv 37 rfl rfl (by kernel_rfl) rfl (.refl _) rfl (v_assign rfl) ?_
          refine d_done (by kernel_rfl) ?_
          refine go 2 ?_
          exact q_cut ⟨rfl, rfl, rfl, rfl, rfl, rfl, rfl, rfl, rfl, rfl, (congrArg (fun b => some (Value.bool b)) (by simp only [fr_step hlk, frP, h81, h85, h92, h102, h111, bS])), rfl, trivial⟩ rfl rfl
        ·refine d_t 19 rfl rfl (by kernel_rfl) rfl (fun _ m => m.keeps (.refl _)) (y_no rfl rfl h102) ?_
         refine d_t 20 rfl rfl (by kernel_rfl) rfl (fun _ m => m.keeps (.refl _)) (y_no rfl rfl h102) ?_
         refine d_t 21 rfl rfl (by kernel_rfl) rfl (fun _ m => m.keeps (.refl _)) (y_no rfl rfl h102) ?_
         refine d_t 22 rfl rfl (by kernel_rfl) rfl (fun _ m => m.keeps (.refl _)) (y_no rfl rfl h102) ?_
         refine d_t 23 rfl rfl (by kernel_rfl) rfl (fun _ m => m.keeps (.refl _)) (y_no rfl rfl h102) ?_
         refine d_t 24 rfl rfl (by kernel_rfl) rfl (fun _ m => m.keeps (.refl _)) (y_no rfl rfl h102) ?_
         refine d_t 25 rfl rfl (by kernel_rfl) rfl (fun _ m => m.keeps (.refl _)) (y_no rfl rfl h102) ?_
         refine d_t 26 rfl rfl (by kernel_rfl) rfl (fun _ m => m.keeps (.refl _)) (y_yes rfl rfl h85 (v_and_f h102 rfl)) ?_
         refine d_t 27 rfl rfl (by kernel_rfl) rfl (fun _ m => m.keeps (.refl _)) (y_yes rfl rfl h85 (v_move rfl)) ?_
         refine d_t 28 rfl rfl (by kernel_rfl) rfl (fun _ m => m.keeps (.refl _)) (y_no rfl rfl rfl) ?_
         refine d_t 29 rfl rfl (by kernel_rfl) rfl (fun _ m => m.keeps (.refl _)) (y_no rfl rfl rfl) ?_
         refine d_t 30 rfl rfl (by kernel_rfl) rfl (fun _ m => m.keeps (.refl _)) (y_no rfl rfl rfl) ?_
         refine d_t 31 rfl rfl (by kernel_rfl) rfl (fun _ m => m.keeps (.refl _)) (y_no rfl rfl rfl) ?_
         refine d_t 32 rfl rfl (by kernel_rfl) rfl (fun _ m => m.keeps (.refl _)) (y_no rfl rfl rfl) ?_
         refine d_t 33 rfl rfl (by kernel_rfl) rfl (fun _ m => m.keeps (.refl _)) (y_no rfl rfl rfl) ?_
         refine d_t 34 rfl rfl (by kernel_rfl) rfl (fun _ m => m.keeps (.refl _)) (y_no rfl rfl rfl) ?_
         refine d_t 35 rfl rfl (by kernel_rfl) rfl (fun _ m => m.keeps (.refl _)) (y_yes rfl rfl h85 (v_and_f rfl rfl)) ?_
         refine d_tv 36 rfl rfl (by kernel_rfl) rfl (.refl _) rfl (v_or_f h85 rfl rfl) ?_
         refine d_tv 37 rfl rfl (by kernel_rfl) rfl (.refl _) rfl (v_assign rfl) ?_
         refine d_done (by kernel_rfl) ?_
         refine go 2 ?_
         exact q_cut ⟨rfl, rfl, rfl, rfl, rfl, rfl, rfl, rfl, rfl, rfl, (congrArg (fun b => some (Value.bool b)) (by simp only [fr_step hlk, frP, h81, h85, h92, h102, bS])), rfl, trivial⟩ rfl rfl
       ·refine d_t 9 rfl rfl (by kernel_rfl) rfl (fun _ m => m.keeps (.refl _)) (y_no rfl rfl h92) ?_
        refine d_t 10 rfl rfl (by kernel_rfl) rfl (fun _ m => m.keeps (.refl _)) (y_no rfl rfl h92) ?_
        refine d_t 11 rfl rfl (by kernel_rfl) rfl (fun _ m => m.keeps (.refl _)) (y_no rfl rfl h92) ?_
        refine d_t 12 rfl rfl (by kernel_rfl) rfl (fun _ m => m.keeps (.refl _)) (y_no rfl rfl h92) ?_
        refine d_t 13 rfl rfl (by kernel_rfl) rfl (fun _ m => m.keeps (.refl _)) (y_no rfl rfl h92) ?_
        refine d_t 14 rfl rfl (by kernel_rfl) rfl (fun _ m => m.keeps (.refl _)) (y_no rfl rfl h92) ?_
        refine d_t 15 rfl rfl (by kernel_rfl) rfl (fun _ m => m.keeps (.refl _)) (y_no rfl rfl h92) ?_
        refine d_t 16 rfl rfl (by kernel_rfl) rfl (fun _ m => m.keeps (.refl _)) (y_no rfl rfl h92) ?_
        refine d_t 17 rfl rfl (by kernel_rfl) rfl (fun _ m => m.keeps (.refl _)) (y_yes rfl rfl h85 (v_and_f h92 rfl)) ?_
        refine d_t 18 rfl rfl (by kernel_rfl) rfl (fun _ m => m.keeps (.refl _)) (y_yes rfl rfl h85 (v_move rfl)) ?_
        refine d_t 19 rfl rfl (by kernel_rfl) rfl (fun _ m => m.keeps (.refl _)) (y_no rfl rfl rfl) ?_
        refine d_t 20 rfl rfl (by kernel_rfl) rfl (fun _ m => m.keeps (.refl _)) (y_no rfl rfl rfl) ?_
        refine d_t 21 rfl rfl (by kernel_rfl) rfl (fun _ m => m.keeps (.refl _)) (y_no rfl rfl rfl) ?_
        refine d_t 22 rfl rfl (by kernel_rfl) rfl (fun _ m => m.keeps (.refl _)) (y_no rfl rfl rfl) ?_
        refine d_t 23 rfl rfl (by kernel_rfl) rfl (fun _ m => m.keeps (.refl _)) (y_no rfl rfl rfl) ?_
        refine d_t 24 rfl rfl (by kernel_rfl) rfl (fun _ m => m.keeps (.refl _)) (y_no rfl rfl rfl) ?_
        refine d_t 25 rfl rfl (by kernel_rfl) rfl (fun _ m => m.keeps (.refl _)) (y_no rfl rfl rfl) ?_
        refine d_t 26 rfl rfl (by kernel_rfl) rfl (fun _ m => m.keeps (.refl _)) (y_yes rfl rfl h85 (v_and_f rfl rfl)) ?_
        refine d_t 27 rfl rfl (by kernel_rfl) rfl (fun _ m => m.keeps (.refl _)) (y_yes rfl rfl h85 (v_move rfl)) ?_
        refine d_t 28 rfl rfl (by kernel_rfl) rfl (fun _ m => m.keeps (.refl _)) (y_no rfl rfl rfl) ?_
        refine d_t 29 rfl rfl (by kernel_rfl) rfl (fun _ m => m.keeps (.refl _)) (y_no rfl rfl rfl) ?_
        refine d_t 30 rfl rfl (by kernel_rfl) rfl (fun _ m => m.keeps (.refl _)) (y_no rfl rfl rfl) ?_
        refine d_t 31 rfl rfl (by kernel_rfl) rfl (fun _ m => m.keeps (.refl _)) (y_no rfl rfl rfl) ?_
        refine d_t 32 rfl rfl (by kernel_rfl) rfl (fun _ m => m.keeps (.refl _)) (y_no rfl rfl rfl) ?_
        refine d_t 33 rfl rfl (by kernel_rfl) rfl (fun _ m => m.keeps (.refl _)) (y_no rfl rfl rfl) ?_
        refine d_t 34 rfl rfl (by kernel_rfl) rfl (fun _ m => m.keeps (.refl _)) (y_no rfl rfl rfl) ?_
        refine d_t 35 rfl rfl (by kernel_rfl) rfl (fun _ m => m.keeps (.refl _)) (y_yes rfl rfl h85 (v_and_f rfl rfl)) ?_
        refine d_tv 36 rfl rfl (by kernel_rfl) rfl (.refl _) rfl (v_or_f h85 rfl rfl) ?_
        refine d_tv 37 rfl rfl (by kernel_rfl) rfl (.refl _) rfl (v_assign rfl) ?_
        refine d_done (by kernel_rfl) ?_
        refine go 2 ?_
        exact q_cut ⟨rfl, rfl, rfl, rfl, rfl, rfl, rfl, rfl, rfl, rfl, (congrArg (fun b => some (Value.bool b)) (by simp only [fr_step hlk, frP, h81, h85, h92, bS])), rfl, trivial⟩ rfl rfl
     ·refine go 6 ?_
      exact q_next (k + 1) (by omega) (by omega) rfl sb rfl
    ·obtain rfl : k = l.length := by omega
     refine go 13 ?_
     refine sxb 126 rfl (fun h126 p126 => ?_) (fun h126 p126 => ?_)
     ·have hL : leastL (runL f c l ((min a b : Nat) : Int)).1[i].life ((findP (runL f c l ((max a b : Nat) : Int)).1 (runL f c l ((min a b : Nat) : Int)).1[i].name).getD zPart).life = true := by
        rcases hqx with h | h
        · exact absurd h (fr_all (by simpa using h126))
        · rw [hqf]; exact h
      simp only [leastL, Bool.and_eq_true] at hL
      refine go 2 ?_
      refine o_cons (o_yes rfl rfl h126 (o_val rfl (v_ldp ((runL f c l ((min a b : Nat) : Int)).1[i].life.km.cells) m0 he rfl rfl rfl) ?_))
      refine go 2 ?_
      refine o_cons (o_yes rfl rfl h126 (o_val rfl (v_ldp (((findP (runL f c l ((max a b : Nat) : Int)).1 (runL f c l ((min a b : Nat) : Int)).1[i].name).getD zPart).life.km.cells) m1 he rfl rfl rfl) ?_))
      refine go 1 ?_
      refine o_yes rfl rfl h126 (o_callV (law12least_t _ _ _ hL.1.1) rfl rfl ?_)
      refine go 3 ?_
      refine o_cons (o_yes rfl rfl rfl (o_val rfl (v_ldp ((runL f c l ((min a b : Nat) : Int)).1[i].life.cycles.cells) m0 he rfl rfl rfl) ?_))
      refine go 2 ?_
      refine o_cons (o_yes rfl rfl rfl (o_val rfl (v_ldp (((findP (runL f c l ((max a b : Nat) : Int)).1 (runL f c l ((min a b : Nat) : Int)).1[i].name).getD zPart).life.cycles.cells) m1 he rfl rfl rfl) ?_))
      refine go 1 ?_
      refine o_yes rfl rfl rfl (o_callV (law12least_t _ _ _ hL.1.2) rfl rfl ?_)
      refine go 4 ?_
      refine o_cons (o_yes rfl rfl rfl (o_val rfl (v_ldp ((runL f c l ((min a b : Nat) : Int)).1[i].life.damage.cells) m0 he rfl rfl rfl) ?_))
      refine go 2 ?_
      refine o_cons (o_yes rfl rfl rfl (o_val rfl (v_ldp (((findP (runL f c l ((max a b : Nat) : Int)).1 (runL f c l ((min a b : Nat) : Int)).1[i].name).getD zPart).life.damage.cells) m1 he rfl rfl rfl) ?_))
      refine go 1 ?_
      refine o_yes rfl rfl rfl (o_callV (law12least_t _ _ _ hL.2) rfl rfl ?_)
      refine go 6 ?_
      refine c_false rfl ?_
      refine go 9 ?_
      refine sx_drop ?_
      refine sx_drop ?_
      exact q_next (i + 1) (by omega) (by omega) rfl sb rfl
     ·refine go 30 ?_
      refine c_false rfl ?_
      refine go 9 ?_
      refine sx_drop ?_
      refine sx_drop ?_
      exact q_next (i + 1) (by omega) (by omega) rfl sb rfl
   ·refine go 12 ?_
    refine fin1 rfl rfl ?_
    exact q_vI rfl

end Go.Proofs.YthcefohbbfjjfaaGreat

/- The law LifeLater holds of the given program, for every input. No condition. -/
namespace Go.Proofs.YthcefohbbfjjfaaGreat
open Go Go.Sx
set_option linter.all false
theorem T.cel_111 : Tryz.prog.cellsOf 111 = 3 := by kernel_rfl
theorem T.cel_113 : Tryz.prog.cellsOf 113 = 3 := by kernel_rfl
theorem T.cel_24 : Tryz.prog.cellsOf 24 = 1 := by kernel_rfl
theorem T.cel_27 : Tryz.prog.cellsOf 27 = 3 := by kernel_rfl
theorem T.cel_29 : Tryz.prog.cellsOf 29 = 4 := by kernel_rfl
theorem T.cel_32 : Tryz.prog.cellsOf 32 = 2 := by kernel_rfl
theorem T.cel_34 : Tryz.prog.cellsOf 34 = 6 := by kernel_rfl
theorem T.cel_43 : Tryz.prog.cellsOf 43 = 14 := by kernel_rfl
theorem T.cel_9 : Tryz.prog.cellsOf 9 = 1 := by kernel_rfl
instance T.fds_111 : Has (fieldsK Tryz.prog 111) [(9, 0, 1), (4, 1, 1), (109, 2, 1)] := ⟨by kernel_rfl⟩
instance T.fds_113 : Has (fieldsK Tryz.prog 113) [(9, 0, 1), (63, 1, 1), (3, 2, 1)] := ⟨by kernel_rfl⟩
instance T.fds_24 : Has (fieldsK Tryz.prog 24) [(22, 0, 1)] := ⟨by kernel_rfl⟩
instance T.fds_27 : Has (fieldsK Tryz.prog 27) [(3, 0, 1), (3, 1, 1), (25, 2, 1)] := ⟨by kernel_rfl⟩
instance T.fds_29 : Has (fieldsK Tryz.prog 29) [(24, 0, 1), (27, 1, 3)] := ⟨by kernel_rfl⟩
instance T.fds_32 : Has (fieldsK Tryz.prog 32) [(3, 0, 1), (3, 1, 1)] := ⟨by kernel_rfl⟩
instance T.fds_34 : Has (fieldsK Tryz.prog 34) [(32, 0, 2), (32, 2, 2), (32, 4, 2)] := ⟨by kernel_rfl⟩
instance T.fds_43 : Has (fieldsK Tryz.prog 43) [(3, 0, 1), (3, 1, 1), (9, 2, 1), (9, 3, 1), (9, 4, 1), (9, 5, 1), (9, 6, 1), (9, 7, 1), (34, 8, 6)] := ⟨by kernel_rfl⟩
namespace lawLifeLater
open Go.ChangeShapes Go.WideShapes Go.ChangeAt Go.RowKit Go.ChangeMaps Go.MapKept
theorem own : ownKnob Tryz.prog.godebug = none := by kernel_rfl
set_option maxRecDepth 100000 in
theorem lifted (os : Os) (started : os.Started) (H : Type) (enc : TypeId × Value → H) :
    ReturnsInHanded {} Tryz.checked os 7 .any (Rows.lifeLaterSpec.pre6 enc Tryz.prog Tryz.f7 Rows.lifeLaterRow.domain false) (Rows.lifeLaterSpec.post enc Tryz.prog Tryz.f7 false true false false) := by
  refine returnsInHanded_of_change (C := Tryz.checked) own started (by kernel_rfl) Tryz.func7
    (ChangeSpec.witness6 (enc := enc) (C := Tryz.checked) false ⟨#[], #[.agg #[.slice none 0 0, .int .i64 0, .int .i64 0, .slice none 0 0], .slice none 0 0, .int .u16 0, .int .u16 0], []⟩ 8 (by kernel_rfl) (by kernel_rfl) (by kernel_rfl) (by kernel_rfl)) ?_
  intro W base args ds gs before hval0 hW hcnd _
  have hval : ∀ (j : Nat) t v, Tryz.f7.params[j]? = some t → args[j]? = some v → Value.okWide Tryz.prog W .any base t v := hval0
  have hW' := hW
  obtain ⟨p, q, hA0, hV, rfl, hfz, hnd⟩ := hW
  have hA : DataW.TrodAll enc Tryz.prog W 0 (fun _ => true) true Tryz.f7.params.toList args.toList ds p := hA0
  rw [Tryz.params7] at hA hval
  obtain ⟨v0, vs0, d0, ds0, p0, q0, hargs, rfl, rfl, h0, r0⟩ := trodAll_cons hA
  obtain ⟨v1, vs1, d1, ds1, p1, q1, rfl, rfl, rfl, h1, r1⟩ := trodAll_cons r0
  obtain ⟨v2, vs2, d2, ds2, p2, q2, rfl, rfl, rfl, h2, r2⟩ := trodAll_cons r1
  obtain ⟨v3, vs3, d3, ds3, p3, q3, rfl, rfl, rfl, h3, r3⟩ := trodAll_cons r2
  obtain ⟨rfl, rfl, rfl⟩ := trodAll_nil r3
  obtain rfl : args = #[v0, v1, v2, v3] := by cases args; simp_all
  obtain ⟨rfl, rfl⟩ := trodVars_none hV
  clear hA0 hval0
  obtain ⟨cs0, rfl, hz0⟩ := okWide_agg T.fds_29.eq (hval 0 29 v0 rfl rfl)
  obtain ⟨fu0, hf0⟩ := h0
  obtain ⟨x0, ⟨vc0, sf0, e0, R0, F0⟩, G0⟩ := (opens_setup T.fds_29.eq T.cel_29 (opens_wrap T.fds_24.eq T.cel_24 (opens_slice T.und_22.eq T.cel_111 rfl (opens_kind T.fds_111.eq T.cel_111 (opens_string T.und_9.eq) (opens_bool T.und_4.eq) (opens_slice T.und_109.eq T.cel_113 rfl (opens_slot T.fds_113.eq T.cel_113 (opens_string T.und_9.eq) (opens_slice T.und_63.eq T.cel_9 rfl (opens_string T.und_9.eq)) (opens_int T.und_3.eq)))))) (opens_form T.fds_27.eq T.cel_27 T.und_25.eq T.und_3.eq)) enc W 0 _ true fu0 _ _ hf0
  obtain rfl : cs0 = #[vc0, ci x0.dam.op, ci x0.dam.n, sf0] := Array.toList_inj.1 e0
  obtain ⟨s1, n1, c1, rfl⟩ := okWide_slice T.und_30.eq (hval 1 30 v1 rfl rfl)
  obtain ⟨fu1, hf1⟩ := h1
  obtain ⟨l1, ⟨u1, e1, R1⟩, G1⟩ := (opens_slice T.und_30.eq T.cel_43 rfl (opens_evt T.fds_43.eq T.cel_43 (opens_int T.und_3.eq) (opens_string T.und_9.eq) (opens_use T.fds_34.eq T.cel_34 (opens_ivl T.fds_32.eq T.cel_32 (opens_int T.und_3.eq))))) enc W 0 _ true fu1 _ _ hf1
  cases e1
  obtain ⟨a2, rfl, rfl, rfl, w2⟩ := open_int T.und_62.eq (hval 2 62 v2 rfl rfl) h2
  obtain ⟨a3, rfl, rfl, rfl, w3⟩ := open_int T.und_62.eq (hval 3 62 v3 rfl rfl) h3
  exact law_calls (s := Rows.lifeLaterSpec) Tryz.call7 (lawLLater (Iw W) vc0 x0.kinds R0 G0.1 x0.dam sf0 F0 G0.2 _ l1 R1 G1 a2 w2 a3 w3) hW' (by kernel_rfl) (by kernel_rfl) rfl T.und_4.eq rfl rfl
theorem over : Rows.lifeLaterRow.holds Tryz.pinned (OpenSpec.ofChange Rows.lifeLaterSpec) :=
  OpenClaim.holds_of_wide 7 Tryz.f7 rfl rfl rfl rfl rfl rfl rfl ⟨rfl, rfl, rfl, rfl, rfl⟩ rfl rfl rfl rfl rfl (by kernel_rfl) Tryz.func7 (by kernel_rfl)
    (of_decide_eq_true (by kernel_rfl)) (by unfold Func.isWrapper; first | (rw [if_pos (by decide +kernel)]; kernel_rfl) | (rw [if_neg (by decide +kernel)]; exact ⟨rfl, rfl⟩))
    (fun os started H enc _ => lifted os started H enc)
/-- the statement -/
theorem proved : Rows.LifeLaterSaid := over
end lawLifeLater
end Go.Proofs.YthcefohbbfjjfaaGreat

