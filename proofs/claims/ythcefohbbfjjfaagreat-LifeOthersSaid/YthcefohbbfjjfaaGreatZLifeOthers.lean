/- The law LifeOthers holds of the given program, for every input. No condition. -/
import Derived.Test.YthcefohbbfjjfaaGreatZLae
import Derived.ChangeMaps5
import Derived.OpenShut
import Derived.ProofKit
import Derived.Test.YthcefohbbfjjfaaGreatRows
/- Walks, printed by a program out of the code of the functions: each theorem is a contract of one function. -/
namespace Go.Proofs.YthcefohbbfjjfaaGreat
open Go Go.Sx
set_option linter.all false
set_option maxRecDepth 20000
set_option maxHeartbeats 4000000
instance T.und_62 : Has (Tryz.prog.underlying 62) (.int .u16) := ⟨by kernel_rfl⟩
theorem lawLOthers (I : IMap) (vc : Value) (c : List Kind) (hvc : RdS I vc c) (hoc : ∀ x ∈ c, OkKd x) (f : Fm) (sf : Value) (hf : FmRd I [ci f.op, ci f.n, sf] f) (hof : OkFm f) (v : Value) (l : List Evt) (hv : RdS I v l) (hok : ∀ x ∈ l, OkE x) (hbig : l.length * 160 ≤ 140737488351232) (e : Evt) (hoe : OkE e) :
    FnV Tryz.prog 6 #[.agg #[vc, ci f.op, ci f.n, sf], v, .agg e.cells.toArray] I (.bool true) := by
 refine enter Tryz.func6 Tryz.call6 rfl Tryz.ntmps6 rfl (fun w0 => ?_)
 refine go 3 ?_
 refine o_box _ rfl rfl rfl (fun g3 => ?_)
 refine go 1 ?_
 refine o_box _ rfl rfl rfl (fun g5 => ?_)
 refine go 6 ?_
 refine o_callV (head12 _) rfl rfl ?_
 refine go 7 ?_
 refine o_st1 he rfl rfl rfl rfl ?_
 refine go 4 ?_
 refine c_cutx (α := IMap) (Ix := (fun J => J)) (Lx := (fun J => [(1, v), (3, .pointer (some ⟨g3, 0, none⟩)), (5, .pointer (some ⟨g5, 0, none⟩)), (7, .bool true), (30, .bool (!few12 c f (l ++ [({ e with day := 40000 } : Evt)]) 24 || decide (e.op = 4)))])) (Hx := (fun J => [.blk g5 43 ({ e with day := 40000 } : Evt).cells, .blk g3 29 [vc, ci f.op, ci f.n, sf]])) (p := (fun J => ILe I J)) ?_ ?_
 ·refine sx_knowI (fun hE3 hf3 => ?_)
  refine d_startH T.mixed ?_
  refine d_tv 0 rfl rfl (by kernel_rfl) rfl (.refl _) rfl (v_ldw m1 he rfl rfl) ?_
  refine d_tv 2 rfl rfl (by kernel_rfl) rfl (.refl _) rfl (v_move rfl) ?_
  refine d_tv 4 rfl rfl (by kernel_rfl) rfl (.refl _) rfl (v_ldw m0 he rfl rfl) ?_
  refine d_two 1 5 (by kernel_rfl) rfl rfl ?_ ?_
  ·refine o_buildSlice he he rfl rfl rfl rfl rfl rfl rfl (fun v18 => ?_)
   refine d_on (fun _ m => m.keeps (.cons _ (.refl _))) ?_
   refine d_two 3 5 (by kernel_rfl) rfl rfl ?_ ?_
   ·refine o_appendR (hv) rfl he he rfl rfl rfl rfl (by omega) (by omega) rfl (fun v20 x20 f20 => ?_)
    refine d_on (fun _ m => m.keeps (.cons _ (.refl _))) ?_
    refine d_one 5 (by kernel_rfl) rfl ?_
    refine o_buildSlice he he rfl rfl rfl rfl rfl rfl rfl (fun v22 => ?_)
    refine d_on (fun _ m => m.keeps (.cons _ (.cons _ (.refl _)))) ?_
    refine d_one 6 (by kernel_rfl) rfl ?_
    refine bring1 ?_
    refine o_appendO he he rfl rfl rfl rfl rfl (by omega) (by omega) rfl (fun v23 => ?_)
    refine d_on (fun _ m => m.keeps (.cons _ (.cons _ (.refl _)))) ?_
    refine d_one 7 (by kernel_rfl) rfl ?_
    refine sx_pubrow (l := (l ++ [({ e with day := 40000 } : Evt)])) rfl (by simp) ((f20.append (.one (x := ({ e with day := 40000 } : Evt)) rfl))) (fun Ip jp Rp => ?_)
    try have hvc := hvc.le jp
    try have hf := hf.le jp
    try have hv := hv.le jp
    try have hwa := hwa.le jp
    try have hwb := hwb.le jp
    try have hAa := hAa.le jp
    try have hAb := hAb.le jp
    try have hA := hA.le jp
    refine o_callV (law12few _ vc c hvc f sf hf _ (l ++ [({ e with day := 40000 } : Evt)]) Rp) rfl rfl ?_
    refine d_on (fun _ m => m.keepsI (.cons _ (.refl _)) (jp) hE3 hf3) ?_
    refine d_t 8 rfl rfl (by kernel_rfl) rfl (fun _ m => m.keepsI (.cons _ (.refl _)) (jp) hE3 hf3) (y_v rfl (v_not rfl)) ?_
    refine d_t 9 rfl rfl (by kernel_rfl) rfl (fun _ m => m.keepsI (.cons _ (.refl _)) (jp) hE3 hf3) (y_v rfl (v_move rfl)) ?_
    refine sxb 26 rfl (fun h26 p26 => ?_) (fun h26 p26 => ?_)
    ·refine d_t 10 rfl rfl (by kernel_rfl) rfl (fun _ m => m.keepsI (.cons _ (.refl _)) (jp) hE3 hf3) (y_no rfl rfl h26) ?_
     refine d_t 11 rfl rfl (by kernel_rfl) rfl (fun _ m => m.keepsI (.cons _ (.refl _)) (jp) hE3 hf3) (y_no rfl rfl h26) ?_
     refine d_t 12 rfl rfl (by kernel_rfl) rfl (fun _ m => m.keepsI (.cons _ (.refl _)) (jp) hE3 hf3) (y_no rfl rfl h26) ?_
     refine d_t 13 rfl rfl (by kernel_rfl) rfl (fun _ m => m.keepsI (.cons _ (.refl _)) (jp) hE3 hf3) (y_v rfl (v_or_t h26 rfl)) ?_
     refine d_done (by kernel_rfl) ?_
     refine go 1 ?_
     refine sx_drop ?_
     exact q_cutx Ip jp ⟨rfl, rfl, rfl, rfl, (congrArg (fun b => some (Value.bool b)) (by simp only [h26, bS])), trivial⟩ rfl rfl
    ·refine d_t 10 rfl rfl (by kernel_rfl) rfl (fun _ m => m.keepsI (.cons _ (.refl _)) (jp) hE3 hf3) (y_yes rfl rfl h26 (v_fieldAddr he rfl)) ?_
     refine d_t 11 rfl rfl (by kernel_rfl) rfl (fun _ m => m.keepsI (.cons _ (.refl _)) (jp) hE3 hf3) (y_yes rfl rfl h26 (v_ld m0 he rfl rfl)) ?_
     refine d_t 12 rfl rfl (by kernel_rfl) rfl (fun _ m => m.keepsI (.cons _ (.refl _)) (jp) hE3 hf3) (y_yes rfl rfl h26 (v_eql rfl rfl)) ?_
     refine d_t 13 rfl rfl (by kernel_rfl) rfl (fun _ m => m.keepsI (.cons _ (.refl _)) (jp) hE3 hf3) (y_v rfl (v_or_f h26 rfl rfl)) ?_
     refine d_done (by kernel_rfl) ?_
     refine go 1 ?_
     refine sx_drop ?_
     exact q_cutx Ip jp ⟨rfl, rfl, rfl, rfl, (congrArg (fun b => some (Value.bool b)) (by simp only [h26, bS])), trivial⟩ rfl rfl
   ·refine o_buildSlice he he rfl rfl rfl rfl rfl rfl rfl (fun v22 => ?_)
    refine d_on (fun _ m => m.keeps (.cons _ (.cons _ (.refl _)))) ?_
    refine d_one 3 (by kernel_rfl) rfl ?_
    refine bring1 ?_
    refine o_appendR (hv) rfl he he rfl rfl rfl rfl (by omega) (by omega) rfl (fun v20 x20 f20 => ?_)
    refine d_on (fun _ m => m.keeps (.cons _ (.cons _ (.refl _)))) ?_
    refine d_one 6 (by kernel_rfl) rfl ?_
    refine bring1 ?_
    refine bring1 ?_
    refine o_appendO he he rfl rfl rfl rfl rfl (by omega) (by omega) rfl (fun v23 => ?_)
    refine d_on (fun _ m => m.keeps (.cons _ (.cons _ (.refl _)))) ?_
    refine d_one 7 (by kernel_rfl) rfl ?_
    refine sx_pubrow (l := (l ++ [({ e with day := 40000 } : Evt)])) rfl (by simp) ((f20.append (.one (x := ({ e with day := 40000 } : Evt)) rfl))) (fun Ip jp Rp => ?_)
    try have hvc := hvc.le jp
    try have hf := hf.le jp
    try have hv := hv.le jp
    try have hwa := hwa.le jp
    try have hwb := hwb.le jp
    try have hAa := hAa.le jp
    try have hAb := hAb.le jp
    try have hA := hA.le jp
    refine o_callV (law12few _ vc c hvc f sf hf _ (l ++ [({ e with day := 40000 } : Evt)]) Rp) rfl rfl ?_
    refine d_on (fun _ m => m.keepsI (.cons _ (.refl _)) (jp) hE3 hf3) ?_
    refine d_t 8 rfl rfl (by kernel_rfl) rfl (fun _ m => m.keepsI (.cons _ (.refl _)) (jp) hE3 hf3) (y_v rfl (v_not rfl)) ?_
    refine d_t 9 rfl rfl (by kernel_rfl) rfl (fun _ m => m.keepsI (.cons _ (.refl _)) (jp) hE3 hf3) (y_v rfl (v_move rfl)) ?_
    refine sxb 26 rfl (fun h26 p26 => ?_) (fun h26 p26 => ?_)
    ·refine d_t 10 rfl rfl (by kernel_rfl) rfl (fun _ m => m.keepsI (.cons _ (.refl _)) (jp) hE3 hf3) (y_no rfl rfl h26) ?_
     refine d_t 11 rfl rfl (by kernel_rfl) rfl (fun _ m => m.keepsI (.cons _ (.refl _)) (jp) hE3 hf3) (y_no rfl rfl h26) ?_
     refine d_t 12 rfl rfl (by kernel_rfl) rfl (fun _ m => m.keepsI (.cons _ (.refl _)) (jp) hE3 hf3) (y_no rfl rfl h26) ?_
     refine d_t 13 rfl rfl (by kernel_rfl) rfl (fun _ m => m.keepsI (.cons _ (.refl _)) (jp) hE3 hf3) (y_v rfl (v_or_t h26 rfl)) ?_
     refine d_done (by kernel_rfl) ?_
     refine go 1 ?_
     refine sx_drop ?_
     exact q_cutx Ip jp ⟨rfl, rfl, rfl, rfl, (congrArg (fun b => some (Value.bool b)) (by simp only [h26, bS])), trivial⟩ rfl rfl
    ·refine d_t 10 rfl rfl (by kernel_rfl) rfl (fun _ m => m.keepsI (.cons _ (.refl _)) (jp) hE3 hf3) (y_yes rfl rfl h26 (v_fieldAddr he rfl)) ?_
     refine d_t 11 rfl rfl (by kernel_rfl) rfl (fun _ m => m.keepsI (.cons _ (.refl _)) (jp) hE3 hf3) (y_yes rfl rfl h26 (v_ld m0 he rfl rfl)) ?_
     refine d_t 12 rfl rfl (by kernel_rfl) rfl (fun _ m => m.keepsI (.cons _ (.refl _)) (jp) hE3 hf3) (y_yes rfl rfl h26 (v_eql rfl rfl)) ?_
     refine d_t 13 rfl rfl (by kernel_rfl) rfl (fun _ m => m.keepsI (.cons _ (.refl _)) (jp) hE3 hf3) (y_v rfl (v_or_f h26 rfl rfl)) ?_
     refine d_done (by kernel_rfl) ?_
     refine go 1 ?_
     refine sx_drop ?_
     exact q_cutx Ip jp ⟨rfl, rfl, rfl, rfl, (congrArg (fun b => some (Value.bool b)) (by simp only [h26, bS])), trivial⟩ rfl rfl
  ·refine o_buildSlice he he rfl rfl rfl rfl rfl rfl rfl (fun v22 => ?_)
   refine d_on (fun _ m => m.keeps (.cons _ (.refl _))) ?_
   refine d_one 1 (by kernel_rfl) rfl ?_
   refine o_buildSlice he he rfl rfl rfl rfl rfl rfl rfl (fun v18 => ?_)
   refine d_on (fun _ m => m.keeps (.cons _ (.cons _ (.refl _)))) ?_
   refine d_one 3 (by kernel_rfl) rfl ?_
   refine o_appendR (hv) rfl he he rfl rfl rfl rfl (by omega) (by omega) rfl (fun v20 x20 f20 => ?_)
   refine d_on (fun _ m => m.keeps (.cons _ (.cons _ (.refl _)))) ?_
   refine d_one 6 (by kernel_rfl) rfl ?_
   refine bring1 ?_
   refine bring1 ?_
   refine o_appendO he he rfl rfl rfl rfl rfl (by omega) (by omega) rfl (fun v23 => ?_)
   refine d_on (fun _ m => m.keeps (.cons _ (.cons _ (.refl _)))) ?_
   refine d_one 7 (by kernel_rfl) rfl ?_
   refine sx_pubrow (l := (l ++ [({ e with day := 40000 } : Evt)])) rfl (by simp) ((f20.append (.one (x := ({ e with day := 40000 } : Evt)) rfl))) (fun Ip jp Rp => ?_)
   try have hvc := hvc.le jp
   try have hf := hf.le jp
   try have hv := hv.le jp
   try have hwa := hwa.le jp
   try have hwb := hwb.le jp
   try have hAa := hAa.le jp
   try have hAb := hAb.le jp
   try have hA := hA.le jp
   refine o_callV (law12few _ vc c hvc f sf hf _ (l ++ [({ e with day := 40000 } : Evt)]) Rp) rfl rfl ?_
   refine d_on (fun _ m => m.keepsI (.cons _ (.refl _)) (jp) hE3 hf3) ?_
   refine d_t 8 rfl rfl (by kernel_rfl) rfl (fun _ m => m.keepsI (.cons _ (.refl _)) (jp) hE3 hf3) (y_v rfl (v_not rfl)) ?_
   refine d_t 9 rfl rfl (by kernel_rfl) rfl (fun _ m => m.keepsI (.cons _ (.refl _)) (jp) hE3 hf3) (y_v rfl (v_move rfl)) ?_
   refine sxb 26 rfl (fun h26 p26 => ?_) (fun h26 p26 => ?_)
   ·refine d_t 10 rfl rfl (by kernel_rfl) rfl (fun _ m => m.keepsI (.cons _ (.refl _)) (jp) hE3 hf3) (y_no rfl rfl h26) ?_
    refine d_t 11 rfl rfl (by kernel_rfl) rfl (fun _ m => m.keepsI (.cons _ (.refl _)) (jp) hE3 hf3) (y_no rfl rfl h26) ?_
    refine d_t 12 rfl rfl (by kernel_rfl) rfl (fun _ m => m.keepsI (.cons _ (.refl _)) (jp) hE3 hf3) (y_no rfl rfl h26) ?_
    refine d_t 13 rfl rfl (by kernel_rfl) rfl (fun _ m => m.keepsI (.cons _ (.refl _)) (jp) hE3 hf3) (y_v rfl (v_or_t h26 rfl)) ?_
    refine d_done (by kernel_rfl) ?_
    refine go 1 ?_
    refine sx_drop ?_
    exact q_cutx Ip jp ⟨rfl, rfl, rfl, rfl, (congrArg (fun b => some (Value.bool b)) (by simp only [h26, bS])), trivial⟩ rfl rfl
   ·refine d_t 10 rfl rfl (by kernel_rfl) rfl (fun _ m => m.keepsI (.cons _ (.refl _)) (jp) hE3 hf3) (y_yes rfl rfl h26 (v_fieldAddr he rfl)) ?_
    refine d_t 11 rfl rfl (by kernel_rfl) rfl (fun _ m => m.keepsI (.cons _ (.refl _)) (jp) hE3 hf3) (y_yes rfl rfl h26 (v_ld m0 he rfl rfl)) ?_
    refine d_t 12 rfl rfl (by kernel_rfl) rfl (fun _ m => m.keepsI (.cons _ (.refl _)) (jp) hE3 hf3) (y_yes rfl rfl h26 (v_eql rfl rfl)) ?_
    refine d_t 13 rfl rfl (by kernel_rfl) rfl (fun _ m => m.keepsI (.cons _ (.refl _)) (jp) hE3 hf3) (y_v rfl (v_or_f h26 rfl rfl)) ?_
    refine d_done (by kernel_rfl) ?_
    refine go 1 ?_
    refine sx_drop ?_
    exact q_cutx Ip jp ⟨rfl, rfl, rfl, rfl, (congrArg (fun b => some (Value.bool b)) (by simp only [h26, bS])), trivial⟩ rfl rfl
 ·intro J hJ
  have hvc := hvc.le hJ
  have hf := hf.le hJ
  have hv := hv.le hJ
  refine cb rfl (fun h30 p30 => ?_) (fun h30 p30 => ?_)
  ·refine go 8 ?_
   refine fin1 rfl rfl ?_
   exact q_vI rfl
  ·have hfv : few12 c f (l ++ [({ e with day := 40000 } : Evt)]) 24 = true ∧ ¬ e.op = 4 := by simpa using h30
   obtain ⟨hfw, h4⟩ := hfv
   obtain ⟨hsc, hl1, hse1⟩ := few12_sm (n := 24) hfw
   rw [List.length_append, List.length_singleton] at hl1
   have hse : ∀ x ∈ l, SmE x := fun x hx => hse1 x (List.mem_append.2 (.inl hx))
   have hse2 : SmE ({ e with day := 40000 } : Evt) := hse1 _ (List.mem_append.2 (.inr (List.mem_singleton.2 rfl)))
   refine go 8 ?_
   refine o_call (law12after _ vc c hvc hsc f sf hf v l hv (by omega) hse ({ e with day := 40000 } : Evt) hse2) rfl rfl (fun v36 I36 j36 q36 => ?_)
   try have hvc := hvc.le j36
   try have hf := hf.le j36
   try have hv := hv.le j36
   try have hwa := hwa.le j36
   try have hwb := hwb.le j36
   try have hAa := hAa.le j36
   try have hAb := hAb.le j36
   try have hA := hA.le j36
   obtain ⟨wa, wb, rfl, hwa, hwb⟩ := q36
   have hwas := hwa
   have hwbs := hwb
   obtain ⟨Aa, cap1, rfl, hAa, hca, _⟩ := hwas
   obtain ⟨Ab, cap2, rfl, hAb, hcb, _⟩ := hwbs
   refine go 5 ?_
   refine o_alloc he rfl (fun g8 => ?_)
   refine go 1 ?_
   refine o_alloc he rfl (fun g9 => ?_)
   refine go 1 ?_
   refine bring1 ?_
   refine o_stw _ he rfl rfl rfl rfl rfl rfl ?_
   refine go 1 ?_
   refine bring1 ?_
   refine o_stw _ he rfl rfl rfl rfl rfl rfl ?_
   refine go 10 ?_
   refine cb rfl (fun h41 p41 => ?_) (fun h41 p41 => ?_)
   ·refine go 8 ?_
    refine fin1 rfl rfl ?_
    exact q_vI rfl
   ·have hab : (runL f c l 40000).2.2 = 0 ∧ (runL f c (l ++ [({ e with day := 40000 } : Evt)]) 40000).2.2 = 0 := by simpa using h41
    obtain ⟨hlen, hLO⟩ := life_others (f := f) (c := c) (e := ({ e with day := 40000 } : Evt)) h4 rfl hab.1 hab.2
    refine go 9 ?_
    refine bring3 ?_
    refine sx_drop ?_
    refine bring2 ?_
    refine bring1 ?_
    refine bring2 ?_
    refine c_loop (α := Nat) 0 (fun i => I36)
     (fun i => [(5, .pointer (some ⟨g5, 0, none⟩)), (7, .bool true), (8, .pointer (some ⟨g8, 0, none⟩)), (9, .pointer (some ⟨g9, 0, none⟩)), (11, .int .i64 ((i : Nat) : Int))])
     (fun i => [.blk g8 39 [.slice Aa (runL f c l 40000).1.length cap1], .blk g9 39 [.slice Ab (runL f c (l ++ [({ e with day := 40000 } : Evt)]) 40000).1.length cap2], .blk g5 43 ({ e with day := 40000 } : Evt).cells])
     (fun i => i ≤ (runL f c (l ++ [({ e with day := 40000 } : Evt)]) 40000).1.length)
     (fun i => (runL f c (l ++ [({ e with day := 40000 } : Evt)]) 40000).1.length - i) (Nat.zero_le _) rfl sb rfl ?_
    intro i hi
    refine go 10 ?_
    refine cb rfl (fun h47 p47 => ?_) (fun h47 p47 => ?_)
    ·have hlt : i < (runL f c (l ++ [({ e with day := 40000 } : Evt)]) 40000).1.length := by omega
     have hW : (if (!(findP (runL f c l 40000).1 (runL f c (l ++ [({ e with day := 40000 } : Evt)]) 40000).1[i].name).isSome || (decide (e.op = 5) && decide (e.part = ((findP (runL f c l 40000).1 (runL f c (l ++ [({ e with day := 40000 } : Evt)]) 40000).1[i].name).getD zPart).name))) = true then zLife else ((findP (runL f c l 40000).1 (runL f c (l ++ [({ e with day := 40000 } : Evt)]) 40000).1[i].name).getD zPart).life) = (runL f c (l ++ [({ e with day := 40000 } : Evt)]) 40000).1[i].life := by rw [hLO _ (List.getElem_mem hlt)]; exact others_w
     refine go 5 ?_
     refine c_cutx2 (Ix := (fun g12 s58 => I36)) (Lx := (fun g12 s58 => [(5, .pointer (some ⟨g5, 0, none⟩)), (7, .bool true), (8, .pointer (some ⟨g8, 0, none⟩)), (9, .pointer (some ⟨g9, 0, none⟩)), (11, .int .i64 ((i : Nat) : Int)), (12, .pointer (some ⟨g12, 0, none⟩)), (13, .bool (findP (runL f c l 40000).1 (runL f c (l ++ [({ e with day := 40000 } : Evt)]) 40000).1[i].name).isSome)])) (Hx := (fun g12 s58 => [.blk g12 49 (((findP (runL f c l 40000).1 (runL f c (l ++ [({ e with day := 40000 } : Evt)]) 40000).1[i].name).getD zPart).cells s58), .blk g8 39 [.slice Aa (runL f c l 40000).1.length cap1], .blk g9 39 [.slice Ab (runL f c (l ++ [({ e with day := 40000 } : Evt)]) 40000).1.length cap2], .blk g5 43 ({ e with day := 40000 } : Evt).cells])) (p := (fun g12 s58 => True)) ?_ ?_
     ·refine d_startH T.mixed ?_
      refine d_tv 0 rfl rfl (by kernel_rfl) rfl (.refl _) rfl (v_ldw m0 he rfl rfl) ?_
      refine d_tv 1 rfl rfl (by kernel_rfl) rfl (.refl _) rfl (v_fieldAddr he rfl) ?_
      refine d_tv 2 rfl rfl (by kernel_rfl) rfl (.refl _) rfl (v_ld m1 he rfl rfl) ?_
      refine d_tv 3 rfl rfl (by kernel_rfl) rfl (.refl _) rfl (v_move rfl) ?_
      obtain ⟨b55, o55, w55, e55, c55, r55⟩ := RdA.at_ hAb (i := i) hlt
      obtain ⟨q55, rfl, hq55⟩ := r55
      refine d_tv 4 rfl rfl (by kernel_rfl) rfl (.refl _) rfl (v_idx he rfl rfl e55 (i) (by omega) hlt) ?_
      refine d_tv 5 rfl rfl (by kernel_rfl) rfl (.refl _) rfl (v_fieldAddr he rfl) ?_
      refine d_tv 6 rfl rfl (by kernel_rfl) rfl (.refl _) rfl (v_ldI he rfl (c55 0 _ rfl)) ?_
      refine d_two 7 11 (by kernel_rfl) rfl rfl ?_ ?_
      ·refine o_callE (flFind _ _ (runL f c l 40000).1 hwa (runL f c (l ++ [({ e with day := 40000 } : Evt)]) 40000).1[i].name) rfl rfl (fun v58 q58 => ?_)
       obtain ⟨vs58, rfl, s58, rfl, hs58⟩ := q58
       refine d_on (fun _ m => m.keeps (.refl _)) ?_
       refine d_tv 8 rfl rfl (by kernel_rfl) rfl (.refl _) rfl (v_move rfl) ?_
       refine d_tv 9 rfl rfl (by kernel_rfl) rfl (.refl _) rfl (v_extract rfl rfl) ?_
       refine d_tv 10 rfl rfl (by kernel_rfl) rfl (.refl _) rfl (v_extract rfl rfl) ?_
       refine d_one 11 (by kernel_rfl) rfl ?_
       refine o_alloc he rfl (fun g12 => ?_)
       refine d_on (fun _ m => m.keeps (.cons _ (.refl _))) ?_
       refine d_one 12 (by kernel_rfl) rfl ?_
       refine o_stw _ he rfl rfl rfl rfl rfl (Enc.one (α := Part) (x := ((findP (runL f c l 40000).1 (runL f c (l ++ [({ e with day := 40000 } : Evt)]) 40000).1[i].name).getD zPart)) ⟨s58, rfl, hs58⟩) ?_
       refine d_on (fun _ m => m.keeps (.cons _ (.refl _))) ?_
       refine d_tv 13 rfl rfl (by kernel_rfl) rfl (.cons _ (.refl _)) rfl (v_assign rfl) ?_
       refine d_done (by kernel_rfl) ?_
       refine go 1 ?_
       exact q_cutx2 (g12) (s58) trivial sb rfl rfl
      ·refine o_alloc he rfl (fun g12 => ?_)
       refine d_on (fun _ m => m.keeps (.cons _ (.refl _))) ?_
       refine d_one 7 (by kernel_rfl) rfl ?_
       refine o_callE (flFind _ _ (runL f c l 40000).1 hwa (runL f c (l ++ [({ e with day := 40000 } : Evt)]) 40000).1[i].name) rfl rfl (fun v58 q58 => ?_)
       obtain ⟨vs58, rfl, s58, rfl, hs58⟩ := q58
       refine d_on (fun _ m => m.keeps (.cons _ (.refl _))) ?_
       refine d_tv 8 rfl rfl (by kernel_rfl) rfl (.cons _ (.refl _)) rfl (v_move rfl) ?_
       refine d_tv 9 rfl rfl (by kernel_rfl) rfl (.cons _ (.refl _)) rfl (v_extract rfl rfl) ?_
       refine d_tv 10 rfl rfl (by kernel_rfl) rfl (.cons _ (.refl _)) rfl (v_extract rfl rfl) ?_
       refine d_one 12 (by kernel_rfl) rfl ?_
       refine o_stw _ he rfl rfl rfl rfl rfl (Enc.one (α := Part) (x := ((findP (runL f c l 40000).1 (runL f c (l ++ [({ e with day := 40000 } : Evt)]) 40000).1[i].name).getD zPart)) ⟨s58, rfl, hs58⟩) ?_
       refine d_on (fun _ m => m.keeps (.cons _ (.refl _))) ?_
       refine d_tv 13 rfl rfl (by kernel_rfl) rfl (.cons _ (.refl _)) rfl (v_assign rfl) ?_
       refine d_done (by kernel_rfl) ?_
       refine go 1 ?_
       exact q_cutx2 (g12) (s58) trivial sb rfl rfl
     ·intro g12 s58 _
      refine go 3 ?_
      refine o_v rfl (v_ldp (((findP (runL f c l 40000).1 (runL f c (l ++ [({ e with day := 40000 } : Evt)]) 40000).1[i].name).getD zPart).life.cells) m0 he rfl rfl rfl) ?_
      refine go 1 ?_
      refine o_alloc he rfl (fun g14 => ?_)
      refine go 1 ?_
      refine o_stw _ he rfl rfl rfl rfl rfl rfl ?_
      refine go 3 ?_
      refine c_cutx (α := Nat) (Ix := (fun g14 => I36)) (Lx := (fun g14 => [(5, .pointer (some ⟨g5, 0, none⟩)), (7, .bool true), (8, .pointer (some ⟨g8, 0, none⟩)), (9, .pointer (some ⟨g9, 0, none⟩)), (11, .int .i64 ((i : Nat) : Int)), (14, .pointer (some ⟨g14, 0, none⟩))])) (Hx := (fun g14 => [.blk g14 47 (if (!(findP (runL f c l 40000).1 (runL f c (l ++ [({ e with day := 40000 } : Evt)]) 40000).1[i].name).isSome || (decide (e.op = 5) && decide (e.part = ((findP (runL f c l 40000).1 (runL f c (l ++ [({ e with day := 40000 } : Evt)]) 40000).1[i].name).getD zPart).name))) = true then zLife else ((findP (runL f c l 40000).1 (runL f c (l ++ [({ e with day := 40000 } : Evt)]) 40000).1[i].name).getD zPart).life).cells, .blk g8 39 [.slice Aa (runL f c l 40000).1.length cap1], .blk g9 39 [.slice Ab (runL f c (l ++ [({ e with day := 40000 } : Evt)]) 40000).1.length cap2], .blk g5 43 ({ e with day := 40000 } : Evt).cells])) (p := (fun g14 => True)) ?_ ?_
      ·refine go 1 ?_
       refine c_cutx (α := Nat) (Ix := (fun g14 => I36)) (Lx := (fun g14 => [(5, .pointer (some ⟨g5, 0, none⟩)), (7, .bool true), (8, .pointer (some ⟨g8, 0, none⟩)), (9, .pointer (some ⟨g9, 0, none⟩)), (11, .int .i64 ((i : Nat) : Int)), (12, .pointer (some ⟨g12, 0, none⟩)), (14, .pointer (some ⟨g14, 0, none⟩)), (76, .bool (!(findP (runL f c l 40000).1 (runL f c (l ++ [({ e with day := 40000 } : Evt)]) 40000).1[i].name).isSome || (decide (e.op = 5) && decide (e.part = ((findP (runL f c l 40000).1 (runL f c (l ++ [({ e with day := 40000 } : Evt)]) 40000).1[i].name).getD zPart).name))))])) (Hx := (fun g14 => [.blk g14 47 ((findP (runL f c l 40000).1 (runL f c (l ++ [({ e with day := 40000 } : Evt)]) 40000).1[i].name).getD zPart).life.cells, .blk g12 49 (((findP (runL f c l 40000).1 (runL f c (l ++ [({ e with day := 40000 } : Evt)]) 40000).1[i].name).getD zPart).cells s58), .blk g8 39 [.slice Aa (runL f c l 40000).1.length cap1], .blk g9 39 [.slice Ab (runL f c (l ++ [({ e with day := 40000 } : Evt)]) 40000).1.length cap2], .blk g5 43 ({ e with day := 40000 } : Evt).cells])) (p := (fun g14 => True)) ?_ ?_
       ·refine go 4 ?_
        refine sxb 65 rfl (fun h65 p65 => ?_) (fun h65 p65 => ?_)
        ·refine go 13 ?_
         exact q_cutx g14 trivial ⟨rfl, rfl, rfl, rfl, rfl, rfl, rfl, (congrArg (fun b => some (Value.bool b)) (by simp only [h65, bS])), trivial⟩ rfl rfl
        ·refine go 4 ?_
         refine sxb 69 rfl (fun h69 p69 => ?_) (fun h69 p69 => ?_)
         ·refine go 9 ?_
          exact q_cutx g14 trivial ⟨rfl, rfl, rfl, rfl, rfl, rfl, rfl, (congrArg (fun b => some (Value.bool b)) (by simp only [h65, h69, bS])), trivial⟩ rfl rfl
         ·refine go 9 ?_
          exact q_cutx g14 trivial ⟨rfl, rfl, rfl, rfl, rfl, rfl, rfl, (congrArg (fun b => some (Value.bool b)) (by simp only [h65, h69, bS])), trivial⟩ rfl rfl
       ·intro g14 _
        refine cb rfl (fun h76 p76 => ?_) (fun h76 p76 => ?_)
        ·refine go 2 ?_
         refine o_val rfl (v_build (pl := [(0, 2), (2, 2), (4, 2)]) he he rfl rfl) ?_
         refine go 1 ?_
         refine o_stw _ he rfl rfl rfl rfl rfl rfl ?_
         refine go 2 ?_
         refine bring1 ?_
         refine sx_drop ?_
         exact q_cutx g14 trivial sb (by rw [if_pos h76]; rfl) rfl
        ·refine go 2 ?_
         refine bring1 ?_
         refine sx_drop ?_
         exact q_cutx g14 trivial sb (by rw [if_neg (by rw [h76]; decide)]) rfl
      ·intro g14 _
       refine go 1 ?_
       refine d_startH T.mixed ?_
       refine d_tv 0 rfl rfl (by kernel_rfl) rfl (.refl _) rfl (v_fieldAddr he rfl) ?_
       refine d_tv 1 rfl rfl (by kernel_rfl) rfl (.refl _) rfl (v_ld m2 he rfl rfl) ?_
       refine d_tv 2 rfl rfl (by kernel_rfl) rfl (.refl _) rfl (v_move rfl) ?_
       obtain ⟨b81, o81, w81, e81, c81, r81⟩ := RdA.at_ hAb (i := i) hlt
       obtain ⟨q81, rfl, hq81⟩ := r81
       refine d_tv 3 rfl rfl (by kernel_rfl) rfl (.refl _) rfl (v_idx he rfl rfl e81 (i) (by omega) hlt) ?_
       refine d_tv 4 rfl rfl (by kernel_rfl) rfl (.refl _) rfl (v_fieldAddr he rfl) ?_
       refine d_tv 5 rfl rfl (by kernel_rfl) rfl (.refl _) rfl (v_ldIa he rfl (c81.sub 8 6) rfl) ?_
       refine d_tv 6 rfl rfl (by kernel_rfl) rfl (.refl _) rfl (v_ldw m0 he rfl rfl) ?_
       refine d_tv 7 rfl rfl (by kernel_rfl) rfl (.refl _) rfl (OV.cast (u := .bool false) (v_stneq T.eqg_47 (eqS_Life (runL f c (l ++ [({ e with day := 40000 } : Evt)]) 40000).1[i].life (if (!(findP (runL f c l 40000).1 (runL f c (l ++ [({ e with day := 40000 } : Evt)]) 40000).1[i].name).isSome || (decide (e.op = 5) && decide (e.part = ((findP (runL f c l 40000).1 (runL f c (l ++ [({ e with day := 40000 } : Evt)]) 40000).1[i].name).getD zPart).name))) = true then zLife else ((findP (runL f c l 40000).1 (runL f c (l ++ [({ e with day := 40000 } : Evt)]) 40000).1[i].name).getD zPart).life)) rfl rfl) (congrArg Value.bool (by rw [hW]; simp))) ?_
       refine d_done (by kernel_rfl) ?_
       refine go 1 ?_
       refine c_false rfl ?_
       refine go 9 ?_
       refine sx_drop ?_
       exact q_next (i + 1) (by omega) (by omega) rfl sb rfl
    ·refine go 15 ?_
     refine o_cons (o_yes rfl rfl rfl (o_val rfl (OV.cast (u := .bool true) (v_geq rfl rfl) (congrArg Value.bool (decide_eq_true (by simpa using hlen)))) ?_))
     refine go 5 ?_
     refine fin1 rfl rfl ?_
     exact q_vI rfl

end Go.Proofs.YthcefohbbfjjfaaGreat

/- The law LifeOthers holds of the given program, for every input. No condition. -/
namespace Go.Proofs.YthcefohbbfjjfaaGreat
open Go Go.Sx
set_option linter.all false
theorem T.byt_43 : Tryz.prog.bytesOf 43 = 160 := by kernel_rfl
theorem T.cel_111 : Tryz.prog.cellsOf 111 = 3 := by kernel_rfl
theorem T.cel_113 : Tryz.prog.cellsOf 113 = 3 := by kernel_rfl
theorem T.cel_24 : Tryz.prog.cellsOf 24 = 1 := by kernel_rfl
theorem T.cel_27 : Tryz.prog.cellsOf 27 = 3 := by kernel_rfl
theorem T.cel_29 : Tryz.prog.cellsOf 29 = 4 := by kernel_rfl
theorem T.cel_32 : Tryz.prog.cellsOf 32 = 2 := by kernel_rfl
theorem T.cel_34 : Tryz.prog.cellsOf 34 = 6 := by kernel_rfl
theorem T.cel_43 : Tryz.prog.cellsOf 43 = 14 := by kernel_rfl
theorem T.cel_9 : Tryz.prog.cellsOf 9 = 1 := by kernel_rfl
instance T.fds_111 : Has (fieldsK Tryz.prog 111) [(9, 0, 1), (4, 1, 1), (109, 2, 1)] := ⟨by kernel_rfl⟩
instance T.fds_113 : Has (fieldsK Tryz.prog 113) [(9, 0, 1), (63, 1, 1), (3, 2, 1)] := ⟨by kernel_rfl⟩
instance T.fds_24 : Has (fieldsK Tryz.prog 24) [(22, 0, 1)] := ⟨by kernel_rfl⟩
instance T.fds_27 : Has (fieldsK Tryz.prog 27) [(3, 0, 1), (3, 1, 1), (25, 2, 1)] := ⟨by kernel_rfl⟩
instance T.fds_29 : Has (fieldsK Tryz.prog 29) [(24, 0, 1), (27, 1, 3)] := ⟨by kernel_rfl⟩
instance T.fds_32 : Has (fieldsK Tryz.prog 32) [(3, 0, 1), (3, 1, 1)] := ⟨by kernel_rfl⟩
instance T.fds_34 : Has (fieldsK Tryz.prog 34) [(32, 0, 2), (32, 2, 2), (32, 4, 2)] := ⟨by kernel_rfl⟩
instance T.fds_43 : Has (fieldsK Tryz.prog 43) [(3, 0, 1), (3, 1, 1), (9, 2, 1), (9, 3, 1), (9, 4, 1), (9, 5, 1), (9, 6, 1), (9, 7, 1), (34, 8, 6)] := ⟨by kernel_rfl⟩
namespace lawLifeOthers
open Go.ChangeShapes Go.WideShapes Go.ChangeAt Go.RowKit Go.ChangeMaps Go.MapKept
theorem own : ownKnob Tryz.prog.godebug = none := by kernel_rfl
set_option maxRecDepth 100000 in
theorem lifted (os : Os) (started : os.Started) (H : Type) (enc : TypeId × Value → H) :
    ReturnsInHanded {} Tryz.checked os 6 .any (Rows.lifeOthersSpec.pre6 enc Tryz.prog Tryz.f6 Rows.lifeOthersRow.domain false) (Rows.lifeOthersSpec.post enc Tryz.prog Tryz.f6 false true false false) := by
  refine returnsInHanded_of_change_sized (C := Tryz.checked) own started (by kernel_rfl) Tryz.func6
    (ChangeSpec.witness6 (enc := enc) (C := Tryz.checked) false ⟨#[], #[.agg #[.slice none 0 0, .int .i64 0, .int .i64 0, .slice none 0 0], .slice none 0 0, .agg #[.int .i64 0, .int .i64 0, .string ⟨#[]⟩, .string ⟨#[]⟩, .string ⟨#[]⟩, .string ⟨#[]⟩, .string ⟨#[]⟩, .string ⟨#[]⟩, .int .i64 0, .int .i64 0, .int .i64 0, .int .i64 0, .int .i64 0, .int .i64 0]], []⟩ 8 (by kernel_rfl) (by kernel_rfl) (by kernel_rfl) (by kernel_rfl)) ?_
  intro W base args ds gs before hval0 hW hcnd hsz _
  have hval : ∀ (j : Nat) t v, Tryz.f6.params[j]? = some t → args[j]? = some v → Value.okWide Tryz.prog W .any base t v := hval0
  have hW' := hW
  obtain ⟨p, q, hA0, hV, rfl, hfz, hnd⟩ := hW
  have hA : DataW.TrodAll enc Tryz.prog W 0 (fun _ => true) true Tryz.f6.params.toList args.toList ds p := hA0
  rw [Tryz.params6] at hA hval
  obtain ⟨v0, vs0, d0, ds0, p0, q0, hargs, rfl, rfl, h0, r0⟩ := trodAll_cons hA
  obtain ⟨v1, vs1, d1, ds1, p1, q1, rfl, rfl, rfl, h1, r1⟩ := trodAll_cons r0
  obtain ⟨v2, vs2, d2, ds2, p2, q2, rfl, rfl, rfl, h2, r2⟩ := trodAll_cons r1
  obtain ⟨rfl, rfl, rfl⟩ := trodAll_nil r2
  obtain rfl : args = #[v0, v1, v2] := by cases args; simp_all
  obtain ⟨rfl, rfl⟩ := trodVars_none hV
  clear hA0 hval0
  obtain ⟨cs0, rfl, hz0⟩ := okWide_agg T.fds_29.eq (hval 0 29 v0 rfl rfl)
  obtain ⟨fu0, hf0⟩ := h0
  obtain ⟨x0, ⟨vc0, sf0, e0, R0, F0⟩, G0⟩ := (opens_setup T.fds_29.eq T.cel_29 (opens_wrap T.fds_24.eq T.cel_24 (opens_slice T.und_22.eq T.cel_111 rfl (opens_kind T.fds_111.eq T.cel_111 (opens_string T.und_9.eq) (opens_bool T.und_4.eq) (opens_slice T.und_109.eq T.cel_113 rfl (opens_slot T.fds_113.eq T.cel_113 (opens_string T.und_9.eq) (opens_slice T.und_63.eq T.cel_9 rfl (opens_string T.und_9.eq)) (opens_int T.und_3.eq)))))) (opens_form T.fds_27.eq T.cel_27 T.und_25.eq T.und_3.eq)) enc W 0 _ true fu0 _ _ hf0
  obtain rfl : cs0 = #[vc0, ci x0.dam.op, ci x0.dam.n, sf0] := Array.toList_inj.1 e0
  obtain ⟨s1, n1, c1, rfl⟩ := okWide_slice T.und_30.eq (hval 1 30 v1 rfl rfl)
  obtain ⟨fu1, hf1⟩ := h1
  obtain ⟨l1, ⟨u1, e1, R1⟩, G1⟩ := (opens_slice T.und_30.eq T.cel_43 rfl (opens_evt T.fds_43.eq T.cel_43 (opens_int T.und_3.eq) (opens_string T.und_9.eq) (opens_use T.fds_34.eq T.cel_34 (opens_ivl T.fds_32.eq T.cel_32 (opens_int T.und_3.eq))))) enc W 0 _ true fu1 _ _ hf1
  cases e1
  have hb1 := sized_len (j := 1) hsz (by kernel_rfl) rfl T.und_30.eq hf1 T.byt_43
  rw [show n1 = l1.length by obtain ⟨_, _, e, _⟩ := R1; cases e; rfl] at hb1
  obtain ⟨cs2, rfl, hz2⟩ := okWide_agg T.fds_43.eq (hval 2 43 v2 rfl rfl)
  obtain ⟨fu2, hf2⟩ := h2
  obtain ⟨x2, e2, G2⟩ := (opens_evt T.fds_43.eq T.cel_43 (opens_int T.und_3.eq) (opens_string T.und_9.eq) (opens_use T.fds_34.eq T.cel_34 (opens_ivl T.fds_32.eq T.cel_32 (opens_int T.und_3.eq)))) enc W 0 _ true fu2 _ _ hf2
  obtain rfl : cs2 = x2.cells.toArray := Array.toList_inj.1 e2
  exact law_calls (s := Rows.lifeOthersSpec) Tryz.call6 (lawLOthers (Iw W) vc0 x0.kinds R0 G0.1 x0.dam sf0 F0 G0.2 _ l1 R1 G1 hb1 x2 G2) hW' (by kernel_rfl) (by kernel_rfl) rfl T.und_4.eq rfl rfl
theorem over : Rows.lifeOthersRow.holds Tryz.pinned (OpenSpec.ofChange Rows.lifeOthersSpec) :=
  OpenClaim.holds_of_wide 6 Tryz.f6 rfl rfl rfl rfl rfl rfl rfl ⟨rfl, rfl, rfl, rfl, rfl⟩ rfl rfl rfl rfl rfl (by kernel_rfl) Tryz.func6 (by kernel_rfl)
    (of_decide_eq_true (by kernel_rfl)) (by unfold Func.isWrapper; first | (rw [if_pos (by decide +kernel)]; kernel_rfl) | (rw [if_neg (by decide +kernel)]; exact ⟨rfl, rfl⟩))
    (fun os started H enc _ => lifted os started H enc)
/-- the statement -/
theorem proved : Rows.LifeOthersSaid := over
end lawLifeOthers
end Go.Proofs.YthcefohbbfjjfaaGreat

