/- The law PossibleHistories holds of the given program, for every input. No condition. -/
import Derived.Test.YtoadjlmbdliceaaGreatZPe
import Derived.OpenShut
import Derived.ProofKit
import Derived.Test.YtoadjlmbdliceaaGreatRows
/- Walks, printed by a program out of the code of the functions: each theorem is a contract of one function. -/
namespace Go.Proofs.YtoadjlmbdliceaaGreat
open Go Go.Sx
set_option linter.all false
set_option maxRecDepth 20000
set_option maxHeartbeats 4000000
instance T.und_42 : Has (Tryz.prog.underlying 42) (.int .u16) := ⟨by kernel_rfl⟩
theorem lawPHistories (I : IMap) (vc : Value) (c : List Kind) (hvc : RdS I vc c) (hoc : ∀ x ∈ c, OkKd x) (v : Value) (l : List Rep) (hv : RdS I v l) (hok : ∀ x ∈ l, OkRp x) (w : Value) (ch : List Int) (hw : RdS I w ch) (hoi : ∀ x ∈ ch, I64 x) :
    FnV Tryz.prog 14 #[.agg #[vc], v, w] I (.bool true) := by
 have hv0 := hv
 obtain ⟨A, c0, rfl, hA, hc, hm⟩ := hv
 have hw0 := hw
 obtain ⟨B, c1, rfl, hB, hc1, hm1⟩ := hw
 refine enter Tryz.func14 Tryz.call14 rfl Tryz.ntmps14 rfl (fun w0 => ?_)
 refine go 3 ?_
 refine o_box _ rfl rfl rfl (fun g3 => ?_)
 refine go 6 ?_
 refine o_callV (head17 _) rfl rfl ?_
 refine go 9 ?_
 refine o_callV (law17few _ vc c hvc _ l hv0) rfl rfl ?_
 refine go 2 ?_
 refine sxb 20 rfl (fun h20 p20 => ?_) (fun h20 p20 => ?_)
 ·refine go 6 ?_
  refine c_true rfl ?_
  refine go 8 ?_
  refine fin1 rfl rfl ?_
  exact q_vI rfl
 ·refine go 6 ?_
  refine cb rfl (fun h24 p24 => ?_) (fun h24 p24 => ?_)
  ·refine go 8 ?_
   refine fin1 rfl rfl ?_
   exact q_vI rfl
  ·have hf : fewC c = true ∧ few17 l 25 = true := by simpa using h20
   obtain ⟨hf2, hwn⟩ := few17_sm hf.2
   obtain ⟨hsl, hl⟩ := fewR_sm hf2
   have hsc := fewC_sm hf.1
   have hl6 : l.length ≤ 1000000 := by omega
   have h30 : l.length ≤ 30 := by omega
   have hwl : waysN l < 4096 := by omega
   refine go 7 ?_
   refine o_call (possChoices _ vc c hvc hsc _ l hv0 hl6 hsl h30 hwl) rfl rfl (fun v29 I29 j29 q29 => ?_)
   try have hvc := hvc.le j29
   try have hv0 := hv0.le j29
   try have hA := hA.le j29
   try have hw23 := hw23.le j29
   try have hw29 := hw29.le j29
   try have hw35 := hw35.le j29
   try have hw41 := hw41.le j29
   try have hTA := hTA.le j29
   try have hSA := hSA.le j29
   try have hw0 := hw0.le j29
   try have hCA := hCA.le j29
   obtain ⟨w29, rfl, hw29⟩ := q29
   refine go 12 ?_
   refine o_call (possSure _ vc c hvc hsc _ l hv0 hl6 hsl h30 hwl) rfl rfl (fun v35 I35 j35 q35 => ?_)
   try have hvc := hvc.le j35
   try have hv0 := hv0.le j35
   try have hA := hA.le j35
   try have hw23 := hw23.le j35
   try have hw29 := hw29.le j35
   try have hw35 := hw35.le j35
   try have hw41 := hw41.le j35
   try have hTA := hTA.le j35
   try have hSA := hSA.le j35
   try have hw0 := hw0.le j35
   try have hCA := hCA.le j35
   obtain ⟨w35, rfl, hw35⟩ := q35
   refine go 12 ?_
   refine o_call (seFirst _ vc c hvc hsc _ l hv0 hl6 hsl) rfl rfl (fun v41 I41 j41 q41 => ?_)
   try have hvc := hvc.le j41
   try have hv0 := hv0.le j41
   try have hA := hA.le j41
   try have hw23 := hw23.le j41
   try have hw29 := hw29.le j41
   try have hw35 := hw35.le j41
   try have hw41 := hw41.le j41
   try have hTA := hTA.le j41
   try have hSA := hSA.le j41
   try have hw0 := hw0.le j41
   try have hCA := hCA.le j41
   obtain ⟨w41, rfl, hw41⟩ := q41
   obtain ⟨TA, tc, rfl, hTA, _, _⟩ := hw29
   obtain ⟨SA, sc, rfl, hSA, _, _⟩ := hw35
   have hFS := hw41
   obtain ⟨FA, fc, rfl, hFA, _, _⟩ := hw41
   refine go 13 ?_
   refine sxb 46 rfl (fun h46 p46 => ?_) (fun h46 p46 => ?_)
   ·refine go 5 ?_
    refine c_true rfl ?_
    refine go 8 ?_
    refine fin1 rfl rfl ?_
    exact q_vI rfl
   ·have hfc := pf_code h30 p46
    refine go 1 ?_
    refine o_cons (o_yes rfl rfl h46 (o_val rfl (OV.cast (u := .bool false) (v_eql rfl rfl) (congrArg Value.bool (decide_eq_false cho_seven))) ?_))
    refine go 3 ?_
    refine c_false rfl ?_
    refine go 3 ?_
    refine c_cut (I' := I41) (L' := [(1, .slice A l.length c0), (2, .slice B ch.length c1), (3, .pointer (some ⟨g3, 0, none⟩)), (7, .bool true), (8, .slice TA (choF c l).1.length tc), (9, .int .i64 (choF c l).2), (10, .slice SA (sureF c l).1.length sc), (12, .slice FA (firstF c l).1.length fc)]) (H' := [.blk g3 24 [vc]]) ?_ ?_
    ·refine go 6 ?_
     refine o_v rfl (OV.cast (u := .bool false) (v_bneq he rfl rfl) (congrArg Value.bool (by rw [hfc]; simp))) ?_
     refine go 4 ?_
     refine sxb 59 rfl (fun h59 p59 => ?_) (fun h59 p59 => ?_)
     ·have h0 : (choF c l).2 = 0 := by simpa using h59
      have hTl := cho_len h0
      have hSl := sure_len h0
      have hFl : (firstF c l).1.length = l.length := (all_mem.1 (hist_in_all (first_mem (by rw [hfc, h0])))).1
      refine go 4 ?_
      refine o_cons (o_yes rfl rfl h59 (o_val rfl (OV.cast (u := .bool false) (v_neq rfl rfl) (congrArg Value.bool (by simp [hTl]))) ?_))
      refine go 5 ?_
      refine o_cons (o_yes rfl rfl rfl (o_val rfl (OV.cast (u := .bool false) (v_neq rfl rfl) (congrArg Value.bool (by simp [hSl]))) ?_))
      refine go 6 ?_
      refine o_cons (o_yes rfl rfl rfl (o_val rfl (OV.cast (u := .bool false) (v_neq rfl rfl) (congrArg Value.bool (by simp [hFl]))) ?_))
      refine go 5 ?_
      refine c_false rfl ?_
      refine go 2 ?_
      exact q_cut sb rfl rfl
     ·refine go 23 ?_
      refine c_false rfl ?_
      refine go 2 ?_
      exact q_cut sb rfl rfl
    ·refine go 1 ?_
     refine c_cutx3 (Ix := (fun w12 F J => J)) (Lx := (fun w12 F J => [(1, .slice A l.length c0), (2, .slice B ch.length c1), (3, .pointer (some ⟨g3, 0, none⟩)), (7, .bool true), (8, .slice TA (choF c l).1.length tc), (9, .int .i64 (choF c l).2), (10, .slice SA (sureF c l).1.length sc), (12, w12)])) (Hx := (fun w12 F J => [.blk g3 24 [vc]])) (p := (fun w12 F J => ILe I41 J ∧ RdS J w12 F ∧ ((choF c l).2 = 0 → F ∈ histF c l))) ?_ ?_
     ·refine go 6 ?_
      refine o_call (hiIs _ vc c hvc hsc _ l hv0 hl6 hsl _ ch hw0) rfl rfl (fun v84 I84 j84 q84 => ?_)
      try have hvc := hvc.le j84
      try have hv0 := hv0.le j84
      try have hA := hA.le j84
      try have hw23 := hw23.le j84
      try have hw29 := hw29.le j84
      try have hw35 := hw35.le j84
      try have hw41 := hw41.le j84
      try have hTA := hTA.le j84
      try have hSA := hSA.le j84
      try have hw0 := hw0.le j84
      try have hCA := hCA.le j84
      try have hFA := hFA.le j84
      try have hFS := hFS.le j84
      obtain rfl := q84
      refine go 2 ?_
      refine cb rfl (fun h84 p84 => ?_) (fun h84 p84 => ?_)
      ·refine go 5 ?_
       exact q_cutx3 (_) (ch) (_) ⟨j84, hw0, fun _ => (hist_mem _).2 h84⟩ sb rfl rfl
      ·refine go 2 ?_
       exact q_cutx3 (_) ((firstF c l).1) (_) ⟨j84, hFS, fun h => first_mem (by rw [hfc, h])⟩ sb rfl rfl
     ·intro w12 F J ⟨hJ, hF0, hFm⟩
      have hvc := hvc.le hJ
      have hv0 := hv0.le hJ
      have hw0 := hw0.le hJ
      have hTA := hTA.le hJ
      have hSA := hSA.le hJ
      obtain ⟨FB, fb, rfl, hFB, _, _⟩ := hF0
      refine go 1 ?_
      refine c_cut (I' := J) (L' := [(1, .slice A l.length c0), (2, .slice B ch.length c1), (3, .pointer (some ⟨g3, 0, none⟩)), (7, .bool true), (9, .int .i64 (choF c l).2)]) (H' := [.blk g3 24 [vc]]) ?_ ?_
      ·refine go 6 ?_
       refine c_loop (α := Nat) 0 (fun i => J)
        (fun i => [(1, .slice A l.length c0), (2, .slice B ch.length c1), (3, .pointer (some ⟨g3, 0, none⟩)), (7, .bool true), (8, .slice TA (choF c l).1.length tc), (9, .int .i64 (choF c l).2), (10, .slice SA (sureF c l).1.length sc), (12, .slice FB F.length fb), (14, .int .i64 ((i : Nat) : Int))])
        (fun i => [.blk g3 24 [vc]])
        (fun i => i ≤ l.length)
        (fun i => l.length - i) (Nat.zero_le _) rfl sb rfl ?_
       intro i hi
       refine go 6 ?_
       refine sxb 88 rfl (fun h88 p88 => ?_) (fun h88 p88 => ?_)
       ·refine go 6 ?_
        refine sxb 94 rfl (fun h94 p94 => ?_) (fun h94 p94 => ?_)
        ·refine go 7 ?_
         refine cb rfl (fun h99 p99 => ?_) (fun h99 p99 => ?_)
         ·have h0 : (choF c l).2 = 0 := by simpa using h88
          have hlt : i < l.length := by omega
          have hlF : i < F.length := by omega
          obtain ⟨hT, hb0, hr, hha, hS, hso⟩ := hist_row h0 (hFm h0) hlt hlF
          have hTl := cho_len h0
          have hSl := sure_len h0
          refine go 5 ?_
          refine d_startH T.mixed ?_
          refine d_tv 0 rfl rfl (by kernel_rfl) rfl (.refl _) rfl (v_move rfl) ?_
          refine d_tv 1 rfl rfl (by kernel_rfl) rfl (.refl _) rfl (v_move rfl) ?_
          obtain ⟨b104, o104, w104, e104, c104, r104⟩ := RdA.at_ hFB (i := i) (by omega)
          obtain rfl := r104
          refine d_tv 2 rfl rfl (by kernel_rfl) rfl (.refl _) rfl (v_idx he rfl rfl e104 (i) (by omega) (by omega)) ?_
          refine d_tv 3 rfl rfl (by kernel_rfl) rfl (.refl _) rfl (v_ldI he rfl (c104 0 _ rfl)) ?_
          refine d_tv 4 rfl rfl (by kernel_rfl) rfl (.refl _) rfl (OV.cast (u := .bool false) (v_lss rfl rfl) (congrArg Value.bool (decide_eq_false (by omega)))) ?_
          refine d_tv 5 rfl rfl (by kernel_rfl) rfl (.refl _) rfl (v_move rfl) ?_
          refine d_t 6 rfl rfl (by kernel_rfl) rfl (fun _ m => m.keeps (.refl _)) (y_yes rfl rfl rfl (v_move rfl)) ?_
          refine d_t 7 rfl rfl (by kernel_rfl) rfl (fun _ m => m.keeps (.refl _)) (y_yes rfl rfl rfl (v_move rfl)) ?_
          obtain ⟨b110, o110, w110, e110, c110, r110⟩ := RdA.at_ hFB (i := i) (by omega)
          obtain rfl := r110
          refine d_t 8 rfl rfl (by kernel_rfl) rfl (fun _ m => m.keeps (.refl _)) (y_yes rfl rfl rfl (v_idx he rfl rfl e110 (i) (by omega) (by omega))) ?_
          refine d_t 9 rfl rfl (by kernel_rfl) rfl (fun _ m => m.keeps (.refl _)) (y_yes rfl rfl rfl (v_ldI he rfl (c110 0 _ rfl))) ?_
          refine d_t 10 rfl rfl (by kernel_rfl) rfl (fun _ m => m.keeps (.refl _)) (y_yes rfl rfl rfl (v_move rfl)) ?_
          refine d_t 11 rfl rfl (by kernel_rfl) rfl (fun _ m => m.keeps (.refl _)) (y_yes rfl rfl rfl (v_move rfl)) ?_
          obtain ⟨b114, o114, w114, e114, c114, r114⟩ := RdA.at_ hTA (i := i) (by omega)
          obtain ⟨q114, rfl, S114, d114, rfl, hS114, hd114, hm114⟩ := r114
          refine d_t 12 rfl rfl (by kernel_rfl) rfl (fun _ m => m.keeps (.refl _)) (y_yes rfl rfl rfl (v_idx he rfl rfl e114 (i) (by omega) (by omega))) ?_
          refine d_t 13 rfl rfl (by kernel_rfl) rfl (fun _ m => m.keeps (.refl _)) (y_yes rfl rfl rfl (v_ldI he rfl (c114 0 _ rfl))) ?_
          refine d_t 14 rfl rfl (by kernel_rfl) rfl (fun _ m => m.keeps (.refl _)) (y_yes rfl rfl rfl (v_len_slice he rfl)) ?_
          refine d_t 15 rfl rfl (by kernel_rfl) rfl (fun _ m => m.keeps (.refl _)) (y_yes rfl rfl rfl (OV.cast (u := .bool false) (v_geq rfl rfl) (congrArg Value.bool (decide_eq_false (by omega))))) ?_
          refine d_tv 16 rfl rfl (by kernel_rfl) rfl (.refl _) rfl (v_or_f rfl rfl rfl) ?_
          refine d_tv 17 rfl rfl (by kernel_rfl) rfl (.refl _) rfl (v_move rfl) ?_
          refine d_t 18 rfl rfl (by kernel_rfl) rfl (fun _ m => m.keeps (.refl _)) (y_yes rfl rfl rfl (v_move rfl)) ?_
          refine d_t 19 rfl rfl (by kernel_rfl) rfl (fun _ m => m.keeps (.refl _)) (y_yes rfl rfl rfl (v_move rfl)) ?_
          obtain ⟨b122, o122, w122, e122, c122, r122⟩ := RdA.at_ hTA (i := i) (by omega)
          obtain ⟨q122, rfl, S122, d122, rfl, hS122, hd122, hm122⟩ := r122
          refine d_t 20 rfl rfl (by kernel_rfl) rfl (fun _ m => m.keeps (.refl _)) (y_yes rfl rfl rfl (v_idx he rfl rfl e122 (i) (by omega) (by omega))) ?_
          refine d_t 21 rfl rfl (by kernel_rfl) rfl (fun _ m => m.keeps (.refl _)) (y_yes rfl rfl rfl (v_ldI he rfl (c122 0 _ rfl))) ?_
          refine d_t 22 rfl rfl (by kernel_rfl) rfl (fun _ m => m.keeps (.refl _)) (y_yes rfl rfl rfl (v_move rfl)) ?_
          refine d_t 23 rfl rfl (by kernel_rfl) rfl (fun _ m => m.keeps (.refl _)) (y_yes rfl rfl rfl (v_move rfl)) ?_
          obtain ⟨b126, o126, w126, e126, c126, r126⟩ := RdA.at_ hFB (i := i) (by omega)
          obtain rfl := r126
          refine d_t 24 rfl rfl (by kernel_rfl) rfl (fun _ m => m.keeps (.refl _)) (y_yes rfl rfl rfl (v_idx he rfl rfl e126 (i) (by omega) (by omega))) ?_
          refine d_t 25 rfl rfl (by kernel_rfl) rfl (fun _ m => m.keeps (.refl _)) (y_yes rfl rfl rfl (v_ldI he rfl (c126 0 _ rfl))) ?_
          obtain ⟨b128, o128, w128, e128, c128, r128⟩ := RdA.at_ hS122 (i := F[i].toNat) hr
          obtain rfl := r128
          refine d_t 26 rfl rfl (by kernel_rfl) rfl (fun _ m => m.keeps (.refl _)) (y_yes rfl rfl rfl (v_idx he rfl rfl e128 (F[i].toNat) (by omega) hr)) ?_
          refine d_t 27 rfl rfl (by kernel_rfl) rfl (fun _ m => m.keeps (.refl _)) (y_yes rfl rfl rfl (OV.cast (u := .bool true) (v_ldI he rfl (c128 0 _ rfl)) (congrArg Value.bool hha))) ?_
          refine d_t 28 rfl rfl (by kernel_rfl) rfl (fun _ m => m.keeps (.refl _)) (y_yes rfl rfl rfl (v_not rfl)) ?_
          refine d_tv 29 rfl rfl (by kernel_rfl) rfl (.refl _) rfl (v_or_f rfl rfl rfl) ?_
          refine d_tv 30 rfl rfl (by kernel_rfl) rfl (.refl _) rfl (v_move rfl) ?_
          refine d_t 31 rfl rfl (by kernel_rfl) rfl (fun _ m => m.keeps (.refl _)) (y_yes rfl rfl rfl (v_move rfl)) ?_
          refine d_t 32 rfl rfl (by kernel_rfl) rfl (fun _ m => m.keeps (.refl _)) (y_yes rfl rfl rfl (v_move rfl)) ?_
          obtain ⟨b135, o135, w135, e135, c135, r135⟩ := RdA.at_ hSA (i := i) (by omega)
          obtain rfl := r135
          refine d_t 33 rfl rfl (by kernel_rfl) rfl (fun _ m => m.keeps (.refl _)) (y_yes rfl rfl rfl (v_idx he rfl rfl e135 (i) (by omega) (by omega))) ?_
          refine d_t 34 rfl rfl (by kernel_rfl) rfl (fun _ m => m.keeps (.refl _)) (y_yes rfl rfl rfl (v_ldI he rfl (c135 0 _ rfl))) ?_
          refine d_t 35 rfl rfl (by kernel_rfl) rfl (fun _ m => m.keeps (.refl _)) (y_yes rfl rfl rfl (v_geq rfl rfl)) ?_
          refine d_t 36 rfl rfl (by kernel_rfl) rfl (fun _ m => m.keeps (.refl _)) (y_yes rfl rfl rfl (v_move rfl)) ?_
          refine sxb 138 rfl (fun h138 p138 => ?_) (fun h138 p138 => ?_)
          ·refine d_t 37 rfl rfl (by kernel_rfl) rfl (fun _ m => m.keeps (.refl _)) (y_yes rfl rfl h138 (v_move rfl)) ?_
           refine d_t 38 rfl rfl (by kernel_rfl) rfl (fun _ m => m.keeps (.refl _)) (y_yes rfl rfl h138 (v_move rfl)) ?_
           obtain ⟨b141, o141, w141, e141, c141, r141⟩ := RdA.at_ hSA (i := i) (by omega)
           obtain rfl := r141
           refine d_t 39 rfl rfl (by kernel_rfl) rfl (fun _ m => m.keeps (.refl _)) (y_yes rfl rfl h138 (v_idx he rfl rfl e141 (i) (by omega) (by omega))) ?_
           refine d_t 40 rfl rfl (by kernel_rfl) rfl (fun _ m => m.keeps (.refl _)) (y_yes rfl rfl h138 (v_ldI he rfl (c141 0 _ rfl))) ?_
           refine d_t 41 rfl rfl (by kernel_rfl) rfl (fun _ m => m.keeps (.refl _)) (y_yes rfl rfl h138 (v_move rfl)) ?_
           refine d_t 42 rfl rfl (by kernel_rfl) rfl (fun _ m => m.keeps (.refl _)) (y_yes rfl rfl h138 (v_move rfl)) ?_
           obtain ⟨b145, o145, w145, e145, c145, r145⟩ := RdA.at_ hFB (i := i) (by omega)
           obtain rfl := r145
           refine d_t 43 rfl rfl (by kernel_rfl) rfl (fun _ m => m.keeps (.refl _)) (y_yes rfl rfl h138 (v_idx he rfl rfl e145 (i) (by omega) (by omega))) ?_
           refine d_t 44 rfl rfl (by kernel_rfl) rfl (fun _ m => m.keeps (.refl _)) (y_yes rfl rfl h138 (v_ldI he rfl (c145 0 _ rfl))) ?_
           refine d_t 45 rfl rfl (by kernel_rfl) rfl (fun _ m => m.keeps (.refl _)) (y_yes rfl rfl h138 (OV.cast (u := .bool false) (v_neq rfl rfl) (congrArg Value.bool (by rw [hso (by omega)]; simp)))) ?_
           refine d_t 46 rfl rfl (by kernel_rfl) rfl (fun _ m => m.keeps (.refl _)) (y_yes rfl rfl rfl (v_and_t h138 rfl rfl)) ?_
           refine d_tv 47 rfl rfl (by kernel_rfl) rfl (.refl _) rfl (v_or_f rfl rfl rfl) ?_
           refine d_done (by kernel_rfl) ?_
           refine go 1 ?_
           refine c_false rfl ?_
           refine go 9 ?_
           exact q_next (i + 1) (by omega) (by omega) rfl sb rfl
          ·refine d_t 37 rfl rfl (by kernel_rfl) rfl (fun _ m => m.keeps (.refl _)) (y_no rfl rfl h138) ?_
           refine d_t 38 rfl rfl (by kernel_rfl) rfl (fun _ m => m.keeps (.refl _)) (y_no rfl rfl h138) ?_
           refine d_t 39 rfl rfl (by kernel_rfl) rfl (fun _ m => m.keeps (.refl _)) (y_no rfl rfl h138) ?_
           refine d_t 40 rfl rfl (by kernel_rfl) rfl (fun _ m => m.keeps (.refl _)) (y_no rfl rfl h138) ?_
           refine d_t 41 rfl rfl (by kernel_rfl) rfl (fun _ m => m.keeps (.refl _)) (y_no rfl rfl h138) ?_
           refine d_t 42 rfl rfl (by kernel_rfl) rfl (fun _ m => m.keeps (.refl _)) (y_no rfl rfl h138) ?_
           refine d_t 43 rfl rfl (by kernel_rfl) rfl (fun _ m => m.keeps (.refl _)) (y_no rfl rfl h138) ?_
           refine d_t 44 rfl rfl (by kernel_rfl) rfl (fun _ m => m.keeps (.refl _)) (y_no rfl rfl h138) ?_
           refine d_t 45 rfl rfl (by kernel_rfl) rfl (fun _ m => m.keeps (.refl _)) (y_no rfl rfl h138) ?_
           refine d_t 46 rfl rfl (by kernel_rfl) rfl (fun _ m => m.keeps (.refl _)) (y_yes rfl rfl rfl (v_and_f h138 rfl)) ?_
           refine d_tv 47 rfl rfl (by kernel_rfl) rfl (.refl _) rfl (v_or_f rfl rfl rfl) ?_
           refine d_done (by kernel_rfl) ?_
           refine go 1 ?_
           refine c_false rfl ?_
           refine go 9 ?_
           exact q_next (i + 1) (by omega) (by omega) rfl sb rfl
         ·refine go 5 ?_
          exact q_cut sb rfl rfl
        ·refine go 7 ?_
         refine c_false rfl ?_
         refine go 5 ?_
         exact q_cut sb rfl rfl
       ·refine go 13 ?_
        refine c_false rfl ?_
        refine go 5 ?_
        exact q_cut sb rfl rfl
      ·refine go 7 ?_
       refine sxb 154 rfl (fun h154 p154 => ?_) (fun h154 p154 => ?_)
       ·refine go 11 ?_
        refine fin1 rfl rfl ?_
        exact q_vI rfl
       ·refine go 4 ?_
        refine o_yes rfl rfl h154 (o_call (hiIs _ vc c hvc hsc _ l hv0 hl6 hsl _ ch hw0) rfl rfl (fun v158 I158 j158 q158 => ?_))
        try have hvc := hvc.le j158
        try have hv0 := hv0.le j158
        try have hA := hA.le j158
        try have hw23 := hw23.le j158
        try have hw29 := hw29.le j158
        try have hw35 := hw35.le j158
        try have hw41 := hw41.le j158
        try have hTA := hTA.le j158
        try have hSA := hSA.le j158
        try have hw0 := hw0.le j158
        try have hCA := hCA.le j158
        try have hFA := hFA.le j158
        try have hFS := hFS.le j158
        obtain rfl := q158
        refine o_cons (o_yes rfl rfl h154 (o_val rfl (OV.cast (u := .bool true) (v_not rfl) (congrArg Value.bool (by cases hq : isF c l ch with | false => rfl | true => exact absurd (hist_mem ch |>.2 hq) (by rw [(cho_21 ((cho_bad0 p154).2.2.resolve_left p46)).2.2]; simp)))) ?_))
        refine go 6 ?_
        refine fin1 rfl rfl ?_
        exact q_vI rfl

end Go.Proofs.YtoadjlmbdliceaaGreat

/- The law PossibleHistories holds of the given program, for every input. No condition. -/
namespace Go.Proofs.YtoadjlmbdliceaaGreat
open Go Go.Sx
set_option linter.all false
theorem T.cel_24 : Tryz.prog.cellsOf 24 = 1 := by kernel_rfl
theorem T.cel_3 : Tryz.prog.cellsOf 3 = 1 := by kernel_rfl
theorem T.cel_47 : Tryz.prog.cellsOf 47 = 2 := by kernel_rfl
theorem T.cel_52 : Tryz.prog.cellsOf 52 = 2 := by kernel_rfl
theorem T.cel_54 : Tryz.prog.cellsOf 54 = 6 := by kernel_rfl
theorem T.cel_56 : Tryz.prog.cellsOf 56 = 14 := by kernel_rfl
theorem T.cel_82 : Tryz.prog.cellsOf 82 = 3 := by kernel_rfl
theorem T.cel_84 : Tryz.prog.cellsOf 84 = 3 := by kernel_rfl
theorem T.cel_9 : Tryz.prog.cellsOf 9 = 1 := by kernel_rfl
instance T.fds_24 : Has (fieldsK Tryz.prog 24) [(22, 0, 1)] := ⟨by kernel_rfl⟩
instance T.fds_47 : Has (fieldsK Tryz.prog 47) [(45, 0, 1), (4, 1, 1)] := ⟨by kernel_rfl⟩
instance T.fds_52 : Has (fieldsK Tryz.prog 52) [(3, 0, 1), (3, 1, 1)] := ⟨by kernel_rfl⟩
instance T.fds_54 : Has (fieldsK Tryz.prog 54) [(52, 0, 2), (52, 2, 2), (52, 4, 2)] := ⟨by kernel_rfl⟩
instance T.fds_56 : Has (fieldsK Tryz.prog 56) [(3, 0, 1), (3, 1, 1), (9, 2, 1), (9, 3, 1), (9, 4, 1), (9, 5, 1), (9, 6, 1), (9, 7, 1), (54, 8, 6)] := ⟨by kernel_rfl⟩
instance T.fds_82 : Has (fieldsK Tryz.prog 82) [(9, 0, 1), (4, 1, 1), (80, 2, 1)] := ⟨by kernel_rfl⟩
instance T.fds_84 : Has (fieldsK Tryz.prog 84) [(9, 0, 1), (61, 1, 1), (3, 2, 1)] := ⟨by kernel_rfl⟩
namespace lawPossibleHistories
open Go.ChangeShapes Go.WideShapes Go.ChangeAt Go.RowKit
theorem own : ownKnob Tryz.prog.godebug = none := by kernel_rfl
set_option maxRecDepth 100000 in
theorem lifted (os : Os) (started : os.Started) (H : Type) (enc : TypeId × Value → H) :
    ReturnsInHanded {} Tryz.checked os 14 .any (Rows.possibleHistoriesSpec.pre6 enc Tryz.prog Tryz.f14 Rows.possibleHistoriesRow.domain false) (Rows.possibleHistoriesSpec.post enc Tryz.prog Tryz.f14 false true false false) := by
  refine returnsInHanded_of_change (C := Tryz.checked) own started (by kernel_rfl) Tryz.func14
    (ChangeSpec.witness6 (enc := enc) (C := Tryz.checked) false ⟨#[], #[.agg #[.slice none 0 0], .slice none 0 0, .slice none 0 0], []⟩ 8 (by kernel_rfl) (by kernel_rfl) (by kernel_rfl) (by kernel_rfl)) ?_
  intro W base args ds gs before hval0 hW hcnd _
  have hval : ∀ (j : Nat) t v, Tryz.f14.params[j]? = some t → args[j]? = some v → Value.okWide Tryz.prog W .any base t v := hval0
  have hW' := hW
  obtain ⟨p, q, hA0, hV, rfl, hfz, hnd⟩ := hW
  have hA : DataW.TrodAll enc Tryz.prog W 0 (fun _ => true) true Tryz.f14.params.toList args.toList ds p := hA0
  rw [Tryz.params14] at hA hval
  obtain ⟨v0, vs0, d0, ds0, p0, q0, hargs, rfl, rfl, h0, r0⟩ := trodAll_cons hA
  obtain ⟨v1, vs1, d1, ds1, p1, q1, rfl, rfl, rfl, h1, r1⟩ := trodAll_cons r0
  obtain ⟨v2, vs2, d2, ds2, p2, q2, rfl, rfl, rfl, h2, r2⟩ := trodAll_cons r1
  obtain ⟨rfl, rfl, rfl⟩ := trodAll_nil r2
  obtain rfl : args = #[v0, v1, v2] := by cases args; simp_all
  obtain ⟨rfl, rfl⟩ := trodVars_none hV
  clear hA0 hval0
  obtain ⟨cs0, rfl, hz0⟩ := okWide_agg T.fds_24.eq (hval 0 24 v0 rfl rfl)
  obtain ⟨fu0, hf0⟩ := h0
  obtain ⟨l0, ⟨u0, e0, R0⟩, G0⟩ := (opens_wrap T.fds_24.eq T.cel_24 (opens_slice T.und_22.eq T.cel_82 rfl (opens_kind T.fds_82.eq T.cel_82 (opens_string T.und_9.eq) (opens_bool T.und_4.eq) (opens_slice T.und_80.eq T.cel_84 rfl (opens_slot T.fds_84.eq T.cel_84 (opens_string T.und_9.eq) (opens_slice T.und_61.eq T.cel_9 rfl (opens_string T.und_9.eq)) (opens_int T.und_3.eq)))))) enc W 0 _ true fu0 _ _ hf0
  obtain rfl : cs0 = #[u0] := Array.toList_inj.1 e0
  obtain ⟨s1, n1, c1, rfl⟩ := okWide_slice T.und_25.eq (hval 1 25 v1 rfl rfl)
  obtain ⟨fu1, hf1⟩ := h1
  obtain ⟨l1, ⟨u1, e1, R1⟩, G1⟩ := (opens_slice T.und_25.eq T.cel_47 rfl (opens_rep T.fds_47.eq T.cel_47 (opens_slice T.und_45.eq T.cel_56 rfl (opens_evt T.fds_56.eq T.cel_56 (opens_int T.und_3.eq) (opens_string T.und_9.eq) (opens_use T.fds_54.eq T.cel_54 (opens_ivl T.fds_52.eq T.cel_52 (opens_int T.und_3.eq))))) (opens_bool T.und_4.eq))) enc W 0 _ true fu1 _ _ hf1
  cases e1
  obtain ⟨s2, n2, c2, rfl⟩ := okWide_slice T.und_28.eq (hval 2 28 v2 rfl rfl)
  obtain ⟨fu2, hf2⟩ := h2
  obtain ⟨l2, ⟨u2, e2, R2⟩, G2⟩ := (opens_slice T.und_28.eq T.cel_3 rfl (opens_int T.und_3.eq)) enc W 0 _ true fu2 _ _ hf2
  cases e2
  exact law_calls (s := Rows.possibleHistoriesSpec) Tryz.call14 (lawPHistories (Iw W) _ l0 R0 G0 _ l1 R1 G1 _ l2 R2 G2) hW' (by kernel_rfl) (by kernel_rfl) rfl T.und_4.eq rfl rfl
theorem over : Rows.possibleHistoriesRow.holds Tryz.pinned (OpenSpec.ofChange Rows.possibleHistoriesSpec) :=
  OpenClaim.holds_of_wide 14 Tryz.f14 rfl rfl rfl rfl rfl rfl rfl ⟨rfl, rfl, rfl, rfl, rfl⟩ rfl rfl rfl rfl rfl (by kernel_rfl) Tryz.func14 (by kernel_rfl)
    (of_decide_eq_true (by kernel_rfl)) (by unfold Func.isWrapper; first | (rw [if_pos (by decide +kernel)]; kernel_rfl) | (rw [if_neg (by decide +kernel)]; exact ⟨rfl, rfl⟩))
    (fun os started H enc _ => lifted os started H enc)
/-- the statement -/
theorem proved : Rows.PossibleHistoriesSaid := over
end lawPossibleHistories
end Go.Proofs.YtoadjlmbdliceaaGreat

