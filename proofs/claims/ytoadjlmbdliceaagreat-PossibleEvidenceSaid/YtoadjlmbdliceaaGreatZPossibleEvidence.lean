/- The law PossibleEvidence holds of the given program, for every input. No condition. -/
import Derived.Test.YtoadjlmbdliceaaGreatZPe
import Derived.OpenShut
import Derived.ProofKit
import Derived.Test.YtoadjlmbdliceaaGreatRows
/- Walks, printed by a program out of the code of the functions: each theorem is a contract of one function. -/
namespace Go.Proofs.YtoadjlmbdliceaaGreat
open Go Go.Sx
set_option linter.all false
set_option maxRecDepth 20000
set_option maxHeartbeats 4000000
instance T.und_42 : Has (Tryz.prog.underlying 42) (.int .u16) := ⟨by kernel_rfl⟩
theorem lawPEvidence (I : IMap) (vc : Value) (c : List Kind) (hvc : RdS I vc c) (hoc : ∀ x ∈ c, OkKd x) (v : Value) (l : List Rep) (hv : RdS I v l) (hok : ∀ x ∈ l, OkRp x) (a0 : Int) (wa0 : (Lit.int .u8 a0).wf = true) (b0 : Int) (wb0 : (Lit.int .u8 b0).wf = true)  :
    FnV Tryz.prog 11 #[.agg #[vc], v, .int .u8 a0, .int .u8 b0] I (.bool true) := by
 obtain ⟨a, rfl, ha⟩ := u8_nat wa0
 obtain ⟨b, rfl, hb⟩ := u8_nat wb0
 have hv0 := hv
 obtain ⟨A, c0, rfl, hA, hc, hm⟩ := hv
 refine enter Tryz.func11 Tryz.call11 rfl Tryz.ntmps11 rfl (fun w0 => ?_)
 refine go 3 ?_
 refine o_box _ rfl rfl rfl (fun g4 => ?_)
 refine go 6 ?_
 refine o_callV (head17 _) rfl rfl ?_
 refine go 9 ?_
 refine o_callV (law17few _ vc c hvc _ l hv0) rfl rfl ?_
 refine go 2 ?_
 refine sxb 29 rfl (fun h29 p29 => ?_) (fun h29 p29 => ?_)
 ·refine go 6 ?_
  refine c_true rfl ?_
  refine go 8 ?_
  refine fin1 rfl rfl ?_
  exact q_vI rfl
 ·refine go 6 ?_
  refine cb rfl (fun h33 p33 => ?_) (fun h33 p33 => ?_)
  ·refine go 8 ?_
   refine fin1 rfl rfl ?_
   exact q_vI rfl
  ·have hf : fewC c = true ∧ few17 l 25 = true := by simpa using h29
   obtain ⟨hf2, hwn⟩ := few17_sm hf.2
   obtain ⟨hsl, hl⟩ := fewR_sm hf2
   have hsc := fewC_sm hf.1
   have hl6 : l.length ≤ 1000000 := by omega
   have h30 : l.length ≤ 30 := by omega
   have hwl : waysN l < 4096 := by omega
   have hl0 : 0 < l.length := by omega
   obtain ⟨i, hii⟩ : ∃ i, a % l.length = i := ⟨_, rfl⟩
   have hi : i < l.length := by rw [← hii]; exact Nat.mod_lt _ hl0
   refine go 5 ?_
   refine o_v rfl (v_conv he he rfl (m := ((a : Nat) : Int)) (by rw [IntKind.wrap_i64]; omega)) ?_
   refine go 2 ?_
   refine o_v rfl (OV.cast (u := .int .i64 ((i : Nat) : Int)) (v_rem rfl rfl (by omega) (by omega)) (by rw [hii])) ?_
   refine go 8 ?_
   refine o_call (possChoices _ vc c hvc hsc _ l hv0 hl6 hsl h30 hwl) rfl rfl (fun v43 I43 j43 q43 => ?_)
   try have hvc := hvc.le j43
   try have hv0 := hv0.le j43
   try have hA := hA.le j43
   try have hw23 := hw23.le j43
   try have hw29 := hw29.le j43
   try have hw35 := hw35.le j43
   try have hw41 := hw41.le j43
   try have hTA := hTA.le j43
   try have hSA := hSA.le j43
   try have hw0 := hw0.le j43
   try have hCA := hCA.le j43
   try have q101 := q101.le j43
   try have hXA := hXA.le j43
   try have hYA := hYA.le j43
   try have hw43 := hw43.le j43
   try have hw49 := hw49.le j43
   try have hw105 := hw105.le j43
   obtain ⟨w43, rfl, hw43⟩ := q43
   refine go 12 ?_
   refine o_call (possSure _ vc c hvc hsc _ l hv0 hl6 hsl h30 hwl) rfl rfl (fun v49 I49 j49 q49 => ?_)
   try have hvc := hvc.le j49
   try have hv0 := hv0.le j49
   try have hA := hA.le j49
   try have hw23 := hw23.le j49
   try have hw29 := hw29.le j49
   try have hw35 := hw35.le j49
   try have hw41 := hw41.le j49
   try have hTA := hTA.le j49
   try have hSA := hSA.le j49
   try have hw0 := hw0.le j49
   try have hCA := hCA.le j49
   try have q101 := q101.le j49
   try have hXA := hXA.le j49
   try have hYA := hYA.le j49
   try have hw43 := hw43.le j49
   try have hw49 := hw49.le j49
   try have hw105 := hw105.le j49
   obtain ⟨w49, rfl, hw49⟩ := q49
   obtain ⟨TA, tc, rfl, hTA, _, _⟩ := hw43
   obtain ⟨SA, sc, rfl, hSA, _, _⟩ := hw49
   refine go 13 ?_
   refine sxb 54 rfl (fun h54 p54 => ?_) (fun h54 p54 => ?_)
   ·refine go 23 ?_
    refine c_true rfl ?_
    refine go 5 ?_
    refine o_cons (o_yes rfl rfl rfl (o_val rfl (OV.cast (u := .bool true) (v_neq rfl rfl) (congrArg Value.bool h54)) ?_))
    refine go 6 ?_
    refine fin1 rfl rfl ?_
    exact q_vI rfl
   ·have h0 : (choF c l).2 = 0 := by simpa using h54
    have hTl := cho_len h0
    have hSl := sure_len h0
    obtain ⟨hT, hrl, hrk⟩ := cho_row h0 hi
    obtain ⟨hC, hP, hn, _⟩ := cho_zero h0
    have hcp := chs_pos (valid_chs (hP _ (List.getElem_mem hi)))
    have hc5 := chs_five l[i]
    obtain ⟨k, hkk⟩ : ∃ k, b % (choF c l).1[i].length = k := ⟨_, rfl⟩
    have hk : k < (choF c l).1[i].length := by rw [← hkk]; exact Nat.mod_lt _ (by omega)
    have hkc : (k : Int) < chs l[i] := by omega
    refine go 4 ?_
    refine o_cons (o_yes rfl rfl h54 (o_val rfl (OV.cast (u := .bool false) (v_neq rfl rfl) (congrArg Value.bool (by simp [hTl]))) ?_))
    refine go 6 ?_
    refine o_cons (o_yes rfl rfl rfl (o_val rfl (OV.cast (u := .bool false) (v_neq rfl rfl) (congrArg Value.bool (by simp [hSl]))) ?_))
    refine go 4 ?_
    obtain ⟨b71, o71, w71, e71, c71, r71⟩ := RdA.at_ hTA (i := i) (by omega)
    obtain ⟨q71, rfl, S71, d71, rfl, hS71, hd71, hm71⟩ := r71
    refine o_cons (o_yes rfl rfl rfl (o_val rfl (v_idx he rfl rfl e71 (i) (by omega) (by omega)) ?_))
    refine o_cons (o_yes rfl rfl rfl (o_val rfl (v_ldI he rfl (c71 0 _ rfl)) ?_))
    refine go 1 ?_
    refine o_cons (o_yes rfl rfl rfl (o_val rfl (OV.cast (u := .bool false) (v_eql rfl rfl) (congrArg Value.bool (decide_eq_false (by omega)))) ?_))
    refine go 3 ?_
    refine c_false rfl ?_
    refine go 5 ?_
    refine o_v rfl (v_conv he he rfl (m := ((b : Nat) : Int)) (by rw [IntKind.wrap_i64]; omega)) ?_
    refine go 2 ?_
    obtain ⟨b85, o85, w85, e85, c85, r85⟩ := RdA.at_ hTA (i := i) (by omega)
    obtain ⟨q85, rfl, S85, d85, rfl, hS85, hd85, hm85⟩ := r85
    refine o_v rfl (v_idx he rfl rfl e85 (i) (by omega) (by omega)) ?_
    refine o_v rfl (v_ldI he rfl (c85 0 _ rfl)) ?_
    refine go 1 ?_
    refine o_v rfl (OV.cast (u := .int .i64 ((k : Nat) : Int)) (v_rem rfl rfl (by omega) (by omega)) (by rw [hkk])) ?_
    refine go 8 ?_
    obtain ⟨b91, o91, w91, e91, c91, r91⟩ := RdA.at_ hTA (i := i) (by omega)
    obtain ⟨q91, rfl, S91, d91, rfl, hS91, hd91, hm91⟩ := r91
    refine o_v rfl (v_idx he rfl rfl e91 (i) (by omega) (by omega)) ?_
    refine o_v rfl (v_ldI he rfl (c91 0 _ rfl)) ?_
    refine go 1 ?_
    obtain ⟨b94, o94, w94, e94, c94, r94⟩ := RdA.at_ hS91 (i := k) (by omega)
    obtain rfl := r94
    refine o_v rfl (v_idx he rfl rfl e94 (k) (by omega) (by omega)) ?_
    refine o_v rfl (v_ldI he rfl (c94 0 _ rfl)) ?_
    refine go 3 ?_
    refine cb rfl (fun h96 p96 => ?_) (fun h96 p96 => ?_)
    ·refine go 8 ?_
     refine fin1 rfl rfl ?_
     exact q_vI rfl
    ·have hh : hasF c l i (k : Int) = true := by rw [← hrk k hk]; simpa using h96
     have hpv := fun q hq => law_pev (q := q) h30 h0 hi hkc hh hq
     have hdl := dec_len (k := k) hi
     have hD0 := dec_code hC hP h30 hi hkc hh
     have hdw := dec_ways (k := k) hP hi
     have hXl := cho_len hD0
     have hYl := sure_len hD0
     refine go 8 ?_
     refine o_call (ref17Decided _ _ l hv0 hl6 hsl i k hi (by omega)) rfl rfl (fun v101 I101 j101 q101 => ?_)
     try have hvc := hvc.le j101
     try have hv0 := hv0.le j101
     try have hA := hA.le j101
     try have hw23 := hw23.le j101
     try have hw29 := hw29.le j101
     try have hw35 := hw35.le j101
     try have hw41 := hw41.le j101
     try have hTA := hTA.le j101
     try have hSA := hSA.le j101
     try have hw0 := hw0.le j101
     try have hCA := hCA.le j101
     try have q101 := q101.le j101
     try have hXA := hXA.le j101
     try have hYA := hYA.le j101
     try have hw43 := hw43.le j101
     try have hw49 := hw49.le j101
     try have hw105 := hw105.le j101
     have q101s := q101
     obtain ⟨DA, dc, rfl, _, _, _⟩ := q101s
     refine go 8 ?_
     refine o_call (possChoices _ vc c hvc hsc _ (decF l i k l[i]) q101 (by omega) (dec_sm hsl hi) (by omega) (by omega)) rfl rfl (fun v105 I105 j105 q105 => ?_)
     try have hvc := hvc.le j105
     try have hv0 := hv0.le j105
     try have hA := hA.le j105
     try have hw23 := hw23.le j105
     try have hw29 := hw29.le j105
     try have hw35 := hw35.le j105
     try have hw41 := hw41.le j105
     try have hTA := hTA.le j105
     try have hSA := hSA.le j105
     try have hw0 := hw0.le j105
     try have hCA := hCA.le j105
     try have q101 := q101.le j105
     try have hXA := hXA.le j105
     try have hYA := hYA.le j105
     try have hw43 := hw43.le j105
     try have hw49 := hw49.le j105
     try have hw105 := hw105.le j105
     obtain ⟨w105, rfl, hw105⟩ := q105
     refine go 12 ?_
     refine o_call (possSure _ vc c hvc hsc _ (decF l i k l[i]) q101 (by omega) (dec_sm hsl hi) (by omega) (by omega)) rfl rfl (fun v111 I111 j111 q111 => ?_)
     try have hvc := hvc.le j111
     try have hv0 := hv0.le j111
     try have hA := hA.le j111
     try have hw23 := hw23.le j111
     try have hw29 := hw29.le j111
     try have hw35 := hw35.le j111
     try have hw41 := hw41.le j111
     try have hTA := hTA.le j111
     try have hSA := hSA.le j111
     try have hw0 := hw0.le j111
     try have hCA := hCA.le j111
     try have q101 := q101.le j111
     try have hXA := hXA.le j111
     try have hYA := hYA.le j111
     try have hw43 := hw43.le j111
     try have hw49 := hw49.le j111
     try have hw105 := hw105.le j111
     obtain ⟨w111, rfl, hw111⟩ := q111
     obtain ⟨XA, xc, rfl, hXA, _, _⟩ := hw105
     obtain ⟨YA, yc, rfl, hYA, _, _⟩ := hw111
     refine go 11 ?_
     refine o_v rfl (OV.cast (u := .bool false) (v_neq rfl rfl) (congrArg Value.bool (by rw [hD0]; rfl))) ?_
     refine go 5 ?_
     refine o_cons (o_yes rfl rfl rfl (o_val rfl (OV.cast (u := .bool false) (v_neq rfl rfl) (congrArg Value.bool (by simp [hXl]))) ?_))
     refine go 6 ?_
     refine o_cons (o_yes rfl rfl rfl (o_val rfl (OV.cast (u := .bool false) (v_neq rfl rfl) (congrArg Value.bool (by simp [hYl]))) ?_))
     refine go 3 ?_
     refine c_false rfl ?_
     refine go 9 ?_
     refine sx_drop ?_
     refine c_loop (α := Nat) 0 (fun q => I111)
      (fun q => [(1, .slice A l.length c0), (9, .bool true), (10, .int .i64 ((i : Nat) : Int)), (11, .slice TA (choF c l).1.length tc), (13, .slice SA (sureF c l).1.length sc), (16, .slice DA (decF l i k l[i]).length dc), (17, .slice XA (choF c (decF l i k l[i])).1.length xc), (19, .slice YA (sureF c (decF l i k l[i])).1.length yc), (21, .int .i64 ((q : Nat) : Int))])
      (fun q => [])
      (fun q => q ≤ (decF l i k l[i]).length)
      (fun q => (decF l i k l[i]).length - q) (Nat.zero_le _) rfl sb rfl ?_
     intro q hq0
     refine go 9 ?_
     refine cb rfl (fun h133 p133 => ?_) (fun h133 p133 => ?_)
     ·have hq : q < (decF l i k l[i]).length := by omega
      obtain ⟨hx, hy, ha, hb, hl1, hl2⟩ := hpv q hq
      refine go 11 ?_
      refine c_cut (I' := I111) (L' := [(1, .slice A l.length c0), (9, .bool true), (10, .int .i64 ((i : Nat) : Int)), (11, .slice TA (choF c l).1.length tc), (13, .slice SA (sureF c l).1.length sc), (16, .slice DA (decF l i k l[i]).length dc), (17, .slice XA (choF c (decF l i k l[i])).1.length xc), (19, .slice YA (sureF c (decF l i k l[i])).1.length yc), (21, .int .i64 ((q : Nat) : Int)), (22, .int .i64 (((wasF (decF l i k l[i]).length l.length i q) : Nat) : Int))]) (H' := []) ?_ ?_
      ·refine go 8 ?_
       refine sxb 142 rfl (fun h142 p142 => ?_) (fun h142 p142 => ?_)
       ·refine go 6 ?_
        refine cb rfl (fun h146 p146 => ?_) (fun h146 p146 => ?_)
        ·refine go 6 ?_
         exact q_cut ⟨rfl, rfl, rfl, rfl, rfl, rfl, rfl, rfl, rfl, (congrArg (fun z => some (Value.int .i64 z)) (by unfold wasF; split <;> omega)), trivial⟩ rfl rfl
        ·refine go 2 ?_
         exact q_cut ⟨rfl, rfl, rfl, rfl, rfl, rfl, rfl, rfl, rfl, (congrArg (fun z => some (Value.int .i64 z)) (by unfold wasF; split <;> omega)), trivial⟩ rfl rfl
       ·refine go 6 ?_
        refine c_false rfl ?_
        refine go 2 ?_
        exact q_cut ⟨rfl, rfl, rfl, rfl, rfl, rfl, rfl, rfl, rfl, (congrArg (fun z => some (Value.int .i64 z)) (by unfold wasF; split <;> omega)), trivial⟩ rfl rfl
      ·refine go 8 ?_
       refine cb rfl (fun h151 p151 => ?_) (fun h151 p151 => ?_)
       ·have hz := hl1 (by omega)
        refine go 5 ?_
        obtain ⟨b154, o154, w154, e154, c154, r154⟩ := RdA.at_ hYA (i := q) (by omega)
        obtain rfl := r154
        refine o_v rfl (v_idx he rfl rfl e154 (q) (by omega) (by omega)) ?_
        refine o_v rfl (v_ldI he rfl (c154 0 _ rfl)) ?_
        refine o_v rfl (OV.cast (u := .bool false) (v_neq rfl rfl) (congrArg Value.bool (by rw [hz]; rfl))) ?_
        refine go 2 ?_
        refine c_false rfl ?_
        refine go 12 ?_
        exact q_next (q + 1) (by omega) (by omega) rfl sb rfl
       ·obtain ⟨hl3, hl4, hl5⟩ := hl2 (by omega)
        refine go 4 ?_
        refine d_startH T.mixed ?_
        refine d_tv 0 rfl rfl (by kernel_rfl) rfl .slnil rfl (v_move rfl) ?_
        refine d_tv 1 rfl rfl (by kernel_rfl) rfl .slnil rfl (v_move rfl) ?_
        obtain ⟨b159, o159, w159, e159, c159, r159⟩ := RdA.at_ hXA (i := q) (by omega)
        obtain ⟨q159, rfl, S159, d159, rfl, hS159, hd159, hm159⟩ := r159
        refine d_tv 2 rfl rfl (by kernel_rfl) rfl .slnil rfl (v_idx he rfl rfl e159 (q) (by omega) (by omega)) ?_
        refine d_tv 3 rfl rfl (by kernel_rfl) rfl .slnil rfl (v_ldI he rfl (c159 0 _ rfl)) ?_
        refine d_tv 4 rfl rfl (by kernel_rfl) rfl .slnil rfl (v_len_slice he rfl) ?_
        refine d_tv 5 rfl rfl (by kernel_rfl) rfl .slnil rfl (v_move rfl) ?_
        refine d_tv 6 rfl rfl (by kernel_rfl) rfl .slnil rfl (v_move rfl) ?_
        obtain ⟨b164, o164, w164, e164, c164, r164⟩ := RdA.at_ hTA (i := (wasF (decF l i k l[i]).length l.length i q)) (by omega)
        obtain ⟨q164, rfl, S164, d164, rfl, hS164, hd164, hm164⟩ := r164
        refine d_tv 7 rfl rfl (by kernel_rfl) rfl .slnil rfl (v_idx he rfl rfl e164 ((wasF (decF l i k l[i]).length l.length i q)) (by omega) (by omega)) ?_
        refine d_tv 8 rfl rfl (by kernel_rfl) rfl .slnil rfl (v_ldI he rfl (c164 0 _ rfl)) ?_
        refine d_tv 9 rfl rfl (by kernel_rfl) rfl .slnil rfl (v_len_slice he rfl) ?_
        refine d_tv 10 rfl rfl (by kernel_rfl) rfl .slnil rfl (OV.cast (u := .bool false) (v_neq rfl rfl) (congrArg Value.bool (by rw [hl3]; simp))) ?_
        refine d_tv 11 rfl rfl (by kernel_rfl) rfl .slnil rfl (v_move rfl) ?_
        refine d_t 12 rfl rfl (by kernel_rfl) rfl (fun _ m => m.keeps .slnil) (y_yes rfl rfl rfl (v_move rfl)) ?_
        refine d_t 13 rfl rfl (by kernel_rfl) rfl (fun _ m => m.keeps .slnil) (y_yes rfl rfl rfl (v_move rfl)) ?_
        obtain ⟨b171, o171, w171, e171, c171, r171⟩ := RdA.at_ hSA (i := (wasF (decF l i k l[i]).length l.length i q)) (by omega)
        obtain rfl := r171
        refine d_t 14 rfl rfl (by kernel_rfl) rfl (fun _ m => m.keeps .slnil) (y_yes rfl rfl rfl (v_idx he rfl rfl e171 ((wasF (decF l i k l[i]).length l.length i q)) (by omega) (by omega))) ?_
        refine d_t 15 rfl rfl (by kernel_rfl) rfl (fun _ m => m.keeps .slnil) (y_yes rfl rfl rfl (v_ldI he rfl (c171 0 _ rfl))) ?_
        refine d_t 16 rfl rfl (by kernel_rfl) rfl (fun _ m => m.keeps .slnil) (y_yes rfl rfl rfl (v_geq rfl rfl)) ?_
        refine d_t 17 rfl rfl (by kernel_rfl) rfl (fun _ m => m.keeps .slnil) (y_yes rfl rfl rfl (v_move rfl)) ?_
        refine sxb 174 rfl (fun h174 p174 => ?_) (fun h174 p174 => ?_)
        ·refine d_t 18 rfl rfl (by kernel_rfl) rfl (fun _ m => m.keeps .slnil) (y_yes rfl rfl h174 (v_move rfl)) ?_
         refine d_t 19 rfl rfl (by kernel_rfl) rfl (fun _ m => m.keeps .slnil) (y_yes rfl rfl h174 (v_move rfl)) ?_
         obtain ⟨b177, o177, w177, e177, c177, r177⟩ := RdA.at_ hYA (i := q) (by omega)
         obtain rfl := r177
         refine d_t 20 rfl rfl (by kernel_rfl) rfl (fun _ m => m.keeps .slnil) (y_yes rfl rfl h174 (v_idx he rfl rfl e177 (q) (by omega) (by omega))) ?_
         refine d_t 21 rfl rfl (by kernel_rfl) rfl (fun _ m => m.keeps .slnil) (y_yes rfl rfl h174 (v_ldI he rfl (c177 0 _ rfl))) ?_
         refine d_t 22 rfl rfl (by kernel_rfl) rfl (fun _ m => m.keeps .slnil) (y_yes rfl rfl h174 (v_move rfl)) ?_
         refine d_t 23 rfl rfl (by kernel_rfl) rfl (fun _ m => m.keeps .slnil) (y_yes rfl rfl h174 (v_move rfl)) ?_
         obtain ⟨b181, o181, w181, e181, c181, r181⟩ := RdA.at_ hSA (i := (wasF (decF l i k l[i]).length l.length i q)) (by omega)
         obtain rfl := r181
         refine d_t 24 rfl rfl (by kernel_rfl) rfl (fun _ m => m.keeps .slnil) (y_yes rfl rfl h174 (v_idx he rfl rfl e181 ((wasF (decF l i k l[i]).length l.length i q)) (by omega) (by omega))) ?_
         refine d_t 25 rfl rfl (by kernel_rfl) rfl (fun _ m => m.keeps .slnil) (y_yes rfl rfl h174 (v_ldI he rfl (c181 0 _ rfl))) ?_
         refine d_t 26 rfl rfl (by kernel_rfl) rfl (fun _ m => m.keeps .slnil) (y_yes rfl rfl h174 (OV.cast (u := .bool false) (v_neq rfl rfl) (congrArg Value.bool (by rw [hl4 (by omega)]; simp)))) ?_
         refine d_t 27 rfl rfl (by kernel_rfl) rfl (fun _ m => m.keeps .slnil) (y_yes rfl rfl rfl (v_and_t h174 rfl rfl)) ?_
         refine d_tv 28 rfl rfl (by kernel_rfl) rfl .slnil rfl (v_or_f rfl rfl rfl) ?_
         refine d_done (by kernel_rfl) ?_
         refine go 1 ?_
         refine c_false rfl ?_
         refine go 8 ?_
         refine c_loop (α := Nat) 0 (fun j => I111)
          (fun j => [(1, .slice A l.length c0), (9, .bool true), (10, .int .i64 ((i : Nat) : Int)), (11, .slice TA (choF c l).1.length tc), (13, .slice SA (sureF c l).1.length sc), (16, .slice DA (decF l i k l[i]).length dc), (17, .slice XA (choF c (decF l i k l[i])).1.length xc), (19, .slice YA (sureF c (decF l i k l[i])).1.length yc), (21, .int .i64 ((q : Nat) : Int)), (22, .int .i64 (((wasF (decF l i k l[i]).length l.length i q) : Nat) : Int)), (23, .int .i64 ((j : Nat) : Int))])
          (fun j => [])
          (fun j => j ≤ (choF c (decF l i k l[i])).1[q].length)
          (fun j => (choF c (decF l i k l[i])).1[q].length - j) (Nat.zero_le _) rfl sb rfl ?_
         intro j hj0
         refine go 6 ?_
         obtain ⟨b189, o189, w189, e189, c189, r189⟩ := RdA.at_ hXA (i := q) (by omega)
         obtain ⟨q189, rfl, S189, d189, rfl, hS189, hd189, hm189⟩ := r189
         refine o_v rfl (v_idx he rfl rfl e189 (q) (by omega) (by omega)) ?_
         refine o_v rfl (v_ldI he rfl (c189 0 _ rfl)) ?_
         refine go 4 ?_
         refine cb rfl (fun h192 p192 => ?_) (fun h192 p192 => ?_)
         ·have hj : j < (choF c (decF l i k l[i])).1[q].length := by omega
          have hj2 : j < (choF c l).1[(wasF (decF l i k l[i]).length l.length i q)].length := by omega
          refine go 8 ?_
          obtain ⟨b197, o197, w197, e197, c197, r197⟩ := RdA.at_ hXA (i := q) (by omega)
          obtain ⟨q197, rfl, S197, d197, rfl, hS197, hd197, hm197⟩ := r197
          refine o_v rfl (v_idx he rfl rfl e197 (q) (by omega) (by omega)) ?_
          refine o_v rfl (v_ldI he rfl (c197 0 _ rfl)) ?_
          refine go 1 ?_
          obtain ⟨b200, o200, w200, e200, c200, r200⟩ := RdA.at_ hS197 (i := j) (by omega)
          obtain rfl := r200
          refine o_v rfl (v_idx he rfl rfl e200 (j) (by omega) (by omega)) ?_
          refine o_v rfl (v_ldI he rfl (c200 0 _ rfl)) ?_
          refine go 1 ?_
          refine sxb 202 rfl (fun h202 p202 => ?_) (fun h202 p202 => ?_)
          ·refine go 2 ?_
           obtain ⟨b205, o205, w205, e205, c205, r205⟩ := RdA.at_ hTA (i := (wasF (decF l i k l[i]).length l.length i q)) (by omega)
           obtain ⟨q205, rfl, S205, d205, rfl, hS205, hd205, hm205⟩ := r205
           refine o_cons (o_yes rfl rfl h202 (o_val rfl (v_idx he rfl rfl e205 ((wasF (decF l i k l[i]).length l.length i q)) (by omega) (by omega)) ?_))
           refine o_cons (o_yes rfl rfl h202 (o_val rfl (v_ldI he rfl (c205 0 _ rfl)) ?_))
           refine go 1 ?_
           obtain ⟨b208, o208, w208, e208, c208, r208⟩ := RdA.at_ hS205 (i := j) (by omega)
           obtain rfl := r208
           refine o_cons (o_yes rfl rfl h202 (o_val rfl (v_idx he rfl rfl e208 (j) (by omega) (by omega)) ?_))
           refine o_cons (o_yes rfl rfl h202 (o_val rfl (OV.cast (u := .bool true) (v_ldI he rfl (c208 0 _ rfl)) (congrArg Value.bool (hl5 j hj hj2 h202))) ?_))
           refine go 4 ?_
           refine c_false rfl ?_
           refine go 9 ?_
           exact q_next (j + 1) (by omega) (by omega) rfl sb rfl
          ·refine go 11 ?_
           refine c_false rfl ?_
           refine go 9 ?_
           exact q_next (j + 1) (by omega) (by omega) rfl sb rfl
         ·refine go 12 ?_
          exact q_next (q + 1) (by omega) (by omega) rfl sb rfl
        ·refine d_t 18 rfl rfl (by kernel_rfl) rfl (fun _ m => m.keeps .slnil) (y_no rfl rfl h174) ?_
         refine d_t 19 rfl rfl (by kernel_rfl) rfl (fun _ m => m.keeps .slnil) (y_no rfl rfl h174) ?_
         refine d_t 20 rfl rfl (by kernel_rfl) rfl (fun _ m => m.keeps .slnil) (y_no rfl rfl h174) ?_
         refine d_t 21 rfl rfl (by kernel_rfl) rfl (fun _ m => m.keeps .slnil) (y_no rfl rfl h174) ?_
         refine d_t 22 rfl rfl (by kernel_rfl) rfl (fun _ m => m.keeps .slnil) (y_no rfl rfl h174) ?_
         refine d_t 23 rfl rfl (by kernel_rfl) rfl (fun _ m => m.keeps .slnil) (y_no rfl rfl h174) ?_
         refine d_t 24 rfl rfl (by kernel_rfl) rfl (fun _ m => m.keeps .slnil) (y_no rfl rfl h174) ?_
         refine d_t 25 rfl rfl (by kernel_rfl) rfl (fun _ m => m.keeps .slnil) (y_no rfl rfl h174) ?_
         refine d_t 26 rfl rfl (by kernel_rfl) rfl (fun _ m => m.keeps .slnil) (y_no rfl rfl h174) ?_
         refine d_t 27 rfl rfl (by kernel_rfl) rfl (fun _ m => m.keeps .slnil) (y_yes rfl rfl rfl (v_and_f h174 rfl)) ?_
         refine d_tv 28 rfl rfl (by kernel_rfl) rfl .slnil rfl (v_or_f rfl rfl rfl) ?_
         refine d_done (by kernel_rfl) ?_
         refine go 1 ?_
         refine c_false rfl ?_
         refine go 8 ?_
         refine c_loop (α := Nat) 0 (fun j => I111)
          (fun j => [(1, .slice A l.length c0), (9, .bool true), (10, .int .i64 ((i : Nat) : Int)), (11, .slice TA (choF c l).1.length tc), (13, .slice SA (sureF c l).1.length sc), (16, .slice DA (decF l i k l[i]).length dc), (17, .slice XA (choF c (decF l i k l[i])).1.length xc), (19, .slice YA (sureF c (decF l i k l[i])).1.length yc), (21, .int .i64 ((q : Nat) : Int)), (22, .int .i64 (((wasF (decF l i k l[i]).length l.length i q) : Nat) : Int)), (23, .int .i64 ((j : Nat) : Int))])
          (fun j => [])
          (fun j => j ≤ (choF c (decF l i k l[i])).1[q].length)
          (fun j => (choF c (decF l i k l[i])).1[q].length - j) (Nat.zero_le _) rfl sb rfl ?_
         intro j hj0
         refine go 6 ?_
         obtain ⟨b189, o189, w189, e189, c189, r189⟩ := RdA.at_ hXA (i := q) (by omega)
         obtain ⟨q189, rfl, S189, d189, rfl, hS189, hd189, hm189⟩ := r189
         refine o_v rfl (v_idx he rfl rfl e189 (q) (by omega) (by omega)) ?_
         refine o_v rfl (v_ldI he rfl (c189 0 _ rfl)) ?_
         refine go 4 ?_
         refine cb rfl (fun h192 p192 => ?_) (fun h192 p192 => ?_)
         ·have hj : j < (choF c (decF l i k l[i])).1[q].length := by omega
          have hj2 : j < (choF c l).1[(wasF (decF l i k l[i]).length l.length i q)].length := by omega
          refine go 8 ?_
          obtain ⟨b197, o197, w197, e197, c197, r197⟩ := RdA.at_ hXA (i := q) (by omega)
          obtain ⟨q197, rfl, S197, d197, rfl, hS197, hd197, hm197⟩ := r197
          refine o_v rfl (v_idx he rfl rfl e197 (q) (by omega) (by omega)) ?_
          refine o_v rfl (v_ldI he rfl (c197 0 _ rfl)) ?_
          refine go 1 ?_
          obtain ⟨b200, o200, w200, e200, c200, r200⟩ := RdA.at_ hS197 (i := j) (by omega)
          obtain rfl := r200
          refine o_v rfl (v_idx he rfl rfl e200 (j) (by omega) (by omega)) ?_
          refine o_v rfl (v_ldI he rfl (c200 0 _ rfl)) ?_
          refine go 1 ?_
          refine sxb 202 rfl (fun h202 p202 => ?_) (fun h202 p202 => ?_)
          ·refine go 2 ?_
           obtain ⟨b205, o205, w205, e205, c205, r205⟩ := RdA.at_ hTA (i := (wasF (decF l i k l[i]).length l.length i q)) (by omega)
           obtain ⟨q205, rfl, S205, d205, rfl, hS205, hd205, hm205⟩ := r205
           refine o_cons (o_yes rfl rfl h202 (o_val rfl (v_idx he rfl rfl e205 ((wasF (decF l i k l[i]).length l.length i q)) (by omega) (by omega)) ?_))
           refine o_cons (o_yes rfl rfl h202 (o_val rfl (v_ldI he rfl (c205 0 _ rfl)) ?_))
           refine go 1 ?_
           obtain ⟨b208, o208, w208, e208, c208, r208⟩ := RdA.at_ hS205 (i := j) (by omega)
           obtain rfl := r208
           refine o_cons (o_yes rfl rfl h202 (o_val rfl (v_idx he rfl rfl e208 (j) (by omega) (by omega)) ?_))
           refine o_cons (o_yes rfl rfl h202 (o_val rfl (OV.cast (u := .bool true) (v_ldI he rfl (c208 0 _ rfl)) (congrArg Value.bool (hl5 j hj hj2 h202))) ?_))
           refine go 4 ?_
           refine c_false rfl ?_
           refine go 9 ?_
           exact q_next (j + 1) (by omega) (by omega) rfl sb rfl
          ·refine go 11 ?_
           refine c_false rfl ?_
           refine go 9 ?_
           exact q_next (j + 1) (by omega) (by omega) rfl sb rfl
         ·refine go 12 ?_
          exact q_next (q + 1) (by omega) (by omega) rfl sb rfl
     ·refine go 12 ?_
      refine fin1 rfl rfl ?_
      exact q_vI rfl

end Go.Proofs.YtoadjlmbdliceaaGreat

/- The law PossibleEvidence holds of the given program, for every input. No condition. -/
namespace Go.Proofs.YtoadjlmbdliceaaGreat
open Go Go.Sx
set_option linter.all false
theorem T.cel_24 : Tryz.prog.cellsOf 24 = 1 := by kernel_rfl
theorem T.cel_47 : Tryz.prog.cellsOf 47 = 2 := by kernel_rfl
theorem T.cel_52 : Tryz.prog.cellsOf 52 = 2 := by kernel_rfl
theorem T.cel_54 : Tryz.prog.cellsOf 54 = 6 := by kernel_rfl
theorem T.cel_56 : Tryz.prog.cellsOf 56 = 14 := by kernel_rfl
theorem T.cel_82 : Tryz.prog.cellsOf 82 = 3 := by kernel_rfl
theorem T.cel_84 : Tryz.prog.cellsOf 84 = 3 := by kernel_rfl
theorem T.cel_9 : Tryz.prog.cellsOf 9 = 1 := by kernel_rfl
instance T.fds_24 : Has (fieldsK Tryz.prog 24) [(22, 0, 1)] := ⟨by kernel_rfl⟩
instance T.fds_47 : Has (fieldsK Tryz.prog 47) [(45, 0, 1), (4, 1, 1)] := ⟨by kernel_rfl⟩
instance T.fds_52 : Has (fieldsK Tryz.prog 52) [(3, 0, 1), (3, 1, 1)] := ⟨by kernel_rfl⟩
instance T.fds_54 : Has (fieldsK Tryz.prog 54) [(52, 0, 2), (52, 2, 2), (52, 4, 2)] := ⟨by kernel_rfl⟩
instance T.fds_56 : Has (fieldsK Tryz.prog 56) [(3, 0, 1), (3, 1, 1), (9, 2, 1), (9, 3, 1), (9, 4, 1), (9, 5, 1), (9, 6, 1), (9, 7, 1), (54, 8, 6)] := ⟨by kernel_rfl⟩
instance T.fds_82 : Has (fieldsK Tryz.prog 82) [(9, 0, 1), (4, 1, 1), (80, 2, 1)] := ⟨by kernel_rfl⟩
instance T.fds_84 : Has (fieldsK Tryz.prog 84) [(9, 0, 1), (61, 1, 1), (3, 2, 1)] := ⟨by kernel_rfl⟩
namespace lawPossibleEvidence
open Go.ChangeShapes Go.WideShapes Go.ChangeAt Go.RowKit
theorem own : ownKnob Tryz.prog.godebug = none := by kernel_rfl
set_option maxRecDepth 100000 in
theorem lifted (os : Os) (started : os.Started) (H : Type) (enc : TypeId × Value → H) :
    ReturnsInHanded {} Tryz.checked os 11 .any (Rows.possibleEvidenceSpec.pre6 enc Tryz.prog Tryz.f11 Rows.possibleEvidenceRow.domain false) (Rows.possibleEvidenceSpec.post enc Tryz.prog Tryz.f11 false true false false) := by
  refine returnsInHanded_of_change (C := Tryz.checked) own started (by kernel_rfl) Tryz.func11
    (ChangeSpec.witness6 (enc := enc) (C := Tryz.checked) false ⟨#[], #[.agg #[.slice none 0 0], .slice none 0 0, .int .u8 0, .int .u8 0], []⟩ 8 (by kernel_rfl) (by kernel_rfl) (by kernel_rfl) (by kernel_rfl)) ?_
  intro W base args ds gs before hval0 hW hcnd _
  have hval : ∀ (j : Nat) t v, Tryz.f11.params[j]? = some t → args[j]? = some v → Value.okWide Tryz.prog W .any base t v := hval0
  have hW' := hW
  obtain ⟨p, q, hA0, hV, rfl, hfz, hnd⟩ := hW
  have hA : DataW.TrodAll enc Tryz.prog W 0 (fun _ => true) true Tryz.f11.params.toList args.toList ds p := hA0
  rw [Tryz.params11] at hA hval
  obtain ⟨v0, vs0, d0, ds0, p0, q0, hargs, rfl, rfl, h0, r0⟩ := trodAll_cons hA
  obtain ⟨v1, vs1, d1, ds1, p1, q1, rfl, rfl, rfl, h1, r1⟩ := trodAll_cons r0
  obtain ⟨v2, vs2, d2, ds2, p2, q2, rfl, rfl, rfl, h2, r2⟩ := trodAll_cons r1
  obtain ⟨v3, vs3, d3, ds3, p3, q3, rfl, rfl, rfl, h3, r3⟩ := trodAll_cons r2
  obtain ⟨rfl, rfl, rfl⟩ := trodAll_nil r3
  obtain rfl : args = #[v0, v1, v2, v3] := by cases args; simp_all
  obtain ⟨rfl, rfl⟩ := trodVars_none hV
  clear hA0 hval0
  obtain ⟨cs0, rfl, hz0⟩ := okWide_agg T.fds_24.eq (hval 0 24 v0 rfl rfl)
  obtain ⟨fu0, hf0⟩ := h0
  obtain ⟨l0, ⟨u0, e0, R0⟩, G0⟩ := (opens_wrap T.fds_24.eq T.cel_24 (opens_slice T.und_22.eq T.cel_82 rfl (opens_kind T.fds_82.eq T.cel_82 (opens_string T.und_9.eq) (opens_bool T.und_4.eq) (opens_slice T.und_80.eq T.cel_84 rfl (opens_slot T.fds_84.eq T.cel_84 (opens_string T.und_9.eq) (opens_slice T.und_61.eq T.cel_9 rfl (opens_string T.und_9.eq)) (opens_int T.und_3.eq)))))) enc W 0 _ true fu0 _ _ hf0
  obtain rfl : cs0 = #[u0] := Array.toList_inj.1 e0
  obtain ⟨s1, n1, c1, rfl⟩ := okWide_slice T.und_25.eq (hval 1 25 v1 rfl rfl)
  obtain ⟨fu1, hf1⟩ := h1
  obtain ⟨l1, ⟨u1, e1, R1⟩, G1⟩ := (opens_slice T.und_25.eq T.cel_47 rfl (opens_rep T.fds_47.eq T.cel_47 (opens_slice T.und_45.eq T.cel_56 rfl (opens_evt T.fds_56.eq T.cel_56 (opens_int T.und_3.eq) (opens_string T.und_9.eq) (opens_use T.fds_54.eq T.cel_54 (opens_ivl T.fds_52.eq T.cel_52 (opens_int T.und_3.eq))))) (opens_bool T.und_4.eq))) enc W 0 _ true fu1 _ _ hf1
  cases e1
  obtain ⟨a2, rfl, rfl, rfl, w2⟩ := open_int T.und_5.eq (hval 2 5 v2 rfl rfl) h2
  obtain ⟨a3, rfl, rfl, rfl, w3⟩ := open_int T.und_5.eq (hval 3 5 v3 rfl rfl) h3
  exact law_calls (s := Rows.possibleEvidenceSpec) Tryz.call11 (lawPEvidence (Iw W) _ l0 R0 G0 _ l1 R1 G1 a2 w2 a3 w3) hW' (by kernel_rfl) (by kernel_rfl) rfl T.und_4.eq rfl rfl
theorem over : Rows.possibleEvidenceRow.holds Tryz.pinned (OpenSpec.ofChange Rows.possibleEvidenceSpec) :=
  OpenClaim.holds_of_wide 11 Tryz.f11 rfl rfl rfl rfl rfl rfl rfl ⟨rfl, rfl, rfl, rfl, rfl⟩ rfl rfl rfl rfl rfl (by kernel_rfl) Tryz.func11 (by kernel_rfl)
    (of_decide_eq_true (by kernel_rfl)) (by unfold Func.isWrapper; first | (rw [if_pos (by decide +kernel)]; kernel_rfl) | (rw [if_neg (by decide +kernel)]; exact ⟨rfl, rfl⟩))
    (fun os started H enc _ => lifted os started H enc)
/-- the statement -/
theorem proved : Rows.PossibleEvidenceSaid := over
end lawPossibleEvidence
end Go.Proofs.YtoadjlmbdliceaaGreat

