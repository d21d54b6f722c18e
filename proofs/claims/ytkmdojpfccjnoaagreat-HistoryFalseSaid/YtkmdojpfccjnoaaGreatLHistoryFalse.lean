/- Walks, printed by a program out of the code of the functions: each theorem is a contract of one function. -/
import Derived.Test.YtkmdojpfccjnoaaGreatW33
import Derived.Test.YtkmdojpfccjnoaaGreatRepO
import Derived.Test.YtkmdojpfccjnoaaGreatMHF
namespace Go.Proofs.YtkmdojpfccjnoaaGreat
open Go Go.Sx
set_option linter.all false
set_option maxRecDepth 20000
set_option maxHeartbeats 4000000
theorem lawFalse (I : IMap) (vc : Value) (c : List Kind) (hvc : RdS I vc c) (hoc : ∀ x ∈ c, OkKd x) (v : Value) (l : List Rep) (hv : RdS I v l) (hok : ∀ x ∈ l, OkRp x) (w : Value) (raw : List UInt8) (hw : RdS I w raw) (hrw : ∀ x ∈ raw, True) (a0 : Int) (wa0 : (Lit.int .u16 a0).wf = true) (b0 : Int) (wb0 : (Lit.int .u16 b0).wf = true)  :
    FnV Tryz.prog 5 #[.agg #[vc], v, w, .int .u16 a0, .int .u16 b0] I (.bool true) := by
 obtain ⟨a, rfl, ha⟩ := u16_nat wa0
 obtain ⟨b, rfl, hb⟩ := u16_nat wb0
 refine enter Tryz.func5 Tryz.call5 rfl Tryz.ntmps5 rfl (fun w0 => ?_)
 refine go 3 ?_
 refine o_box _ rfl rfl rfl (fun g5 => ?_)
 refine go 6 ?_
 refine o_callV (head15 _) rfl rfl ?_
 refine go 9 ?_
 refine o_callV (law15few _ vc c hvc v l hv) rfl rfl ?_
 refine go 3 ?_
 refine cb rfl (fun h22 p22 => ?_) (fun h22 p22 => ?_)
 ·refine go 8 ?_
  refine fin1 rfl rfl ?_
  exact q_vI rfl
 ·have hf : fewC c = true ∧ fewR l 10 = true := by simpa using h22
  obtain ⟨hsl, hl⟩ := fewR_sm hf.2
  have hsc := fewC_sm hf.1
  have hl6 : l.length ≤ 1000000 := by omega
  refine go 7 ?_
  refine o_callX0 (ref15Fitted _ v l hv hsl hl6 w raw hw) rfl rfl (fun v26 s26 q26 => ?_)
  obtain ⟨xs26, rfl, hF26⟩ := q26
  refine sx_pubrow (l := fitF l raw) rfl (by rw [fit_len]) (hF26) (fun I26 j26 R26 => ?_)
  have hvc := hvc.le j26
  have hv := hv.le j26
  refine go 8 ?_
  refine o_callV (ref15Given _ vc c hvc hsc v l hv hsl) rfl rfl ?_
  refine go 9 ?_
  refine o_call (hiIs _ vc c hvc hsc v l hv hl6 hsl _ _ R26) rfl rfl (fun v33 I33 j33 q33 => ?_)
  try have hvc := hvc.le j33
  try have hv := hv.le j33
  try have R26 := R26.le j33
  obtain rfl := q33
  refine go 4 ?_
  refine sx_knowI (fun hE7 hf7 => ?_)
  refine d_startH T.mixed ?_
  refine d_tv 0 rfl rfl (by kernel_rfl) rfl (.refl _) rfl (v_ldw m0 he rfl rfl) ?_
  refine d_tv 1 rfl rfl (by kernel_rfl) rfl (.refl _) rfl (v_move rfl) ?_
  refine d_tv 2 rfl rfl (by kernel_rfl) rfl (.refl _) rfl (v_move rfl) ?_
  refine d_tv 3 rfl rfl (by kernel_rfl) rfl (.refl _) rfl (v_move rfl) ?_
  refine d_tv 4 rfl rfl (by kernel_rfl) rfl (.refl _) rfl (v_move rfl) ?_
  refine d_tv 5 rfl rfl (by kernel_rfl) rfl (.refl _) rfl (v_or16 ha hb rfl rfl) ?_
  refine d_one 6 (by kernel_rfl) rfl ?_
  refine o_callX0 (law15opened _ _ (fitF l raw) R26 (by rw [fit_len]; exact hl6) (a ||| b) (Nat.or_lt_two_pow (n := 16) ha hb)) rfl rfl (fun v40 s40 q40 => ?_)
  obtain ⟨xs40, rfl, hF40⟩ := q40
  refine sx_pubrow (l := openF (fitF l raw) (a ||| b)) rfl (by rw [openF_len, fit_len]) (hF40) (fun I40 j40 R40 => ?_)
  try have hvc := hvc.le j40
  try have hv := hv.le j40
  try have R26 := R26.le j40
  refine d_on (fun _ m => m.keepsI (.refl _) (j40) hE7 hf7) ?_
  refine d_one 7 (by kernel_rfl) rfl ?_
  refine o_call (hiFalse _ vc c hvc hsc v l hv hl6 hsl _ _ R40) rfl rfl (fun v41 I41 j41 q41 => ?_)
  try have hvc := hvc.le j41
  try have hv := hv.le j41
  try have R26 := R26.le j41
  obtain rfl := q41
  refine d_on (fun _ m => m.keepsI (.refl _) ((j40).trans j41) hE7 hf7) ?_
  refine d_t 8 rfl rfl (by kernel_rfl) rfl (fun _ m => m.keepsI (.refl _) ((j40).trans j41) hE7 hf7) (y_v rfl (v_assign rfl)) ?_
  refine d_done (by kernel_rfl) ?_
  refine go 2 ?_
  refine sx_knowI (fun hE8 hf8 => ?_)
  refine d_startH T.mixed ?_
  refine d_tv 0 rfl rfl (by kernel_rfl) rfl (.refl _) rfl (v_ldw m0 he rfl rfl) ?_
  refine d_tv 1 rfl rfl (by kernel_rfl) rfl (.refl _) rfl (v_move rfl) ?_
  refine d_tv 2 rfl rfl (by kernel_rfl) rfl (.refl _) rfl (v_move rfl) ?_
  refine d_tv 3 rfl rfl (by kernel_rfl) rfl (.refl _) rfl (v_move rfl) ?_
  refine d_one 4 (by kernel_rfl) rfl ?_
  refine o_callX0 (law15opened _ _ (fitF l raw) R26 (by rw [fit_len]; exact hl6) (a) ha) rfl rfl (fun v46 s46 q46 => ?_)
  obtain ⟨xs46, rfl, hF46⟩ := q46
  refine sx_pubrow (l := openF (fitF l raw) (a)) rfl (by rw [openF_len, fit_len]) (hF46) (fun I46 j46 R46 => ?_)
  try have hvc := hvc.le j46
  try have hv := hv.le j46
  try have R26 := R26.le j46
  refine d_on (fun _ m => m.keepsI (.refl _) (j46) hE8 hf8) ?_
  refine d_one 5 (by kernel_rfl) rfl ?_
  refine o_call (hiFalse _ vc c hvc hsc v l hv hl6 hsl _ _ R46) rfl rfl (fun v47 I47 j47 q47 => ?_)
  try have hvc := hvc.le j47
  try have hv := hv.le j47
  try have R26 := R26.le j47
  obtain rfl := q47
  refine d_on (fun _ m => m.keepsI (.refl _) ((j46).trans j47) hE8 hf8) ?_
  refine d_t 6 rfl rfl (by kernel_rfl) rfl (fun _ m => m.keepsI (.refl _) ((j46).trans j47) hE8 hf8) (y_v rfl (v_assign rfl)) ?_
  refine d_done (by kernel_rfl) ?_
  refine go 7 ?_
  refine o_call (hiFalse _ vc c hvc hsc v l hv hl6 hsl _ _ R26) rfl rfl (fun v51 I51 j51 q51 => ?_)
  try have hvc := hvc.le j51
  try have hv := hv.le j51
  try have R26 := R26.le j51
  obtain rfl := q51
  refine go 10 ?_
  refine sxb 56 rfl (fun h56 p56 => ?_) (fun h56 p56 => ?_)
  ·refine go 2 ?_
   refine o_v rfl (OV.cast (u := .bool true) (v_and_t rfl rfl rfl) (by first | rfl | exact congrArg Value.bool (by have := law_f1 c l raw a b; rw [h56] at this; simpa using this))) ?_
   refine go 4 ?_
   refine sxb 63 rfl (fun h63 p63 => ?_) (fun h63 p63 => ?_)
   ·refine go 2 ?_
    refine o_v rfl (OV.cast (u := .bool true) (v_and_t rfl rfl rfl) (by first | rfl | exact congrArg Value.bool (by have := law_f2 c l raw a; rw [h63] at this; simpa using this))) ?_
    refine go 4 ?_
    refine sxb 70 rfl (fun h70 p70 => ?_) (fun h70 p70 => ?_)
    ·refine go 3 ?_
     refine o_cons (o_yes rfl rfl rfl (o_val rfl (v_beql he rfl rfl) ?_))
     refine o_v rfl (OV.cast (u := .bool true) (v_and_t rfl rfl rfl) (congrArg Value.bool (by have := law_f3 c l raw; simp_all))) ?_
     refine go 4 ?_
     refine fin1 rfl rfl ?_
     exact q_vI rfl
    ·refine go 3 ?_
     refine o_cons (o_yes rfl rfl rfl (o_val rfl (v_beql he rfl rfl) ?_))
     refine o_v rfl (OV.cast (u := .bool true) (v_and_t rfl rfl rfl) (congrArg Value.bool (by have := law_f3 c l raw; simp_all))) ?_
     refine go 4 ?_
     refine fin1 rfl rfl ?_
     exact q_vI rfl
   ·refine go 2 ?_
    refine o_v rfl (OV.cast (u := .bool true) (v_and_t rfl rfl rfl) (by first | rfl | exact congrArg Value.bool (by have := law_f2 c l raw a; rw [h63] at this; simpa using this))) ?_
    refine go 4 ?_
    refine sxb 70 rfl (fun h70 p70 => ?_) (fun h70 p70 => ?_)
    ·refine go 3 ?_
     refine o_cons (o_yes rfl rfl rfl (o_val rfl (v_beql he rfl rfl) ?_))
     refine o_v rfl (OV.cast (u := .bool true) (v_and_t rfl rfl rfl) (congrArg Value.bool (by have := law_f3 c l raw; simp_all))) ?_
     refine go 4 ?_
     refine fin1 rfl rfl ?_
     exact q_vI rfl
    ·refine go 3 ?_
     refine o_cons (o_yes rfl rfl rfl (o_val rfl (v_beql he rfl rfl) ?_))
     refine o_v rfl (OV.cast (u := .bool true) (v_and_t rfl rfl rfl) (congrArg Value.bool (by have := law_f3 c l raw; simp_all))) ?_
     refine go 4 ?_
     refine fin1 rfl rfl ?_
     exact q_vI rfl
  ·refine go 2 ?_
   refine o_v rfl (OV.cast (u := .bool true) (v_and_t rfl rfl rfl) (by first | rfl | exact congrArg Value.bool (by have := law_f1 c l raw a b; rw [h56] at this; simpa using this))) ?_
   refine go 4 ?_
   refine sxb 63 rfl (fun h63 p63 => ?_) (fun h63 p63 => ?_)
   ·refine go 2 ?_
    refine o_v rfl (OV.cast (u := .bool true) (v_and_t rfl rfl rfl) (by first | rfl | exact congrArg Value.bool (by have := law_f2 c l raw a; rw [h63] at this; simpa using this))) ?_
    refine go 4 ?_
    refine sxb 70 rfl (fun h70 p70 => ?_) (fun h70 p70 => ?_)
    ·refine go 3 ?_
     refine o_cons (o_yes rfl rfl rfl (o_val rfl (v_beql he rfl rfl) ?_))
     refine o_v rfl (OV.cast (u := .bool true) (v_and_t rfl rfl rfl) (congrArg Value.bool (by have := law_f3 c l raw; simp_all))) ?_
     refine go 4 ?_
     refine fin1 rfl rfl ?_
     exact q_vI rfl
    ·refine go 3 ?_
     refine o_cons (o_yes rfl rfl rfl (o_val rfl (v_beql he rfl rfl) ?_))
     refine o_v rfl (OV.cast (u := .bool true) (v_and_t rfl rfl rfl) (congrArg Value.bool (by have := law_f3 c l raw; simp_all))) ?_
     refine go 4 ?_
     refine fin1 rfl rfl ?_
     exact q_vI rfl
   ·refine go 2 ?_
    refine o_v rfl (OV.cast (u := .bool true) (v_and_t rfl rfl rfl) (by first | rfl | exact congrArg Value.bool (by have := law_f2 c l raw a; rw [h63] at this; simpa using this))) ?_
    refine go 4 ?_
    refine sxb 70 rfl (fun h70 p70 => ?_) (fun h70 p70 => ?_)
    ·refine go 3 ?_
     refine o_cons (o_yes rfl rfl rfl (o_val rfl (v_beql he rfl rfl) ?_))
     refine o_v rfl (OV.cast (u := .bool true) (v_and_t rfl rfl rfl) (congrArg Value.bool (by have := law_f3 c l raw; simp_all))) ?_
     refine go 4 ?_
     refine fin1 rfl rfl ?_
     exact q_vI rfl
    ·refine go 3 ?_
     refine o_cons (o_yes rfl rfl rfl (o_val rfl (v_beql he rfl rfl) ?_))
     refine o_v rfl (OV.cast (u := .bool true) (v_and_t rfl rfl rfl) (congrArg Value.bool (by have := law_f3 c l raw; simp_all))) ?_
     refine go 4 ?_
     refine fin1 rfl rfl ?_
     exact q_vI rfl

end Go.Proofs.YtkmdojpfccjnoaaGreat
