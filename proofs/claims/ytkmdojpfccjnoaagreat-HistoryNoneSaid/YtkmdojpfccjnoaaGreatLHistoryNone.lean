/- Walks, printed by a program out of the code of the functions: each theorem is a contract of one function. -/
import Derived.Test.YtkmdojpfccjnoaaGreatW33
import Derived.Test.YtkmdojpfccjnoaaGreatRepO
import Derived.Test.YtkmdojpfccjnoaaGreatMHN
import Derived.Test.YtkmdojpfccjnoaaGreatSxSet
namespace Go.Proofs.YtkmdojpfccjnoaaGreat
open Go Go.Sx
set_option linter.all false
set_option maxRecDepth 20000
set_option maxHeartbeats 4000000
theorem lawNone (I : IMap) (vc : Value) (c : List Kind) (hvc : RdS I vc c) (hoc : ∀ x ∈ c, OkKd x) (v : Value) (l : List Rep) (hv : RdS I v l) (hok : ∀ x ∈ l, OkRp x) (w : Value) (raw : List UInt8) (hw : RdS I w raw) (hrw : ∀ x ∈ raw, True) (a0 : Int) (wa0 : (Lit.int .u8 a0).wf = true) (b0 : Int) (wb0 : (Lit.int .u16 b0).wf = true)  :
    FnV Tryz.prog 6 #[.agg #[vc], v, w, .int .u8 a0, .int .u16 b0] I (.bool true) := by
 have hv0 := hv
 obtain ⟨A, c0, rfl, hA, hc, hm⟩ := hv
 obtain ⟨a, rfl, ha⟩ := u8_nat wa0
 obtain ⟨b, rfl, hb⟩ := u16_nat wb0
 refine enter Tryz.func6 Tryz.call6 rfl Tryz.ntmps6 rfl (fun w0 => ?_)
 refine go 3 ?_
 refine o_box _ rfl rfl rfl (fun g5 => ?_)
 refine go 6 ?_
 refine o_callV (head15 _) rfl rfl ?_
 refine go 9 ?_
 refine o_callV (law15few _ vc c hvc _ l hv0) rfl rfl ?_
 refine go 2 ?_
 refine sxb 23 rfl (fun h23 p23 => ?_) (fun h23 p23 => ?_)
 ·refine go 6 ?_
  refine c_true rfl ?_
  refine go 8 ?_
  refine fin1 rfl rfl ?_
  exact q_vI rfl
 ·have hf : fewC c = true ∧ fewR l 10 = true := by simpa using h23
  obtain ⟨hsl, hl⟩ := fewR_sm hf.2
  have hsc := fewC_sm hf.1
  have hl6 : l.length ≤ 1000000 := by omega
  refine go 6 ?_
  refine cb rfl (fun h27 p27 => ?_) (fun h27 p27 => ?_)
  ·refine go 8 ?_
   refine fin1 rfl rfl ?_
   exact q_vI rfl
  ·have hl0 : 0 < l.length := by omega
   have hk : a % l.length < l.length := Nat.mod_lt _ hl0
   refine go 5 ?_
   refine o_v rfl (v_conv he he rfl (m := ((a : Nat) : Int)) (by rw [IntKind.wrap_i64]; omega)) ?_
   refine go 2 ?_
   refine o_v rfl (v_rem rfl rfl (by omega) (by omega)) ?_
   refine go 8 ?_
   obtain ⟨b36, o36, w36, e36, c36, r36⟩ := RdA.at_ hA (i := a % l.length) (by omega)
   obtain ⟨q36, rfl, S36, d36, rfl, hS36, hd36, hm36⟩ := r36
   refine o_v rfl (v_idx he rfl rfl e36 (a % l.length) (by omega) (by omega)) ?_
   refine o_v rfl (v_ldIa he rfl c36 rfl) ?_
   refine go 1 ?_
   refine o_callV (repValid _ l[a % l.length] S36 d36 ⟨_, _, rfl, hS36, hd36, hm36⟩ (hsl _ (List.getElem_mem hk))) rfl rfl ?_
   refine go 2 ?_
   refine sxb 40 rfl (fun h40 p40 => ?_) (fun h40 p40 => ?_)
   ·refine go 9 ?_
    refine c_true rfl ?_
    refine go 8 ?_
    refine fin1 rfl rfl ?_
    exact q_vI rfl
   ·refine go 2 ?_
    obtain ⟨b43, o43, w43, e43, c43, r43⟩ := RdA.at_ hA (i := a % l.length) (by omega)
    obtain ⟨q43, rfl, S43, d43, rfl, hS43, hd43, hm43⟩ := r43
    refine o_cons (o_yes rfl rfl h40 (o_val rfl (v_idx he rfl rfl e43 (a % l.length) (by omega) (by omega)) ?_))
    refine go 1 ?_
    refine o_cons (o_yes rfl rfl h40 (o_val rfl (v_ldI he rfl (c43 1 _ rfl)) ?_))
    refine go 4 ?_
    refine cb rfl (fun h47 p47 => ?_) (fun h47 p47 => ?_)
    ·refine go 8 ?_
     refine fin1 rfl rfl ?_
     exact q_vI rfl
    ·have hvk : validRep l[a % l.length] = true := by simpa using h40
     have hdk : l[a % l.length].doubtful = true := by simpa using h47
     refine go 7 ?_
     refine o_callX0 (ref15Fitted _ _ l hv0 hsl hl6 w raw hw) rfl rfl (fun v51 s51 q51 => ?_)
     obtain ⟨xs51, rfl, hF51⟩ := q51
     refine go 9 ?_
     obtain ⟨b56, o56, w56, e56, c56, r56⟩ := RdA.at_ hA (i := a % l.length) (by omega)
     obtain ⟨q56, rfl, S56, d56, rfl, hS56, hd56, hm56⟩ := r56
     refine o_v rfl (v_idx he rfl rfl e56 (a % l.length) (by omega) (by omega)) ?_
     refine go 1 ?_
     refine o_v rfl (v_ldI he rfl (c56 0 _ rfl)) ?_
     refine go 1 ?_
     refine sx_rowF hF51 rfl (by rw [fit_len]) (by rw [fit_len]; omega) (fun g60 cap60 rest60 xss60 hv60 hC60 hR60 hc60 hl60 => ?_)
     subst hv60
     refine o_v rfl (v_idx he rfl rfl rfl (a % l.length) (by omega) (by omega)) ?_
     refine go 1 ?_
     refine o_stc _ (a % l.length) (Uk.append (show Uk 1 xss60 from hC60.uk) hR60) he rfl rfl rfl rfl rfl (by omega) (by rw [List.length_append, hC60.len, fit_len]; omega) ?_
     refine sx_unrowF (l := fitF l raw) (((l[a % l.length].options.length : Nat) : Int)) hC60 hR60 rfl (by rw [fit_len]) (by rw [fit_len]; omega) hc60 hl60 rfl (fun ws60 hF60 => ?_)
     obtain ⟨ch, hch⟩ : ∃ q, q = (fitF l raw).set (a % l.length) (((l[a % l.length].options.length : Nat) : Int)) := ⟨_, rfl⟩
     rw [← hch] at hF60
     have lch : ch.length = (fitF l raw).length := by rw [hch, List.length_set]
     refine sx_pubrow (l := ch) rfl (by rw [lch, fit_len]) (hF60) (fun I60 j60 R60 => ?_)
     try have hvc := hvc.le j60
     try have hv0 := hv0.le j60
     try have hA := hA.le j60
     try have R51 := R51.le j60
     try have hB60 := hB60.le j60
     try have R60 := R60.le j60
     try have hB70 := hB70.le j60
     try have R70 := R70.le j60
     try have R80 := R80.le j60
     try have R90 := R90.le j60
     try have R100 := R100.le j60
     have hB60 := R60.toA
     have hE60 := R60.eqL
     have lch2 : ch.length = l.length := by rw [lch, fit_len]
     have hce : ch[a % l.length] = ((l[a % l.length].options.length : Nat) : Int) := by simp [hch]
     refine go 7 ?_
     refine o_callX0 (law15opened _ _ ch R60 (by omega) b hb) rfl rfl (fun v63 s63 q63 => ?_)
     obtain ⟨xs63, rfl, hF63⟩ := q63
     refine go 9 ?_
     obtain ⟨b68, o68, w68, e68, c68, r68⟩ := RdA.at_ hB60 (i := a % l.length) (by omega)
     obtain rfl := r68
     refine o_v rfl (v_idx he rfl rfl e68 (a % l.length) (by omega) (by omega)) ?_
     refine o_v rfl (v_ldI he rfl (c68 0 _ rfl)) ?_
     refine sx_rowF hF63 rfl (by rw [openF_len]) (by rw [openF_len]; omega) (fun g70 cap70 rest70 xss70 hv70 hC70 hR70 hc70 hl70 => ?_)
     subst hv70
     refine o_v rfl (v_idx he rfl rfl rfl (a % l.length) (by omega) (by omega)) ?_
     refine go 1 ?_
     refine o_stc _ (a % l.length) (Uk.append (show Uk 1 xss70 from hC70.uk) hR70) he rfl rfl rfl rfl rfl (by omega) (by rw [List.length_append, hC70.len, openF_len]; omega) ?_
     refine sx_unrowF (l := openF ch b) (ch[a % l.length]) hC70 hR70 rfl (by rw [openF_len]) (by rw [openF_len]; omega) hc70 hl70 rfl (fun ws70 hF70 => ?_)
     obtain ⟨op, hop⟩ : ∃ q, q = (openF ch b).set (a % l.length) (ch[a % l.length]) := ⟨_, rfl⟩
     rw [← hop] at hF70
     have lop : op.length = (openF ch b).length := by rw [hop, List.length_set]
     refine sx_pubrow (l := op) rfl (by rw [lop, openF_len]) (hF70) (fun I70 j70 R70 => ?_)
     try have hvc := hvc.le j70
     try have hv0 := hv0.le j70
     try have hA := hA.le j70
     try have R51 := R51.le j70
     try have hB60 := hB60.le j70
     try have R60 := R60.le j70
     try have hB70 := hB70.le j70
     try have R70 := R70.le j70
     try have R80 := R80.le j70
     try have R90 := R90.le j70
     try have R100 := R100.le j70
     have hB70 := R70.toA
     have hE70 := R70.eqL
     have lop2 : op.length = l.length := by rw [lop, openF_len, lch2]
     have hoe : op[a % l.length] = ((l[a % l.length].options.length : Nat) : Int) := by simp [hop, hce]
     have hcl := cutAt_len hk
     refine go 3 ?_
     refine sx_knowI (fun hE11 hf11 => ?_)
     refine d_startH T.mixed ?_
     refine d_tv 1 rfl rfl (by kernel_rfl) rfl (.refl _) rfl (v_move rfl) ?_
     refine d_tv 2 rfl rfl (by kernel_rfl) rfl (.refl _) rfl (v_move rfl) ?_
     refine d_tv 3 rfl rfl (by kernel_rfl) rfl (.refl _) rfl (v_slice_hi he rfl rfl (a % l.length) (by omega) (by omega)) ?_
     refine d_tv 5 rfl rfl (by kernel_rfl) rfl (.refl _) rfl (v_move rfl) ?_
     refine d_tv 6 rfl rfl (by kernel_rfl) rfl (.refl _) rfl (v_move rfl) ?_
     refine d_tv 7 rfl rfl (by kernel_rfl) rfl (.refl _) rfl (v_add rfl rfl ⟨by omega, by omega⟩) ?_
     refine d_tv 8 rfl rfl (by kernel_rfl) rfl (.refl _) rfl (v_slice_lo he rfl rfl ((a % l.length) + 1) (by omega) (by omega)) ?_
     refine d_one 0 (by kernel_rfl) rfl ?_
     refine o_buildSlice he he rfl rfl rfl rfl rfl rfl rfl (fun v71 => ?_)
     refine d_on (fun _ m => m.keeps (.cons _ (.refl _))) ?_
     refine d_one 4 (by kernel_rfl) rfl ?_
     refine o_appendR ((hv0.takeM ((a % l.length)) (by omega))) rfl he he rfl rfl rfl rfl (by simp only [List.length_take, List.length_drop]; omega) (by simp only [List.length_take, List.length_drop]; omega) rfl (fun v75 x75 f75 => ?_)
     refine d_on (fun _ m => m.keeps (.cons _ (.refl _))) ?_
     refine d_one 9 (by kernel_rfl) rfl ?_
     refine o_appendR ((hv0.dropM ((a % l.length) + 1) (by omega))) rfl he he rfl rfl rfl rfl (by simp only [List.length_take, List.length_drop]; omega) (by simp only [List.length_take, List.length_drop]; omega) rfl (fun v80 x80 f80 => ?_)
     refine sx_pubrow (l := cutAt l ((a % l.length))) rfl (by rw [cutAt, List.length_append, Nat.zero_add]) ((f75.append f80)) (fun I80 j80 R80 => ?_)
     try have hvc := hvc.le j80
     try have hv0 := hv0.le j80
     try have hA := hA.le j80
     try have R51 := R51.le j80
     try have hB60 := hB60.le j80
     try have R60 := R60.le j80
     try have hB70 := hB70.le j80
     try have R70 := R70.le j80
     try have R80 := R80.le j80
     try have R90 := R90.le j80
     try have R100 := R100.le j80
     refine d_on (fun _ m => m.keepsI (.refl _) (j80) hE11 hf11) ?_
     refine d_t 10 rfl rfl (by kernel_rfl) rfl (fun _ m => m.keepsI (.refl _) (j80) hE11 hf11) (y_v rfl (v_assign rfl)) ?_
     refine d_done (by kernel_rfl) ?_
     refine go 2 ?_
     refine sx_knowI (fun hE12 hf12 => ?_)
     refine d_startH T.mixed ?_
     refine d_tv 1 rfl rfl (by kernel_rfl) rfl (.refl _) rfl (v_move rfl) ?_
     refine d_tv 2 rfl rfl (by kernel_rfl) rfl (.refl _) rfl (v_move rfl) ?_
     refine d_tv 3 rfl rfl (by kernel_rfl) rfl (.refl _) rfl (v_slice_hi he rfl rfl (a % l.length) (by omega) (by omega)) ?_
     refine d_tv 5 rfl rfl (by kernel_rfl) rfl (.refl _) rfl (v_move rfl) ?_
     refine d_tv 6 rfl rfl (by kernel_rfl) rfl (.refl _) rfl (v_move rfl) ?_
     refine d_tv 7 rfl rfl (by kernel_rfl) rfl (.refl _) rfl (v_add rfl rfl ⟨by omega, by omega⟩) ?_
     refine d_tv 8 rfl rfl (by kernel_rfl) rfl (.refl _) rfl (v_slice_lo he rfl rfl ((a % l.length) + 1) (by omega) (by omega)) ?_
     refine d_one 0 (by kernel_rfl) rfl ?_
     refine o_buildSlice he he rfl rfl rfl rfl rfl rfl rfl (fun v81 => ?_)
     refine d_on (fun _ m => m.keeps (.cons _ (.refl _))) ?_
     refine d_one 4 (by kernel_rfl) rfl ?_
     refine o_appendR ((R60.takeM ((a % l.length)) (by omega))) rfl he he rfl rfl rfl rfl (by simp only [List.length_take, List.length_drop]; omega) (by simp only [List.length_take, List.length_drop]; omega) rfl (fun v85 x85 f85 => ?_)
     refine d_on (fun _ m => m.keeps (.cons _ (.refl _))) ?_
     refine d_one 9 (by kernel_rfl) rfl ?_
     refine o_appendR ((R60.dropM ((a % l.length) + 1) (by omega))) rfl he he rfl rfl rfl rfl (by simp only [List.length_take, List.length_drop]; omega) (by simp only [List.length_take, List.length_drop]; omega) rfl (fun v90 x90 f90 => ?_)
     refine sx_pubrow (l := cutAt ch ((a % l.length))) rfl (by rw [cutAt, List.length_append, Nat.zero_add]) ((f85.append f90)) (fun I90 j90 R90 => ?_)
     try have hvc := hvc.le j90
     try have hv0 := hv0.le j90
     try have hA := hA.le j90
     try have R51 := R51.le j90
     try have hB60 := hB60.le j90
     try have R60 := R60.le j90
     try have hB70 := hB70.le j90
     try have R70 := R70.le j90
     try have R80 := R80.le j90
     try have R90 := R90.le j90
     try have R100 := R100.le j90
     refine d_on (fun _ m => m.keepsI (.refl _) (j90) hE12 hf12) ?_
     refine d_t 10 rfl rfl (by kernel_rfl) rfl (fun _ m => m.keepsI (.refl _) (j90) hE12 hf12) (y_v rfl (v_assign rfl)) ?_
     refine d_done (by kernel_rfl) ?_
     refine go 2 ?_
     refine sx_knowI (fun hE13 hf13 => ?_)
     refine d_startH T.mixed ?_
     refine d_tv 1 rfl rfl (by kernel_rfl) rfl (.refl _) rfl (v_move rfl) ?_
     refine d_tv 2 rfl rfl (by kernel_rfl) rfl (.refl _) rfl (v_move rfl) ?_
     refine d_tv 3 rfl rfl (by kernel_rfl) rfl (.refl _) rfl (v_slice_hi he rfl rfl (a % l.length) (by omega) (by omega)) ?_
     refine d_tv 5 rfl rfl (by kernel_rfl) rfl (.refl _) rfl (v_move rfl) ?_
     refine d_tv 6 rfl rfl (by kernel_rfl) rfl (.refl _) rfl (v_move rfl) ?_
     refine d_tv 7 rfl rfl (by kernel_rfl) rfl (.refl _) rfl (v_add rfl rfl ⟨by omega, by omega⟩) ?_
     refine d_tv 8 rfl rfl (by kernel_rfl) rfl (.refl _) rfl (v_slice_lo he rfl rfl ((a % l.length) + 1) (by omega) (by omega)) ?_
     refine d_one 0 (by kernel_rfl) rfl ?_
     refine o_buildSlice he he rfl rfl rfl rfl rfl rfl rfl (fun v91 => ?_)
     refine d_on (fun _ m => m.keeps (.cons _ (.refl _))) ?_
     refine d_one 4 (by kernel_rfl) rfl ?_
     refine o_appendR ((R70.takeM ((a % l.length)) (by omega))) rfl he he rfl rfl rfl rfl (by simp only [List.length_take, List.length_drop]; omega) (by simp only [List.length_take, List.length_drop]; omega) rfl (fun v95 x95 f95 => ?_)
     refine d_on (fun _ m => m.keeps (.cons _ (.refl _))) ?_
     refine d_one 9 (by kernel_rfl) rfl ?_
     refine o_appendR ((R70.dropM ((a % l.length) + 1) (by omega))) rfl he he rfl rfl rfl rfl (by simp only [List.length_take, List.length_drop]; omega) (by simp only [List.length_take, List.length_drop]; omega) rfl (fun v100 x100 f100 => ?_)
     refine sx_pubrow (l := cutAt op ((a % l.length))) rfl (by rw [cutAt, List.length_append, Nat.zero_add]) ((f95.append f100)) (fun I100 j100 R100 => ?_)
     try have hvc := hvc.le j100
     try have hv0 := hv0.le j100
     try have hA := hA.le j100
     try have R51 := R51.le j100
     try have hB60 := hB60.le j100
     try have R60 := R60.le j100
     try have hB70 := hB70.le j100
     try have R70 := R70.le j100
     try have R80 := R80.le j100
     try have R90 := R90.le j100
     try have R100 := R100.le j100
     refine d_on (fun _ m => m.keepsI (.refl _) (j100) hE13 hf13) ?_
     refine d_t 10 rfl rfl (by kernel_rfl) rfl (fun _ m => m.keepsI (.refl _) (j100) hE13 hf13) (y_v rfl (v_assign rfl)) ?_
     refine d_done (by kernel_rfl) ?_
     refine go 2 ?_
     refine sx_knowI (fun hE14 hf14 => ?_)
     refine d_startH T.mixed ?_
     refine d_tv 0 rfl rfl (by kernel_rfl) rfl (.refl _) rfl (v_move rfl) ?_
     refine d_tv 1 rfl rfl (by kernel_rfl) rfl (.refl _) rfl (v_move rfl) ?_
     refine d_t 2 rfl rfl (by kernel_rfl) rfl (fun _ m => m.keeps (.refl _)) (y_yes rfl rfl rfl (v_ldw m0 he rfl rfl)) ?_
     refine d_t 3 rfl rfl (by kernel_rfl) rfl (fun _ m => m.keeps (.refl _)) (y_yes rfl rfl rfl (v_move rfl)) ?_
     refine d_t 4 rfl rfl (by kernel_rfl) rfl (fun _ m => m.keeps (.refl _)) (y_yes rfl rfl rfl (v_move rfl)) ?_
     refine d_t 6 rfl rfl (by kernel_rfl) rfl (fun _ m => m.keeps (.refl _)) (y_yes rfl rfl rfl (v_ldw m0 he rfl rfl)) ?_
     refine d_t 7 rfl rfl (by kernel_rfl) rfl (fun _ m => m.keeps (.refl _)) (y_yes rfl rfl rfl (v_move rfl)) ?_
     refine d_t 8 rfl rfl (by kernel_rfl) rfl (fun _ m => m.keeps (.refl _)) (y_yes rfl rfl rfl (v_move rfl)) ?_
     refine d_one 5 (by kernel_rfl) rfl ?_
     refine o_yes rfl rfl rfl (o_call (hiIs _ vc c hvc hsc _ l hv0 (by omega) hsl _ ch R60) rfl rfl (fun v106 I106 j106 q106 => ?_))
     try have hvc := hvc.le j106
     try have hv0 := hv0.le j106
     try have hA := hA.le j106
     try have R51 := R51.le j106
     try have hB60 := hB60.le j106
     try have R60 := R60.le j106
     try have hB70 := hB70.le j106
     try have R70 := R70.le j106
     try have R80 := R80.le j106
     try have R90 := R90.le j106
     try have R100 := R100.le j106
     obtain rfl := q106
     refine d_on (fun _ m => m.keepsI (.refl _) (j106) hE14 hf14) ?_
     refine d_one 9 (by kernel_rfl) rfl ?_
     refine o_yes rfl rfl rfl (o_call (hiIs _ vc c hvc hsc _ (cutAt l (a % l.length)) R80 (by omega) (fun r hr => hsl r (cutAt_mem hr)) _ (cutAt ch (a % l.length)) R90) rfl rfl (fun v110 I110 j110 q110 => ?_))
     try have hvc := hvc.le j110
     try have hv0 := hv0.le j110
     try have hA := hA.le j110
     try have R51 := R51.le j110
     try have hB60 := hB60.le j110
     try have R60 := R60.le j110
     try have hB70 := hB70.le j110
     try have R70 := R70.le j110
     try have R80 := R80.le j110
     try have R90 := R90.le j110
     try have R100 := R100.le j110
     obtain rfl := q110
     refine d_on (fun _ m => m.keepsI (.refl _) ((j106).trans j110) hE14 hf14) ?_
     refine d_t 10 rfl rfl (by kernel_rfl) rfl (fun _ m => m.keepsI (.refl _) ((j106).trans j110) hE14 hf14) (y_yes rfl rfl rfl (OV.cast (u := .bool true) (v_beql he rfl rfl) (congrArg Value.bool (law_none_is lch2 hk (by omega) hvk hdk hce)))) ?_
     refine d_t 11 rfl rfl (by kernel_rfl) rfl (fun _ m => m.keepsI (.refl _) ((j106).trans j110) hE14 hf14) (y_v rfl (v_and_t rfl rfl rfl)) ?_
     refine d_t 12 rfl rfl (by kernel_rfl) rfl (fun _ m => m.keepsI (.refl _) ((j106).trans j110) hE14 hf14) (y_v rfl (v_move rfl)) ?_
     refine d_t 13 rfl rfl (by kernel_rfl) rfl (fun _ m => m.keepsI (.refl _) ((j106).trans j110) hE14 hf14) (y_yes rfl rfl rfl (v_ldw m0 he rfl rfl)) ?_
     refine d_t 14 rfl rfl (by kernel_rfl) rfl (fun _ m => m.keepsI (.refl _) ((j106).trans j110) hE14 hf14) (y_yes rfl rfl rfl (v_move rfl)) ?_
     refine d_t 15 rfl rfl (by kernel_rfl) rfl (fun _ m => m.keepsI (.refl _) ((j106).trans j110) hE14 hf14) (y_yes rfl rfl rfl (v_move rfl)) ?_
     refine d_t 17 rfl rfl (by kernel_rfl) rfl (fun _ m => m.keepsI (.refl _) ((j106).trans j110) hE14 hf14) (y_yes rfl rfl rfl (v_ldw m0 he rfl rfl)) ?_
     refine d_t 18 rfl rfl (by kernel_rfl) rfl (fun _ m => m.keepsI (.refl _) ((j106).trans j110) hE14 hf14) (y_yes rfl rfl rfl (v_move rfl)) ?_
     refine d_t 19 rfl rfl (by kernel_rfl) rfl (fun _ m => m.keepsI (.refl _) ((j106).trans j110) hE14 hf14) (y_yes rfl rfl rfl (v_move rfl)) ?_
     refine d_one 16 (by kernel_rfl) rfl ?_
     refine o_yes rfl rfl rfl (o_call (hiFalse _ vc c hvc hsc _ l hv0 (by omega) hsl _ op R70) rfl rfl (fun v117 I117 j117 q117 => ?_))
     try have hvc := hvc.le j117
     try have hv0 := hv0.le j117
     try have hA := hA.le j117
     try have R51 := R51.le j117
     try have hB60 := hB60.le j117
     try have R60 := R60.le j117
     try have hB70 := hB70.le j117
     try have R70 := R70.le j117
     try have R80 := R80.le j117
     try have R90 := R90.le j117
     try have R100 := R100.le j117
     obtain rfl := q117
     refine d_on (fun _ m => m.keepsI (.refl _) (((j106).trans j110).trans j117) hE14 hf14) ?_
     refine d_one 20 (by kernel_rfl) rfl ?_
     refine o_yes rfl rfl rfl (o_call (hiFalse _ vc c hvc hsc _ (cutAt l (a % l.length)) R80 (by omega) (fun r hr => hsl r (cutAt_mem hr)) _ (cutAt op (a % l.length)) R100) rfl rfl (fun v121 I121 j121 q121 => ?_))
     try have hvc := hvc.le j121
     try have hv0 := hv0.le j121
     try have hA := hA.le j121
     try have R51 := R51.le j121
     try have hB60 := hB60.le j121
     try have R60 := R60.le j121
     try have hB70 := hB70.le j121
     try have R70 := R70.le j121
     try have R80 := R80.le j121
     try have R90 := R90.le j121
     try have R100 := R100.le j121
     obtain rfl := q121
     refine d_on (fun _ m => m.keepsI (.refl _) ((((j106).trans j110).trans j117).trans j121) hE14 hf14) ?_
     refine d_t 21 rfl rfl (by kernel_rfl) rfl (fun _ m => m.keepsI (.refl _) ((((j106).trans j110).trans j117).trans j121) hE14 hf14) (y_yes rfl rfl rfl (OV.cast (u := .bool true) (v_beql he rfl rfl) (congrArg Value.bool (law_none_false lop2 hk (by omega) hvk hdk hoe)))) ?_
     refine d_t 22 rfl rfl (by kernel_rfl) rfl (fun _ m => m.keepsI (.refl _) ((((j106).trans j110).trans j117).trans j121) hE14 hf14) (y_v rfl (v_and_t rfl rfl rfl)) ?_
     refine d_t 23 rfl rfl (by kernel_rfl) rfl (fun _ m => m.keepsI (.refl _) ((((j106).trans j110).trans j117).trans j121) hE14 hf14) (y_v rfl (v_assign rfl)) ?_
     refine d_done (by kernel_rfl) ?_
     refine go 2 ?_
     refine fin1 rfl rfl ?_
     exact q_vI rfl

end Go.Proofs.YtkmdojpfccjnoaaGreat
