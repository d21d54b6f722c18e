/- The law PossibleWitness holds of the given program, for every input. No condition. -/
import Derived.Test.YtoadjlmbdliceaaGreatZPe
import Derived.OpenShut
import Derived.ProofKit
import Derived.Test.YtoadjlmbdliceaaGreatRows
/- Walks, printed by a program out of the code of the functions: each theorem is a contract of one function. -/
namespace Go.Proofs.YtoadjlmbdliceaaGreat
open Go Go.Sx
set_option linter.all false
set_option maxRecDepth 20000
set_option maxHeartbeats 4000000
instance T.und_42 : Has (Tryz.prog.underlying 42) (.int .u16) := ⟨by kernel_rfl⟩
theorem lawPWitness (I : IMap) (vc : Value) (c : List Kind) (hvc : RdS I vc c) (hoc : ∀ x ∈ c, OkKd x) (v : Value) (l : List Rep) (hv : RdS I v l) (hok : ∀ x ∈ l, OkRp x) (a0 : Int) (wa0 : (Lit.int .u8 a0).wf = true) (b0 : Int) (wb0 : (Lit.int .u8 b0).wf = true)  :
    FnV Tryz.prog 13 #[.agg #[vc], v, .int .u8 a0, .int .u8 b0] I (.bool true) := by
 obtain ⟨a, rfl, ha⟩ := u8_nat wa0
 obtain ⟨b, rfl, hb⟩ := u8_nat wb0
 have hv0 := hv
 obtain ⟨A, c0, rfl, hA, hc, hm⟩ := hv
 refine enter Tryz.func13 Tryz.call13 rfl Tryz.ntmps13 rfl (fun w0 => ?_)
 refine go 3 ?_
 refine o_box _ rfl rfl rfl (fun g4 => ?_)
 refine go 6 ?_
 refine o_callV (head17 _) rfl rfl ?_
 refine go 9 ?_
 refine o_callV (law17few _ vc c hvc _ l hv0) rfl rfl ?_
 refine go 2 ?_
 refine sxb 21 rfl (fun h21 p21 => ?_) (fun h21 p21 => ?_)
 ·refine go 6 ?_
  refine c_true rfl ?_
  refine go 8 ?_
  refine fin1 rfl rfl ?_
  exact q_vI rfl
 ·refine go 6 ?_
  refine cb rfl (fun h25 p25 => ?_) (fun h25 p25 => ?_)
  ·refine go 8 ?_
   refine fin1 rfl rfl ?_
   exact q_vI rfl
  ·have hf : fewC c = true ∧ few17 l 25 = true := by simpa using h21
   obtain ⟨hf2, hwn⟩ := few17_sm hf.2
   obtain ⟨hsl, hl⟩ := fewR_sm hf2
   have hsc := fewC_sm hf.1
   have hl6 : l.length ≤ 1000000 := by omega
   have h30 : l.length ≤ 30 := by omega
   have hwl : waysN l < 4096 := by omega
   have hl0 : 0 < l.length := by omega
   obtain ⟨i, hii⟩ : ∃ i, a % l.length = i := ⟨_, rfl⟩
   have hi : i < l.length := by rw [← hii]; exact Nat.mod_lt _ hl0
   refine go 5 ?_
   refine o_v rfl (v_conv he he rfl (m := ((a : Nat) : Int)) (by rw [IntKind.wrap_i64]; omega)) ?_
   refine go 2 ?_
   refine o_v rfl (OV.cast (u := .int .i64 ((i : Nat) : Int)) (v_rem rfl rfl (by omega) (by omega)) (by rw [hii])) ?_
   refine go 8 ?_
   refine o_call (possChoices _ vc c hvc hsc _ l hv0 hl6 hsl h30 hwl) rfl rfl (fun v35 I35 j35 q35 => ?_)
   try have hvc := hvc.le j35
   try have hv0 := hv0.le j35
   try have hA := hA.le j35
   try have hw23 := hw23.le j35
   try have hw29 := hw29.le j35
   try have hw35 := hw35.le j35
   try have hw41 := hw41.le j35
   try have hTA := hTA.le j35
   try have hSA := hSA.le j35
   try have hw0 := hw0.le j35
   try have hCA := hCA.le j35
   obtain ⟨w35, rfl, hw35⟩ := q35
   obtain ⟨TA, tc, rfl, hTA, _, _⟩ := hw35
   refine go 13 ?_
   refine sxb 40 rfl (fun h40 p40 => ?_) (fun h40 p40 => ?_)
   ·refine go 16 ?_
    refine c_true rfl ?_
    refine go 5 ?_
    refine o_cons (o_yes rfl rfl rfl (o_val rfl (OV.cast (u := .bool true) (v_neq rfl rfl) (congrArg Value.bool h40)) ?_))
    refine go 6 ?_
    refine fin1 rfl rfl ?_
    exact q_vI rfl
   ·have h0 : (choF c l).2 = 0 := by simpa using h40
    have hTl := cho_len h0
    obtain ⟨hT, hrl, hrk⟩ := cho_row h0 hi
    obtain ⟨hC, hP, hn, _⟩ := cho_zero h0
    have hcp := chs_pos (valid_chs (hP _ (List.getElem_mem hi)))
    have hc5 := chs_five l[i]
    obtain ⟨k, hkk⟩ : ∃ k, b % (choF c l).1[i].length = k := ⟨_, rfl⟩
    have hk : k < (choF c l).1[i].length := by rw [← hkk]; exact Nat.mod_lt _ (by omega)
    have hwe := wit_eq hC hP h30 hi (k := k) (by omega)
    have hwc := wit_code hC hP h30 hi k
    refine go 4 ?_
    refine o_cons (o_yes rfl rfl h40 (o_val rfl (OV.cast (u := .bool false) (v_neq rfl rfl) (congrArg Value.bool (by simp [hTl]))) ?_))
    refine go 4 ?_
    obtain ⟨b50, o50, w50, e50, c50, r50⟩ := RdA.at_ hTA (i := i) (by omega)
    obtain ⟨q50, rfl, S50, d50, rfl, hS50, hd50, hm50⟩ := r50
    refine o_cons (o_yes rfl rfl rfl (o_val rfl (v_idx he rfl rfl e50 (i) (by omega) (by omega)) ?_))
    refine o_cons (o_yes rfl rfl rfl (o_val rfl (v_ldI he rfl (c50 0 _ rfl)) ?_))
    refine go 1 ?_
    refine o_cons (o_yes rfl rfl rfl (o_val rfl (OV.cast (u := .bool false) (v_eql rfl rfl) (congrArg Value.bool (decide_eq_false (by omega)))) ?_))
    refine go 3 ?_
    refine c_false rfl ?_
    refine go 5 ?_
    refine o_v rfl (v_conv he he rfl (m := ((b : Nat) : Int)) (by rw [IntKind.wrap_i64]; omega)) ?_
    refine go 2 ?_
    obtain ⟨b64, o64, w64, e64, c64, r64⟩ := RdA.at_ hTA (i := i) (by omega)
    obtain ⟨q64, rfl, S64, d64, rfl, hS64, hd64, hm64⟩ := r64
    refine o_v rfl (v_idx he rfl rfl e64 (i) (by omega) (by omega)) ?_
    refine o_v rfl (v_ldI he rfl (c64 0 _ rfl)) ?_
    refine go 1 ?_
    refine o_v rfl (OV.cast (u := .int .i64 ((k : Nat) : Int)) (v_rem rfl rfl (by omega) (by omega)) (by rw [hkk])) ?_
    refine go 4 ?_
    refine sx_knowI (fun hE9 hf9 => ?_)
    refine d_startH T.mixed ?_
    refine d_tv 0 rfl rfl (by kernel_rfl) rfl (.refl _) rfl (v_ldw m0 he rfl rfl) ?_
    refine d_tv 1 rfl rfl (by kernel_rfl) rfl (.refl _) rfl (v_move rfl) ?_
    refine d_tv 2 rfl rfl (by kernel_rfl) rfl (.refl _) rfl (v_move rfl) ?_
    refine d_tv 3 rfl rfl (by kernel_rfl) rfl (.refl _) rfl (v_move rfl) ?_
    refine d_one 4 (by kernel_rfl) rfl ?_
    refine o_call (ref17Decided _ _ l hv0 hl6 hsl i k hi (by omega)) rfl rfl (fun v73 I73 j73 q73 => ?_)
    try have hvc := hvc.le j73
    try have hv0 := hv0.le j73
    try have hA := hA.le j73
    try have hw23 := hw23.le j73
    try have hw29 := hw29.le j73
    try have hw35 := hw35.le j73
    try have hw41 := hw41.le j73
    try have hTA := hTA.le j73
    try have hSA := hSA.le j73
    try have hw0 := hw0.le j73
    try have hCA := hCA.le j73
    refine d_on (fun _ m => m.keepsI (.refl _) (j73) hE9 hf9) ?_
    refine d_one 5 (by kernel_rfl) rfl ?_
    refine o_call (seFirst _ vc c hvc hsc _ (decF l i k l[i]) q73 (by have := dec_len (k := k) hi; omega) (dec_sm hsl hi)) rfl rfl (fun v74 I74 j74 q74 => ?_)
    try have hvc := hvc.le j74
    try have hv0 := hv0.le j74
    try have hA := hA.le j74
    try have hw23 := hw23.le j74
    try have hw29 := hw29.le j74
    try have hw35 := hw35.le j74
    try have hw41 := hw41.le j74
    try have hTA := hTA.le j74
    try have hSA := hSA.le j74
    try have hw0 := hw0.le j74
    try have hCA := hCA.le j74
    obtain ⟨w74, rfl, hw74⟩ := q74
    refine d_on (fun _ m => m.keepsI (.refl _) ((j73).trans j74) hE9 hf9) ?_
    refine d_t 6 rfl rfl (by kernel_rfl) rfl (fun _ m => m.keepsI (.refl _) ((j73).trans j74) hE9 hf9) (y_v rfl (v_move rfl)) ?_
    refine d_t 7 rfl rfl (by kernel_rfl) rfl (fun _ m => m.keepsI (.refl _) ((j73).trans j74) hE9 hf9) (y_v rfl (v_extract rfl rfl)) ?_
    refine d_t 8 rfl rfl (by kernel_rfl) rfl (fun _ m => m.keepsI (.refl _) ((j73).trans j74) hE9 hf9) (y_v rfl (v_extract rfl rfl)) ?_
    refine d_t 9 rfl rfl (by kernel_rfl) rfl (fun _ m => m.keepsI (.refl _) ((j73).trans j74) hE9 hf9) (y_v rfl (v_assign rfl)) ?_
    refine d_t 10 rfl rfl (by kernel_rfl) rfl (fun _ m => m.keepsI (.refl _) ((j73).trans j74) hE9 hf9) (y_v rfl (v_assign rfl)) ?_
    refine d_done (by kernel_rfl) ?_
    refine go 7 ?_
    obtain ⟨b81, o81, w81, e81, c81, r81⟩ := RdA.at_ hTA (i := i) (by omega)
    obtain ⟨q81, rfl, S81, d81, rfl, hS81, hd81, hm81⟩ := r81
    refine o_cons (o_yes rfl rfl rfl (o_val rfl (v_idx he rfl rfl e81 (i) (by omega) (by omega)) ?_))
    refine o_cons (o_yes rfl rfl rfl (o_val rfl (v_ldI he rfl (c81 0 _ rfl)) ?_))
    refine go 1 ?_
    obtain ⟨b84, o84, w84, e84, c84, r84⟩ := RdA.at_ hS81 (i := k) (by omega)
    obtain rfl := r84
    refine o_cons (o_yes rfl rfl rfl (o_val rfl (v_idx he rfl rfl e84 (k) (by omega) (by omega)) ?_))
    refine o_cons (o_yes rfl rfl rfl (o_val rfl (v_ldI he rfl (c84 0 _ rfl)) ?_))
    refine go 2 ?_
    refine o_cons (o_yes rfl rfl rfl (o_val rfl (OV.cast (u := .bool true) (v_beql he rfl rfl) (congrArg Value.bool (by rw [hrk k hk]; exact hwe))) ?_))
    refine go 5 ?_
    refine sxb 93 rfl (fun h93 p93 => ?_) (fun h93 p93 => ?_)
    ·refine go 8 ?_
     refine fin1 rfl rfl ?_
     exact q_vI rfl
    ·refine go 1 ?_
     refine o_cons (o_yes rfl rfl h93 (o_val rfl (OV.cast (u := .bool true) (v_eql rfl rfl) (congrArg Value.bool (decide_eq_true (by rcases hwc with h | h; exact absurd h p93; exact h)))) ?_))
     refine go 6 ?_
     refine fin1 rfl rfl ?_
     exact q_vI rfl

end Go.Proofs.YtoadjlmbdliceaaGreat

/- The law PossibleWitness holds of the given program, for every input. No condition. -/
namespace Go.Proofs.YtoadjlmbdliceaaGreat
open Go Go.Sx
set_option linter.all false
theorem T.cel_24 : Tryz.prog.cellsOf 24 = 1 := by kernel_rfl
theorem T.cel_47 : Tryz.prog.cellsOf 47 = 2 := by kernel_rfl
theorem T.cel_52 : Tryz.prog.cellsOf 52 = 2 := by kernel_rfl
theorem T.cel_54 : Tryz.prog.cellsOf 54 = 6 := by kernel_rfl
theorem T.cel_56 : Tryz.prog.cellsOf 56 = 14 := by kernel_rfl
theorem T.cel_82 : Tryz.prog.cellsOf 82 = 3 := by kernel_rfl
theorem T.cel_84 : Tryz.prog.cellsOf 84 = 3 := by kernel_rfl
theorem T.cel_9 : Tryz.prog.cellsOf 9 = 1 := by kernel_rfl
instance T.fds_24 : Has (fieldsK Tryz.prog 24) [(22, 0, 1)] := ⟨by kernel_rfl⟩
instance T.fds_47 : Has (fieldsK Tryz.prog 47) [(45, 0, 1), (4, 1, 1)] := ⟨by kernel_rfl⟩
instance T.fds_52 : Has (fieldsK Tryz.prog 52) [(3, 0, 1), (3, 1, 1)] := ⟨by kernel_rfl⟩
instance T.fds_54 : Has (fieldsK Tryz.prog 54) [(52, 0, 2), (52, 2, 2), (52, 4, 2)] := ⟨by kernel_rfl⟩
instance T.fds_56 : Has (fieldsK Tryz.prog 56) [(3, 0, 1), (3, 1, 1), (9, 2, 1), (9, 3, 1), (9, 4, 1), (9, 5, 1), (9, 6, 1), (9, 7, 1), (54, 8, 6)] := ⟨by kernel_rfl⟩
instance T.fds_82 : Has (fieldsK Tryz.prog 82) [(9, 0, 1), (4, 1, 1), (80, 2, 1)] := ⟨by kernel_rfl⟩
instance T.fds_84 : Has (fieldsK Tryz.prog 84) [(9, 0, 1), (61, 1, 1), (3, 2, 1)] := ⟨by kernel_rfl⟩
namespace lawPossibleWitness
open Go.ChangeShapes Go.WideShapes Go.ChangeAt Go.RowKit
theorem own : ownKnob Tryz.prog.godebug = none := by kernel_rfl
set_option maxRecDepth 100000 in
theorem lifted (os : Os) (started : os.Started) (H : Type) (enc : TypeId × Value → H) :
    ReturnsInHanded {} Tryz.checked os 13 .any (Rows.possibleWitnessSpec.pre6 enc Tryz.prog Tryz.f13 Rows.possibleWitnessRow.domain false) (Rows.possibleWitnessSpec.post enc Tryz.prog Tryz.f13 false true false false) := by
  refine returnsInHanded_of_change (C := Tryz.checked) own started (by kernel_rfl) Tryz.func13
    (ChangeSpec.witness6 (enc := enc) (C := Tryz.checked) false ⟨#[], #[.agg #[.slice none 0 0], .slice none 0 0, .int .u8 0, .int .u8 0], []⟩ 8 (by kernel_rfl) (by kernel_rfl) (by kernel_rfl) (by kernel_rfl)) ?_
  intro W base args ds gs before hval0 hW hcnd _
  have hval : ∀ (j : Nat) t v, Tryz.f13.params[j]? = some t → args[j]? = some v → Value.okWide Tryz.prog W .any base t v := hval0
  have hW' := hW
  obtain ⟨p, q, hA0, hV, rfl, hfz, hnd⟩ := hW
  have hA : DataW.TrodAll enc Tryz.prog W 0 (fun _ => true) true Tryz.f13.params.toList args.toList ds p := hA0
  rw [Tryz.params13] at hA hval
  obtain ⟨v0, vs0, d0, ds0, p0, q0, hargs, rfl, rfl, h0, r0⟩ := trodAll_cons hA
  obtain ⟨v1, vs1, d1, ds1, p1, q1, rfl, rfl, rfl, h1, r1⟩ := trodAll_cons r0
  obtain ⟨v2, vs2, d2, ds2, p2, q2, rfl, rfl, rfl, h2, r2⟩ := trodAll_cons r1
  obtain ⟨v3, vs3, d3, ds3, p3, q3, rfl, rfl, rfl, h3, r3⟩ := trodAll_cons r2
  obtain ⟨rfl, rfl, rfl⟩ := trodAll_nil r3
  obtain rfl : args = #[v0, v1, v2, v3] := by cases args; simp_all
  obtain ⟨rfl, rfl⟩ := trodVars_none hV
  clear hA0 hval0
  obtain ⟨cs0, rfl, hz0⟩ := okWide_agg T.fds_24.eq (hval 0 24 v0 rfl rfl)
  obtain ⟨fu0, hf0⟩ := h0
  obtain ⟨l0, ⟨u0, e0, R0⟩, G0⟩ := (opens_wrap T.fds_24.eq T.cel_24 (opens_slice T.und_22.eq T.cel_82 rfl (opens_kind T.fds_82.eq T.cel_82 (opens_string T.und_9.eq) (opens_bool T.und_4.eq) (opens_slice T.und_80.eq T.cel_84 rfl (opens_slot T.fds_84.eq T.cel_84 (opens_string T.und_9.eq) (opens_slice T.und_61.eq T.cel_9 rfl (opens_string T.und_9.eq)) (opens_int T.und_3.eq)))))) enc W 0 _ true fu0 _ _ hf0
  obtain rfl : cs0 = #[u0] := Array.toList_inj.1 e0
  obtain ⟨s1, n1, c1, rfl⟩ := okWide_slice T.und_25.eq (hval 1 25 v1 rfl rfl)
  obtain ⟨fu1, hf1⟩ := h1
  obtain ⟨l1, ⟨u1, e1, R1⟩, G1⟩ := (opens_slice T.und_25.eq T.cel_47 rfl (opens_rep T.fds_47.eq T.cel_47 (opens_slice T.und_45.eq T.cel_56 rfl (opens_evt T.fds_56.eq T.cel_56 (opens_int T.und_3.eq) (opens_string T.und_9.eq) (opens_use T.fds_54.eq T.cel_54 (opens_ivl T.fds_52.eq T.cel_52 (opens_int T.und_3.eq))))) (opens_bool T.und_4.eq))) enc W 0 _ true fu1 _ _ hf1
  cases e1
  obtain ⟨a2, rfl, rfl, rfl, w2⟩ := open_int T.und_5.eq (hval 2 5 v2 rfl rfl) h2
  obtain ⟨a3, rfl, rfl, rfl, w3⟩ := open_int T.und_5.eq (hval 3 5 v3 rfl rfl) h3
  exact law_calls (s := Rows.possibleWitnessSpec) Tryz.call13 (lawPWitness (Iw W) _ l0 R0 G0 _ l1 R1 G1 a2 w2 a3 w3) hW' (by kernel_rfl) (by kernel_rfl) rfl T.und_4.eq rfl rfl
theorem over : Rows.possibleWitnessRow.holds Tryz.pinned (OpenSpec.ofChange Rows.possibleWitnessSpec) :=
  OpenClaim.holds_of_wide 13 Tryz.f13 rfl rfl rfl rfl rfl rfl rfl ⟨rfl, rfl, rfl, rfl, rfl⟩ rfl rfl rfl rfl rfl (by kernel_rfl) Tryz.func13 (by kernel_rfl)
    (of_decide_eq_true (by kernel_rfl)) (by unfold Func.isWrapper; first | (rw [if_pos (by decide +kernel)]; kernel_rfl) | (rw [if_neg (by decide +kernel)]; exact ⟨rfl, rfl⟩))
    (fun os started H enc _ => lifted os started H enc)
/-- the statement -/
theorem proved : Rows.PossibleWitnessSaid := over
end lawPossibleWitness
end Go.Proofs.YtoadjlmbdliceaaGreat

