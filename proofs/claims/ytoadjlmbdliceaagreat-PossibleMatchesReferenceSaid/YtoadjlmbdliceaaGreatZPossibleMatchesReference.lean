/- The law PossibleMatchesReference holds of the given program, for every input. No condition. -/
import Derived.Test.YtoadjlmbdliceaaGreatZQf
import Derived.OpenShut
import Derived.ProofKit
import Derived.Test.YtoadjlmbdliceaaGreatRows
/- Walks, printed by a program out of the code of the functions: each theorem is a contract of one function. -/
namespace Go.Proofs.YtoadjlmbdliceaaGreat
open Go Go.Sx
set_option linter.all false
set_option maxRecDepth 20000
set_option maxHeartbeats 4000000
instance T.und_42 : Has (Tryz.prog.underlying 42) (.int .u16) := ⟨by kernel_rfl⟩
theorem lawPMatches (I : IMap) (vc : Value) (c : List Kind) (hvc : RdS I vc c) (hoc : ∀ x ∈ c, OkKd x) (v : Value) (l : List Rep) (hv : RdS I v l) (hok : ∀ x ∈ l, OkRp x)  :
    FnV Tryz.prog 9 #[.agg #[vc], v] I (.bool true) := by
 have hv0 := hv
 obtain ⟨A, c0, rfl, hA, hc, hm⟩ := hv
 refine enter Tryz.func9 Tryz.call9 rfl Tryz.ntmps9 rfl (fun w0 => ?_)
 refine go 3 ?_
 refine o_box _ rfl rfl rfl (fun g2 => ?_)
 refine go 6 ?_
 refine o_callV (head17 _) rfl rfl ?_
 refine go 9 ?_
 refine o_callV (law17few _ vc c hvc _ l hv0) rfl rfl ?_
 refine go 3 ?_
 refine cb rfl (fun h18 p18 => ?_) (fun h18 p18 => ?_)
 ·refine go 8 ?_
  refine fin1 rfl rfl ?_
  exact q_vI rfl
 ·have hf : fewC c = true ∧ few17 l 25 = true := by simpa using h18
  obtain ⟨hf2, hwn⟩ := few17_sm hf.2
  obtain ⟨hsl, hl⟩ := fewR_sm hf2
  have hsc := fewC_sm hf.1
  have hl6 : l.length ≤ 1000000 := by omega
  have h30 : l.length ≤ 30 := by omega
  have hwl : waysN l < 4096 := by omega
  refine go 7 ?_
  refine o_call (possChoices _ vc c hvc hsc _ l hv0 hl6 hsl h30 hwl) rfl rfl (fun v23 I23 j23 q23 => ?_)
  try have hvc := hvc.le j23
  try have hv0 := hv0.le j23
  try have hA := hA.le j23
  try have hw23 := hw23.le j23
  try have hw29 := hw29.le j23
  try have hw35 := hw35.le j23
  try have hw41 := hw41.le j23
  obtain ⟨w23, rfl, hw23⟩ := q23
  refine go 12 ?_
  refine o_call (ref17Choices _ vc c hvc hsc _ l hv0 hl6 hsl h30 hwl) rfl rfl (fun v29 I29 j29 q29 => ?_)
  try have hvc := hvc.le j29
  try have hv0 := hv0.le j29
  try have hA := hA.le j29
  try have hw23 := hw23.le j29
  try have hw29 := hw29.le j29
  try have hw35 := hw35.le j29
  try have hw41 := hw41.le j29
  obtain ⟨w29, rfl, hw29⟩ := q29
  refine go 12 ?_
  refine o_call (possSure _ vc c hvc hsc _ l hv0 hl6 hsl h30 hwl) rfl rfl (fun v35 I35 j35 q35 => ?_)
  try have hvc := hvc.le j35
  try have hv0 := hv0.le j35
  try have hA := hA.le j35
  try have hw23 := hw23.le j35
  try have hw29 := hw29.le j35
  try have hw35 := hw35.le j35
  try have hw41 := hw41.le j35
  obtain ⟨w35, rfl, hw35⟩ := q35
  refine go 12 ?_
  refine o_call (ref17Sure _ vc c hvc hsc _ l hv0 hl6 hsl h30 hwl) rfl rfl (fun v41 I41 j41 q41 => ?_)
  try have hvc := hvc.le j41
  try have hv0 := hv0.le j41
  try have hA := hA.le j41
  try have hw23 := hw23.le j41
  try have hw29 := hw29.le j41
  try have hw35 := hw35.le j41
  try have hw41 := hw41.le j41
  obtain ⟨w41, rfl, hw41⟩ := q41
  refine go 14 ?_
  refine o_yes rfl rfl rfl (o_callV (eqSame17 _ _ _ hw23 _ hw29) rfl rfl ?_)
  refine go 4 ?_
  refine o_cons (o_yes rfl rfl rfl (o_val rfl (OV.cast (u := .bool true) (v_eql rfl rfl) (congrArg Value.bool (decide_eq_true (rfl)))) ?_))
  refine go 5 ?_
  refine o_yes rfl rfl rfl (o_callV (eqInts14 _ _ _ hw35 _ hw41) rfl rfl ?_)
  refine go 4 ?_
  refine o_cons (o_yes rfl rfl rfl (o_val rfl (OV.cast (u := .bool true) (v_eql rfl rfl) (congrArg Value.bool (decide_eq_true (rfl)))) ?_))
  refine go 5 ?_
  refine fin1 rfl rfl ?_
  exact q_vI rfl

end Go.Proofs.YtoadjlmbdliceaaGreat

/- The law PossibleMatchesReference holds of the given program, for every input. No condition. -/
namespace Go.Proofs.YtoadjlmbdliceaaGreat
open Go Go.Sx
set_option linter.all false
theorem T.cel_24 : Tryz.prog.cellsOf 24 = 1 := by kernel_rfl
theorem T.cel_47 : Tryz.prog.cellsOf 47 = 2 := by kernel_rfl
theorem T.cel_52 : Tryz.prog.cellsOf 52 = 2 := by kernel_rfl
theorem T.cel_54 : Tryz.prog.cellsOf 54 = 6 := by kernel_rfl
theorem T.cel_56 : Tryz.prog.cellsOf 56 = 14 := by kernel_rfl
theorem T.cel_82 : Tryz.prog.cellsOf 82 = 3 := by kernel_rfl
theorem T.cel_84 : Tryz.prog.cellsOf 84 = 3 := by kernel_rfl
theorem T.cel_9 : Tryz.prog.cellsOf 9 = 1 := by kernel_rfl
instance T.fds_24 : Has (fieldsK Tryz.prog 24) [(22, 0, 1)] := ⟨by kernel_rfl⟩
instance T.fds_47 : Has (fieldsK Tryz.prog 47) [(45, 0, 1), (4, 1, 1)] := ⟨by kernel_rfl⟩
instance T.fds_52 : Has (fieldsK Tryz.prog 52) [(3, 0, 1), (3, 1, 1)] := ⟨by kernel_rfl⟩
instance T.fds_54 : Has (fieldsK Tryz.prog 54) [(52, 0, 2), (52, 2, 2), (52, 4, 2)] := ⟨by kernel_rfl⟩
instance T.fds_56 : Has (fieldsK Tryz.prog 56) [(3, 0, 1), (3, 1, 1), (9, 2, 1), (9, 3, 1), (9, 4, 1), (9, 5, 1), (9, 6, 1), (9, 7, 1), (54, 8, 6)] := ⟨by kernel_rfl⟩
instance T.fds_82 : Has (fieldsK Tryz.prog 82) [(9, 0, 1), (4, 1, 1), (80, 2, 1)] := ⟨by kernel_rfl⟩
instance T.fds_84 : Has (fieldsK Tryz.prog 84) [(9, 0, 1), (61, 1, 1), (3, 2, 1)] := ⟨by kernel_rfl⟩
namespace lawPossibleMatchesReference
open Go.ChangeShapes Go.WideShapes Go.ChangeAt Go.RowKit
theorem own : ownKnob Tryz.prog.godebug = none := by kernel_rfl
set_option maxRecDepth 100000 in
theorem lifted (os : Os) (started : os.Started) (H : Type) (enc : TypeId × Value → H) :
    ReturnsInHanded {} Tryz.checked os 9 .any (Rows.possibleMatchesReferenceSpec.pre6 enc Tryz.prog Tryz.f9 Rows.possibleMatchesReferenceRow.domain false) (Rows.possibleMatchesReferenceSpec.post enc Tryz.prog Tryz.f9 false true false false) := by
  refine returnsInHanded_of_change (C := Tryz.checked) own started (by kernel_rfl) Tryz.func9
    (ChangeSpec.witness6 (enc := enc) (C := Tryz.checked) false ⟨#[], #[.agg #[.slice none 0 0], .slice none 0 0], []⟩ 8 (by kernel_rfl) (by kernel_rfl) (by kernel_rfl) (by kernel_rfl)) ?_
  intro W base args ds gs before hval0 hW hcnd _
  have hval : ∀ (j : Nat) t v, Tryz.f9.params[j]? = some t → args[j]? = some v → Value.okWide Tryz.prog W .any base t v := hval0
  have hW' := hW
  obtain ⟨p, q, hA0, hV, rfl, hfz, hnd⟩ := hW
  have hA : DataW.TrodAll enc Tryz.prog W 0 (fun _ => true) true Tryz.f9.params.toList args.toList ds p := hA0
  rw [Tryz.params9] at hA hval
  obtain ⟨v0, vs0, d0, ds0, p0, q0, hargs, rfl, rfl, h0, r0⟩ := trodAll_cons hA
  obtain ⟨v1, vs1, d1, ds1, p1, q1, rfl, rfl, rfl, h1, r1⟩ := trodAll_cons r0
  obtain ⟨rfl, rfl, rfl⟩ := trodAll_nil r1
  obtain rfl : args = #[v0, v1] := by cases args; simp_all
  obtain ⟨rfl, rfl⟩ := trodVars_none hV
  clear hA0 hval0
  obtain ⟨cs0, rfl, hz0⟩ := okWide_agg T.fds_24.eq (hval 0 24 v0 rfl rfl)
  obtain ⟨fu0, hf0⟩ := h0
  obtain ⟨l0, ⟨u0, e0, R0⟩, G0⟩ := (opens_wrap T.fds_24.eq T.cel_24 (opens_slice T.und_22.eq T.cel_82 rfl (opens_kind T.fds_82.eq T.cel_82 (opens_string T.und_9.eq) (opens_bool T.und_4.eq) (opens_slice T.und_80.eq T.cel_84 rfl (opens_slot T.fds_84.eq T.cel_84 (opens_string T.und_9.eq) (opens_slice T.und_61.eq T.cel_9 rfl (opens_string T.und_9.eq)) (opens_int T.und_3.eq)))))) enc W 0 _ true fu0 _ _ hf0
  obtain rfl : cs0 = #[u0] := Array.toList_inj.1 e0
  obtain ⟨s1, n1, c1, rfl⟩ := okWide_slice T.und_25.eq (hval 1 25 v1 rfl rfl)
  obtain ⟨fu1, hf1⟩ := h1
  obtain ⟨l1, ⟨u1, e1, R1⟩, G1⟩ := (opens_slice T.und_25.eq T.cel_47 rfl (opens_rep T.fds_47.eq T.cel_47 (opens_slice T.und_45.eq T.cel_56 rfl (opens_evt T.fds_56.eq T.cel_56 (opens_int T.und_3.eq) (opens_string T.und_9.eq) (opens_use T.fds_54.eq T.cel_54 (opens_ivl T.fds_52.eq T.cel_52 (opens_int T.und_3.eq))))) (opens_bool T.und_4.eq))) enc W 0 _ true fu1 _ _ hf1
  cases e1
  exact law_calls (s := Rows.possibleMatchesReferenceSpec) Tryz.call9 (lawPMatches (Iw W) _ l0 R0 G0 _ l1 R1 G1) hW' (by kernel_rfl) (by kernel_rfl) rfl T.und_4.eq rfl rfl
theorem over : Rows.possibleMatchesReferenceRow.holds Tryz.pinned (OpenSpec.ofChange Rows.possibleMatchesReferenceSpec) :=
  OpenClaim.holds_of_wide 9 Tryz.f9 rfl rfl rfl rfl rfl rfl rfl ⟨rfl, rfl, rfl, rfl, rfl⟩ rfl rfl rfl rfl rfl (by kernel_rfl) Tryz.func9 (by kernel_rfl)
    (of_decide_eq_true (by kernel_rfl)) (by unfold Func.isWrapper; first | (rw [if_pos (by decide +kernel)]; kernel_rfl) | (rw [if_neg (by decide +kernel)]; exact ⟨rfl, rfl⟩))
    (fun os started H enc _ => lifted os started H enc)
/-- the statement -/
theorem proved : Rows.PossibleMatchesReferenceSaid := over
end lawPossibleMatchesReference
end Go.Proofs.YtoadjlmbdliceaaGreat

