/- The law LifeMatchesReference holds of the given program, for every input. No condition. -/
import Derived.Test.YthcefohbbfjjfaaGreatZLmf
import Derived.ChangeMaps5
import Derived.OpenShut
import Derived.ProofKit
import Derived.Test.YthcefohbbfjjfaaGreatRows
/- Walks, printed by a program out of the code of the functions: each theorem is a contract of one function. -/
namespace Go.Proofs.YthcefohbbfjjfaaGreat
open Go Go.Sx
set_option linter.all false
set_option maxRecDepth 20000
set_option maxHeartbeats 4000000
theorem lawLMatches (I : IMap) (vc : Value) (c : List Kind) (hvc : RdS I vc c) (hoc : ∀ x ∈ c, OkKd x) (f : Fm) (sf : Value) (hf : FmRd I [ci f.op, ci f.n, sf] f) (hof : OkFm f) (v : Value) (l : List Evt) (hv : RdS I v l) (hok : ∀ x ∈ l, OkE x) (day : Int) (wd : (Lit.int .i64 day).wf = true) (p : Part) (q : Value) (hq : RdS I q p.props) (hop : OkPt p) (s : ByteArray) (ws : s.size ≤ maxLen) :
    FnV Tryz.prog 4 #[.agg #[vc, ci f.op, ci f.n, sf], v, .int .i64 (day), .agg (p.cells q).toArray, .string s] I (.bool true) := by
 have hq1 := RdS.one hq
 refine enter Tryz.func4 Tryz.call4 rfl Tryz.ntmps4 rfl (fun w0 => ?_)
 refine go 3 ?_
 refine o_box _ rfl rfl rfl (fun g5 => ?_)
 refine go 1 ?_
 refine o_box _ rfl rfl rfl (fun g8 => ?_)
 refine go 6 ?_
 refine o_callV (head12 _) rfl rfl ?_
 refine go 5 ?_
 refine c_cut (I' := I) (L' := [(1, v), (2, .int .i64 (day)), (4, .string s), (5, .pointer (some ⟨g5, 0, none⟩)), (8, .pointer (some ⟨g8, 0, none⟩)), (11, .bool true), (31, .bool (!few12 c f l 24 || decide ((100 : Int) < ((s.size : Nat) : Int))))]) (H' := [.blk g8 49 (p.cells q), .blk g5 29 [vc, ci f.op, ci f.n, sf]]) ?_ ?_
 ·refine go 4 ?_
  refine o_callV (law12few _ vc c hvc f sf hf v l hv) rfl rfl ?_
  refine go 2 ?_
  refine sxb 27 rfl (fun h27 p27 => ?_) (fun h27 p27 => ?_)
  ·refine go 6 ?_
   exact q_cut ⟨rfl, rfl, rfl, rfl, rfl, rfl, (congrArg (fun b => some (Value.bool b)) (by simp only [h27, bS])), trivial⟩ rfl rfl
  ·refine go 6 ?_
   exact q_cut ⟨rfl, rfl, rfl, rfl, rfl, rfl, (congrArg (fun b => some (Value.bool b)) (by simp only [h27, bS])), trivial⟩ rfl rfl
 ·refine cb rfl (fun h31 p31 => ?_) (fun h31 p31 => ?_)
  ·refine go 8 ?_
   refine fin1 rfl rfl ?_
   exact q_vI rfl
  ·have hfv : few12 c f l 24 = true ∧ ¬ (100 : Int) < ((s.size : Nat) : Int) := by simpa using h31
   obtain ⟨hfw, _⟩ := hfv
   obtain ⟨hsc, hl, hse⟩ := few12_sm (n := 24) hfw
   have hl6 : l.length ≤ 1000000 := by omega
   refine go 8 ?_
   refine o_call (lifeRun _ vc c hvc hsc f sf hf v l hv (by omega) hse day) rfl rfl (fun v37 I37 j37 q37 => ?_)
   try have hvc := hvc.le j37
   try have hf := hf.le j37
   try have hv := hv.le j37
   try have hwa := hwa.le j37
   try have hwb := hwb.le j37
   obtain ⟨wa, rfl, hwa⟩ := q37
   refine go 5 ?_
   refine o_alloc he rfl (fun g12 => ?_)
   refine go 1 ?_
   refine o_stw _ he rfl rfl rfl rfl rfl (by simp [RdS.one hwa]) ?_
   refine go 10 ?_
   refine o_call (r12Run _ vc c hvc hsc f sf hf v l hv (by omega) hse day) rfl rfl (fun v45 I45 j45 q45 => ?_)
   try have hvc := hvc.le j45
   try have hf := hf.le j45
   try have hv := hv.le j45
   try have hwa := hwa.le j45
   try have hwb := hwb.le j45
   obtain ⟨wb, rfl, hwb⟩ := q45
   refine go 5 ?_
   refine o_alloc he rfl (fun g15 => ?_)
   refine go 1 ?_
   refine o_stw _ he rfl rfl rfl rfl rfl (by simp [RdS.one hwb]) ?_
   refine go 10 ?_
   refine o_callV (lifeValue _ p q hq1 s day) rfl rfl ?_
   refine go 4 ?_
   refine o_alloc he rfl (fun g18 => ?_)
   refine go 1 ?_
   refine o_stw _ he rfl rfl rfl rfl rfl rfl ?_
   refine go 9 ?_
   refine o_callV (r12Value _ p q hq1 s day) rfl rfl ?_
   refine go 4 ?_
   refine o_alloc he rfl (fun g20 => ?_)
   refine go 1 ?_
   refine o_stw _ he rfl rfl rfl rfl rfl rfl ?_
   refine go 10 ?_
   refine o_yes rfl rfl rfl (o_callV (sameSt_t _ _ _ hwa _ _ hwb rfl) rfl rfl ?_)
   refine go 4 ?_
   refine o_cons (o_yes rfl rfl rfl (o_val rfl (OV.cast (u := .bool true) (v_eql rfl rfl) (congrArg Value.bool (decide_eq_true (rfl)))) ?_))
   refine go 4 ?_
   refine o_cons (o_yes rfl rfl rfl (o_val rfl (OV.cast (u := .bool true) (v_eql rfl rfl) (congrArg Value.bool (decide_eq_true (rfl)))) ?_))
   refine go 4 ?_
   refine o_cons (o_yes rfl rfl rfl (o_val rfl (OV.cast (u := .bool true) (v_steql T.eqg_32 (eqS_Ivl (valueF p s day).1 (valueF p s day).1) rfl rfl) (congrArg Value.bool (decide_eq_true (rfl)))) ?_))
   refine go 4 ?_
   refine o_cons (o_yes rfl rfl rfl (o_val rfl (OV.cast (u := .bool true) (v_eql rfl rfl) (congrArg Value.bool (decide_eq_true (rfl)))) ?_))
   refine go 4 ?_
   refine o_yes rfl rfl rfl (o_callV (lifeIs _ s) rfl rfl ?_)
   refine go 2 ?_
   refine o_yes rfl rfl rfl (o_callV (r12Is _ s) rfl rfl ?_)
   refine o_cons (o_yes rfl rfl rfl (o_val rfl (v_beql he rfl rfl) ?_))
   refine go 5 ?_
   refine fin1 rfl rfl ?_
   exact q_vI (congrArg Value.bool (by simp))

end Go.Proofs.YthcefohbbfjjfaaGreat

/- The law LifeMatchesReference holds of the given program, for every input. No condition. -/
namespace Go.Proofs.YthcefohbbfjjfaaGreat
open Go Go.Sx
set_option linter.all false
theorem T.cel_111 : Tryz.prog.cellsOf 111 = 3 := by kernel_rfl
theorem T.cel_113 : Tryz.prog.cellsOf 113 = 3 := by kernel_rfl
theorem T.cel_24 : Tryz.prog.cellsOf 24 = 1 := by kernel_rfl
theorem T.cel_27 : Tryz.prog.cellsOf 27 = 3 := by kernel_rfl
theorem T.cel_29 : Tryz.prog.cellsOf 29 = 4 := by kernel_rfl
theorem T.cel_32 : Tryz.prog.cellsOf 32 = 2 := by kernel_rfl
theorem T.cel_34 : Tryz.prog.cellsOf 34 = 6 := by kernel_rfl
theorem T.cel_43 : Tryz.prog.cellsOf 43 = 14 := by kernel_rfl
theorem T.cel_47 : Tryz.prog.cellsOf 47 = 6 := by kernel_rfl
theorem T.cel_49 : Tryz.prog.cellsOf 49 = 14 := by kernel_rfl
theorem T.cel_87 : Tryz.prog.cellsOf 87 = 2 := by kernel_rfl
theorem T.cel_9 : Tryz.prog.cellsOf 9 = 1 := by kernel_rfl
instance T.fds_111 : Has (fieldsK Tryz.prog 111) [(9, 0, 1), (4, 1, 1), (109, 2, 1)] := ⟨by kernel_rfl⟩
instance T.fds_113 : Has (fieldsK Tryz.prog 113) [(9, 0, 1), (63, 1, 1), (3, 2, 1)] := ⟨by kernel_rfl⟩
instance T.fds_24 : Has (fieldsK Tryz.prog 24) [(22, 0, 1)] := ⟨by kernel_rfl⟩
instance T.fds_27 : Has (fieldsK Tryz.prog 27) [(3, 0, 1), (3, 1, 1), (25, 2, 1)] := ⟨by kernel_rfl⟩
instance T.fds_29 : Has (fieldsK Tryz.prog 29) [(24, 0, 1), (27, 1, 3)] := ⟨by kernel_rfl⟩
instance T.fds_32 : Has (fieldsK Tryz.prog 32) [(3, 0, 1), (3, 1, 1)] := ⟨by kernel_rfl⟩
instance T.fds_34 : Has (fieldsK Tryz.prog 34) [(32, 0, 2), (32, 2, 2), (32, 4, 2)] := ⟨by kernel_rfl⟩
instance T.fds_43 : Has (fieldsK Tryz.prog 43) [(3, 0, 1), (3, 1, 1), (9, 2, 1), (9, 3, 1), (9, 4, 1), (9, 5, 1), (9, 6, 1), (9, 7, 1), (34, 8, 6)] := ⟨by kernel_rfl⟩
instance T.fds_47 : Has (fieldsK Tryz.prog 47) [(32, 0, 2), (32, 2, 2), (32, 4, 2)] := ⟨by kernel_rfl⟩
instance T.fds_49 : Has (fieldsK Tryz.prog 49) [(9, 0, 1), (9, 1, 1), (9, 2, 1), (9, 3, 1), (3, 4, 1), (3, 5, 1), (4, 6, 1), (45, 7, 1), (47, 8, 6)] := ⟨by kernel_rfl⟩
instance T.fds_87 : Has (fieldsK Tryz.prog 87) [(9, 0, 1), (9, 1, 1)] := ⟨by kernel_rfl⟩
namespace lawLifeMatchesReference
open Go.ChangeShapes Go.WideShapes Go.ChangeAt Go.RowKit Go.ChangeMaps Go.MapKept
theorem own : ownKnob Tryz.prog.godebug = none := by kernel_rfl
set_option maxRecDepth 100000 in
theorem lifted (os : Os) (started : os.Started) (H : Type) (enc : TypeId × Value → H) :
    ReturnsInHanded {} Tryz.checked os 4 .any (Rows.lifeMatchesReferenceSpec.pre6 enc Tryz.prog Tryz.f4 Rows.lifeMatchesReferenceRow.domain false) (Rows.lifeMatchesReferenceSpec.post enc Tryz.prog Tryz.f4 false true false false) := by
  refine returnsInHanded_of_change (C := Tryz.checked) own started (by kernel_rfl) Tryz.func4
    (ChangeSpec.witness6 (enc := enc) (C := Tryz.checked) false ⟨#[], #[.agg #[.slice none 0 0, .int .i64 0, .int .i64 0, .slice none 0 0], .slice none 0 0, .int .i64 0, .agg #[.string ⟨#[]⟩, .string ⟨#[]⟩, .string ⟨#[]⟩, .string ⟨#[]⟩, .int .i64 0, .int .i64 0, .bool false, .slice none 0 0, .int .i64 0, .int .i64 0, .int .i64 0, .int .i64 0, .int .i64 0, .int .i64 0], .string ⟨#[]⟩], []⟩ 8 (by kernel_rfl) (by kernel_rfl) (by kernel_rfl) (by kernel_rfl)) ?_
  intro W base args ds gs before hval0 hW hcnd _
  have hval : ∀ (j : Nat) t v, Tryz.f4.params[j]? = some t → args[j]? = some v → Value.okWide Tryz.prog W .any base t v := hval0
  have hW' := hW
  obtain ⟨p, q, hA0, hV, rfl, hfz, hnd⟩ := hW
  have hA : DataW.TrodAll enc Tryz.prog W 0 (fun _ => true) true Tryz.f4.params.toList args.toList ds p := hA0
  rw [Tryz.params4] at hA hval
  obtain ⟨v0, vs0, d0, ds0, p0, q0, hargs, rfl, rfl, h0, r0⟩ := trodAll_cons hA
  obtain ⟨v1, vs1, d1, ds1, p1, q1, rfl, rfl, rfl, h1, r1⟩ := trodAll_cons r0
  obtain ⟨v2, vs2, d2, ds2, p2, q2, rfl, rfl, rfl, h2, r2⟩ := trodAll_cons r1
  obtain ⟨v3, vs3, d3, ds3, p3, q3, rfl, rfl, rfl, h3, r3⟩ := trodAll_cons r2
  obtain ⟨v4, vs4, d4, ds4, p4, q4, rfl, rfl, rfl, h4, r4⟩ := trodAll_cons r3
  obtain ⟨rfl, rfl, rfl⟩ := trodAll_nil r4
  obtain rfl : args = #[v0, v1, v2, v3, v4] := by cases args; simp_all
  obtain ⟨rfl, rfl⟩ := trodVars_none hV
  clear hA0 hval0
  obtain ⟨cs0, rfl, hz0⟩ := okWide_agg T.fds_29.eq (hval 0 29 v0 rfl rfl)
  obtain ⟨fu0, hf0⟩ := h0
  obtain ⟨x0, ⟨vc0, sf0, e0, R0, F0⟩, G0⟩ := (opens_setup T.fds_29.eq T.cel_29 (opens_wrap T.fds_24.eq T.cel_24 (opens_slice T.und_22.eq T.cel_111 rfl (opens_kind T.fds_111.eq T.cel_111 (opens_string T.und_9.eq) (opens_bool T.und_4.eq) (opens_slice T.und_109.eq T.cel_113 rfl (opens_slot T.fds_113.eq T.cel_113 (opens_string T.und_9.eq) (opens_slice T.und_63.eq T.cel_9 rfl (opens_string T.und_9.eq)) (opens_int T.und_3.eq)))))) (opens_form T.fds_27.eq T.cel_27 T.und_25.eq T.und_3.eq)) enc W 0 _ true fu0 _ _ hf0
  obtain rfl : cs0 = #[vc0, ci x0.dam.op, ci x0.dam.n, sf0] := Array.toList_inj.1 e0
  obtain ⟨s1, n1, c1, rfl⟩ := okWide_slice T.und_30.eq (hval 1 30 v1 rfl rfl)
  obtain ⟨fu1, hf1⟩ := h1
  obtain ⟨l1, ⟨u1, e1, R1⟩, G1⟩ := (opens_slice T.und_30.eq T.cel_43 rfl (opens_evt T.fds_43.eq T.cel_43 (opens_int T.und_3.eq) (opens_string T.und_9.eq) (opens_use T.fds_34.eq T.cel_34 (opens_ivl T.fds_32.eq T.cel_32 (opens_int T.und_3.eq))))) enc W 0 _ true fu1 _ _ hf1
  cases e1
  obtain ⟨a2, rfl, rfl, rfl, w2⟩ := open_int T.und_3.eq (hval 2 3 v2 rfl rfl) h2
  obtain ⟨cs3, rfl, hz3⟩ := okWide_agg T.fds_49.eq (hval 3 49 v3 rfl rfl)
  obtain ⟨fu3, hf3⟩ := h3
  obtain ⟨x3, ⟨q3, e3, R3⟩, G3⟩ := (opens_part T.fds_49.eq T.cel_49 (opens_string T.und_9.eq) (opens_int T.und_3.eq) (opens_bool T.und_4.eq) (opens_slice T.und_45.eq T.cel_87 rfl (opens_prop T.fds_87.eq T.cel_87 (opens_string T.und_9.eq))) (opens_life T.fds_47.eq T.cel_47 (opens_ivl T.fds_32.eq T.cel_32 (opens_int T.und_3.eq)))) enc W 0 _ true fu3 _ _ hf3
  obtain rfl : cs3 = (x3.cells q3).toArray := Array.toList_inj.1 e3
  obtain ⟨a4, rfl, rfl, rfl, w4⟩ := open_string T.und_9.eq (hval 4 9 v4 rfl rfl) h4
  exact law_calls (s := Rows.lifeMatchesReferenceSpec) Tryz.call4 (lawLMatches (Iw W) vc0 x0.kinds R0 G0.1 x0.dam sf0 F0 G0.2 _ l1 R1 G1 a2 w2 x3 q3 R3 G3 a4 w4) hW' (by kernel_rfl) (by kernel_rfl) rfl T.und_4.eq rfl rfl
theorem over : Rows.lifeMatchesReferenceRow.holds Tryz.pinned (OpenSpec.ofChange Rows.lifeMatchesReferenceSpec) :=
  OpenClaim.holds_of_wide 4 Tryz.f4 rfl rfl rfl rfl rfl rfl rfl ⟨rfl, rfl, rfl, rfl, rfl⟩ rfl rfl rfl rfl rfl (by kernel_rfl) Tryz.func4 (by kernel_rfl)
    (of_decide_eq_true (by kernel_rfl)) (by unfold Func.isWrapper; first | (rw [if_pos (by decide +kernel)]; kernel_rfl) | (rw [if_neg (by decide +kernel)]; exact ⟨rfl, rfl⟩))
    (fun os started H enc _ => lifted os started H enc)
/-- the statement -/
theorem proved : Rows.LifeMatchesReferenceSaid := over
end lawLifeMatchesReference
end Go.Proofs.YthcefohbbfjjfaaGreat

