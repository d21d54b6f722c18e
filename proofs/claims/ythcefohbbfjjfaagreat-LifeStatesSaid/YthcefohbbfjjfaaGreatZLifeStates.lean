/- The law LifeStates holds of the given program, for every input. No condition. -/
import Derived.Test.YthcefohbbfjjfaaGreatZLae
import Derived.OpenShut
import Derived.ProofKit
import Derived.Test.YthcefohbbfjjfaaGreatRows
/- Walks, printed by a program out of the code of the functions: each theorem is a contract of one function. -/
namespace Go.Proofs.YthcefohbbfjjfaaGreat
open Go Go.Sx
set_option linter.all false
set_option maxRecDepth 20000
set_option maxHeartbeats 4000000
instance T.und_62 : Has (Tryz.prog.underlying 62) (.int .u16) := ⟨by kernel_rfl⟩
theorem flSame_t (I : IMap) (v : Value) (l : List Part) (hv : RdS I v l) (v2 : Value) (m : List Part) (hv2 : RdS I v2 m) (h : l = m) : FnV Tryz.prog 27 #[.agg #[v], .agg #[v2]] I (.bool true) := by
  have := flSame I v l hv v2 m hv2
  rwa [decide_eq_true h] at this

theorem lawLStates (I : IMap) (vc : Value) (c : List Kind) (hvc : RdS I vc c) (hoc : ∀ x ∈ c, OkKd x) (f : Fm) (sf : Value) (hf : FmRd I [ci f.op, ci f.n, sf] f) (hof : OkFm f) (v : Value) (l : List Evt) (hv : RdS I v l) (hok : ∀ x ∈ l, OkE x) (day : Int) (wd : (Lit.int .i64 day).wf = true) :
    FnV Tryz.prog 8 #[.agg #[vc, ci f.op, ci f.n, sf], v, .int .i64 (day)] I (.bool true) := by
 refine enter Tryz.func8 Tryz.call8 rfl Tryz.ntmps8 rfl (fun w0 => ?_)
 refine go 3 ?_
 refine o_box _ rfl rfl rfl (fun g3 => ?_)
 refine go 6 ?_
 refine o_callV (head12 _) rfl rfl ?_
 refine go 5 ?_
 refine c_cut (I' := I) (L' := [(1, v), (2, .int .i64 (day)), (3, .pointer (some ⟨g3, 0, none⟩)), (7, .bool true), (24, .bool (!few12 c f l 24 || !validFm f))]) (H' := [.blk g3 29 [vc, ci f.op, ci f.n, sf]]) ?_ ?_
 ·refine go 4 ?_
  refine o_callV (law12few _ vc c hvc f sf hf v l hv) rfl rfl ?_
  refine go 2 ?_
  refine sxb 19 rfl (fun h19 p19 => ?_) (fun h19 p19 => ?_)
  ·refine go 7 ?_
   exact q_cut ⟨rfl, rfl, rfl, rfl, (congrArg (fun b => some (Value.bool b)) (by simp only [h19, bS])), trivial⟩ rfl rfl
  ·refine go 1 ?_
   refine o_cons (o_yes rfl rfl h19 (o_val rfl (v_ldp ([ci f.op, ci f.n, sf]) m0 he rfl rfl rfl) ?_))
   refine go 1 ?_
   refine o_yes rfl rfl h19 (o_callV (fmValid _ f _ hf) rfl rfl ?_)
   refine go 4 ?_
   exact q_cut ⟨rfl, rfl, rfl, rfl, (congrArg (fun b => some (Value.bool b)) (by simp only [h19, bS])), trivial⟩ rfl rfl
 ·refine cb rfl (fun h24 p24 => ?_) (fun h24 p24 => ?_)
  ·refine go 8 ?_
   refine fin1 rfl rfl ?_
   exact q_vI rfl
  ·have hfv : few12 c f l 24 = true ∧ validFm f = true := by simpa using h24
   obtain ⟨hfw, hvf⟩ := hfv
   obtain ⟨hsc, hl, hse⟩ := few12_sm (n := 24) hfw
   have hl6 : l.length ≤ 1000000 := by omega
   have hkey := life_states (c := c) hvf l day
   have hE : (runL f c l day).2 = (atF11 c l day).2 := by rw [← hkey]; rfl
   have hS : (runL f c l day).1.map bareP = (atF11 c l day).1 := by rw [← hkey]; rfl
   obtain ⟨hfn, hrl⟩ := fit_run (f := f) (c := c) (l := l) (day := day) (by omega)
   have hal : (atF11 c l day).1.length ≤ 25 := by rw [← hS, List.length_map]; exact hrl
   refine go 8 ?_
   refine o_call (lifeRun _ vc c hvc hsc f sf hf v l hv (by omega) hse day) rfl rfl (fun v30 I30 j30 q30 => ?_)
   try have hvc := hvc.le j30
   try have hf := hf.le j30
   try have hv := hv.le j30
   try have hwa := hwa.le j30
   try have hwb := hwb.le j30
   try have hAa := hAa.le j30
   try have hAb := hAb.le j30
   try have hA := hA.le j30
   obtain ⟨wa, rfl, hwa⟩ := q30
   refine go 5 ?_
   refine o_alloc he rfl (fun g8 => ?_)
   refine go 1 ?_
   refine o_stw _ he rfl rfl rfl rfl rfl (by simp [RdS.one hwa]) ?_
   refine go 7 ?_
   refine o_v rfl (v_ldp ([vc]) m1 he rfl rfl rfl) ?_
   refine go 3 ?_
   refine o_call (cAt _ vc c hvc hsc v l hv hl6 hse day) rfl rfl (fun v39 I39 j39 q39 => ?_)
   try have hvc := hvc.le j39
   try have hf := hf.le j39
   try have hv := hv.le j39
   try have hwa := hwa.le j39
   try have hwb := hwb.le j39
   try have hAa := hAa.le j39
   try have hAb := hAb.le j39
   try have hA := hA.le j39
   obtain ⟨wb, rfl, hwb⟩ := q39
   refine go 5 ?_
   refine o_alloc he rfl (fun g11 => ?_)
   refine go 1 ?_
   refine o_stw _ he rfl rfl rfl rfl rfl (by simp [RdS.one hwb]) ?_
   refine go 5 ?_
   refine sx_knowI (fun hE6 hf6 => ?_)
   refine d_startH T.mixed ?_
   refine d_tv 0 rfl rfl (by kernel_rfl) rfl (.refl _) rfl (v_move rfl) ?_
   refine d_tv 1 rfl rfl (by kernel_rfl) rfl (.refl _) rfl (v_move rfl) ?_
   refine d_t 2 rfl rfl (by kernel_rfl) rfl (fun _ m => m.keeps (.refl _)) (y_yes rfl rfl rfl (v_move rfl)) ?_
   refine d_t 3 rfl rfl (by kernel_rfl) rfl (fun _ m => m.keeps (.refl _)) (y_yes rfl rfl rfl (v_move rfl)) ?_
   refine d_t 4 rfl rfl (by kernel_rfl) rfl (fun _ m => m.keeps (.refl _)) (y_yes rfl rfl rfl (OV.cast (u := .bool true) (v_eql rfl rfl) (congrArg Value.bool (decide_eq_true (by rw [hE]))))) ?_
   refine d_tv 5 rfl rfl (by kernel_rfl) rfl (.refl _) rfl (v_and_t rfl rfl rfl) ?_
   refine d_tv 6 rfl rfl (by kernel_rfl) rfl (.refl _) rfl (v_move rfl) ?_
   refine d_t 7 rfl rfl (by kernel_rfl) rfl (fun _ m => m.keeps (.refl _)) (y_yes rfl rfl rfl (v_move rfl)) ?_
   refine d_t 8 rfl rfl (by kernel_rfl) rfl (fun _ m => m.keeps (.refl _)) (y_yes rfl rfl rfl (v_move rfl)) ?_
   refine d_t 9 rfl rfl (by kernel_rfl) rfl (fun _ m => m.keeps (.refl _)) (y_yes rfl rfl rfl (OV.cast (u := .bool true) (v_eql rfl rfl) (congrArg Value.bool (decide_eq_true (by rw [hE]))))) ?_
   refine d_tv 10 rfl rfl (by kernel_rfl) rfl (.refl _) rfl (v_and_t rfl rfl rfl) ?_
   refine d_tv 11 rfl rfl (by kernel_rfl) rfl (.refl _) rfl (v_move rfl) ?_
   refine d_t 12 rfl rfl (by kernel_rfl) rfl (fun _ m => m.keeps (.refl _)) (y_yes rfl rfl rfl (v_ldw m1 he rfl rfl)) ?_
   refine d_t 14 rfl rfl (by kernel_rfl) rfl (fun _ m => m.keeps (.refl _)) (y_yes rfl rfl rfl (v_ldw m0 he rfl rfl)) ?_
   refine d_one 13 (by kernel_rfl) rfl ?_
   refine o_yes rfl rfl rfl (o_call (ref12Bare _ _ _ hwa (by omega)) rfl rfl (fun v56 I56 j56 q56 => ?_))
   try have hvc := hvc.le j56
   try have hf := hf.le j56
   try have hv := hv.le j56
   try have hwa := hwa.le j56
   try have hwb := hwb.le j56
   try have hAa := hAa.le j56
   try have hAb := hAb.le j56
   try have hA := hA.le j56
   obtain ⟨w56, rfl, hw56⟩ := q56
   refine d_on (fun _ m => m.keepsI (.refl _) (j56) hE6 hf6) ?_
   refine d_one 15 (by kernel_rfl) rfl ?_
   refine o_yes rfl rfl rfl (o_call (ref12Bare _ _ _ hwb (by omega)) rfl rfl (fun v58 I58 j58 q58 => ?_))
   try have hvc := hvc.le j58
   try have hf := hf.le j58
   try have hv := hv.le j58
   try have hwa := hwa.le j58
   try have hwb := hwb.le j58
   try have hAa := hAa.le j58
   try have hAb := hAb.le j58
   try have hA := hA.le j58
   try have hw56 := hw56.le j58
   obtain ⟨w58, rfl, hw58⟩ := q58
   refine d_on (fun _ m => m.keepsI (.refl _) ((j56).trans j58) hE6 hf6) ?_
   refine d_one 16 (by kernel_rfl) rfl ?_
   refine o_yes rfl rfl rfl (o_callV (flSame_t _ _ _ hw56 _ _ hw58 (by rw [← hS, List.map_map]; rfl)) rfl rfl ?_)
   refine d_on (fun _ m => m.keepsI (.refl _) ((j56).trans j58) hE6 hf6) ?_
   refine d_t 17 rfl rfl (by kernel_rfl) rfl (fun _ m => m.keepsI (.refl _) ((j56).trans j58) hE6 hf6) (y_v rfl (v_and_t rfl rfl rfl)) ?_
   refine d_t 18 rfl rfl (by kernel_rfl) rfl (fun _ m => m.keepsI (.refl _) ((j56).trans j58) hE6 hf6) (y_v rfl (v_assign rfl)) ?_
   refine d_done (by kernel_rfl) ?_
   refine go 2 ?_
   refine fin1 rfl rfl ?_
   exact q_vI rfl

end Go.Proofs.YthcefohbbfjjfaaGreat

/- The law LifeStates holds of the given program, for every input. No condition. -/
namespace Go.Proofs.YthcefohbbfjjfaaGreat
open Go Go.Sx
set_option linter.all false
theorem T.cel_111 : Tryz.prog.cellsOf 111 = 3 := by kernel_rfl
theorem T.cel_113 : Tryz.prog.cellsOf 113 = 3 := by kernel_rfl
theorem T.cel_24 : Tryz.prog.cellsOf 24 = 1 := by kernel_rfl
theorem T.cel_27 : Tryz.prog.cellsOf 27 = 3 := by kernel_rfl
theorem T.cel_29 : Tryz.prog.cellsOf 29 = 4 := by kernel_rfl
theorem T.cel_32 : Tryz.prog.cellsOf 32 = 2 := by kernel_rfl
theorem T.cel_34 : Tryz.prog.cellsOf 34 = 6 := by kernel_rfl
theorem T.cel_43 : Tryz.prog.cellsOf 43 = 14 := by kernel_rfl
theorem T.cel_9 : Tryz.prog.cellsOf 9 = 1 := by kernel_rfl
instance T.fds_111 : Has (fieldsK Tryz.prog 111) [(9, 0, 1), (4, 1, 1), (109, 2, 1)] := ⟨by kernel_rfl⟩
instance T.fds_113 : Has (fieldsK Tryz.prog 113) [(9, 0, 1), (63, 1, 1), (3, 2, 1)] := ⟨by kernel_rfl⟩
instance T.fds_24 : Has (fieldsK Tryz.prog 24) [(22, 0, 1)] := ⟨by kernel_rfl⟩
instance T.fds_27 : Has (fieldsK Tryz.prog 27) [(3, 0, 1), (3, 1, 1), (25, 2, 1)] := ⟨by kernel_rfl⟩
instance T.fds_29 : Has (fieldsK Tryz.prog 29) [(24, 0, 1), (27, 1, 3)] := ⟨by kernel_rfl⟩
instance T.fds_32 : Has (fieldsK Tryz.prog 32) [(3, 0, 1), (3, 1, 1)] := ⟨by kernel_rfl⟩
instance T.fds_34 : Has (fieldsK Tryz.prog 34) [(32, 0, 2), (32, 2, 2), (32, 4, 2)] := ⟨by kernel_rfl⟩
instance T.fds_43 : Has (fieldsK Tryz.prog 43) [(3, 0, 1), (3, 1, 1), (9, 2, 1), (9, 3, 1), (9, 4, 1), (9, 5, 1), (9, 6, 1), (9, 7, 1), (34, 8, 6)] := ⟨by kernel_rfl⟩
namespace lawLifeStates
open Go.ChangeShapes Go.WideShapes Go.ChangeAt Go.RowKit
theorem own : ownKnob Tryz.prog.godebug = none := by kernel_rfl
set_option maxRecDepth 100000 in
theorem lifted (os : Os) (started : os.Started) (H : Type) (enc : TypeId × Value → H) :
    ReturnsInHanded {} Tryz.checked os 8 .any (Rows.lifeStatesSpec.pre6 enc Tryz.prog Tryz.f8 Rows.lifeStatesRow.domain false) (Rows.lifeStatesSpec.post enc Tryz.prog Tryz.f8 false true false false) := by
  refine returnsInHanded_of_change (C := Tryz.checked) own started (by kernel_rfl) Tryz.func8
    (ChangeSpec.witness6 (enc := enc) (C := Tryz.checked) false ⟨#[], #[.agg #[.slice none 0 0, .int .i64 0, .int .i64 0, .slice none 0 0], .slice none 0 0, .int .i64 0], []⟩ 8 (by kernel_rfl) (by kernel_rfl) (by kernel_rfl) (by kernel_rfl)) ?_
  intro W base args ds gs before hval0 hW hcnd _
  have hval : ∀ (j : Nat) t v, Tryz.f8.params[j]? = some t → args[j]? = some v → Value.okWide Tryz.prog W .any base t v := hval0
  have hW' := hW
  obtain ⟨p, q, hA0, hV, rfl, hfz, hnd⟩ := hW
  have hA : DataW.TrodAll enc Tryz.prog W 0 (fun _ => true) true Tryz.f8.params.toList args.toList ds p := hA0
  rw [Tryz.params8] at hA hval
  obtain ⟨v0, vs0, d0, ds0, p0, q0, hargs, rfl, rfl, h0, r0⟩ := trodAll_cons hA
  obtain ⟨v1, vs1, d1, ds1, p1, q1, rfl, rfl, rfl, h1, r1⟩ := trodAll_cons r0
  obtain ⟨v2, vs2, d2, ds2, p2, q2, rfl, rfl, rfl, h2, r2⟩ := trodAll_cons r1
  obtain ⟨rfl, rfl, rfl⟩ := trodAll_nil r2
  obtain rfl : args = #[v0, v1, v2] := by cases args; simp_all
  obtain ⟨rfl, rfl⟩ := trodVars_none hV
  clear hA0 hval0
  obtain ⟨cs0, rfl, hz0⟩ := okWide_agg T.fds_29.eq (hval 0 29 v0 rfl rfl)
  obtain ⟨fu0, hf0⟩ := h0
  obtain ⟨x0, ⟨vc0, sf0, e0, R0, F0⟩, G0⟩ := (opens_setup T.fds_29.eq T.cel_29 (opens_wrap T.fds_24.eq T.cel_24 (opens_slice T.und_22.eq T.cel_111 rfl (opens_kind T.fds_111.eq T.cel_111 (opens_string T.und_9.eq) (opens_bool T.und_4.eq) (opens_slice T.und_109.eq T.cel_113 rfl (opens_slot T.fds_113.eq T.cel_113 (opens_string T.und_9.eq) (opens_slice T.und_63.eq T.cel_9 rfl (opens_string T.und_9.eq)) (opens_int T.und_3.eq)))))) (opens_form T.fds_27.eq T.cel_27 T.und_25.eq T.und_3.eq)) enc W 0 _ true fu0 _ _ hf0
  obtain rfl : cs0 = #[vc0, ci x0.dam.op, ci x0.dam.n, sf0] := Array.toList_inj.1 e0
  obtain ⟨s1, n1, c1, rfl⟩ := okWide_slice T.und_30.eq (hval 1 30 v1 rfl rfl)
  obtain ⟨fu1, hf1⟩ := h1
  obtain ⟨l1, ⟨u1, e1, R1⟩, G1⟩ := (opens_slice T.und_30.eq T.cel_43 rfl (opens_evt T.fds_43.eq T.cel_43 (opens_int T.und_3.eq) (opens_string T.und_9.eq) (opens_use T.fds_34.eq T.cel_34 (opens_ivl T.fds_32.eq T.cel_32 (opens_int T.und_3.eq))))) enc W 0 _ true fu1 _ _ hf1
  cases e1
  obtain ⟨a2, rfl, rfl, rfl, w2⟩ := open_int T.und_3.eq (hval 2 3 v2 rfl rfl) h2
  exact law_calls (s := Rows.lifeStatesSpec) Tryz.call8 (lawLStates (Iw W) vc0 x0.kinds R0 G0.1 x0.dam sf0 F0 G0.2 _ l1 R1 G1 a2 w2) hW' (by kernel_rfl) (by kernel_rfl) rfl T.und_4.eq rfl rfl
theorem over : Rows.lifeStatesRow.holds Tryz.pinned (OpenSpec.ofChange Rows.lifeStatesSpec) :=
  OpenClaim.holds_of_wide 8 Tryz.f8 rfl rfl rfl rfl rfl rfl rfl ⟨rfl, rfl, rfl, rfl, rfl⟩ rfl rfl rfl rfl rfl (by kernel_rfl) Tryz.func8 (by kernel_rfl)
    (of_decide_eq_true (by kernel_rfl)) (by unfold Func.isWrapper; first | (rw [if_pos (by decide +kernel)]; kernel_rfl) | (rw [if_neg (by decide +kernel)]; exact ⟨rfl, rfl⟩))
    (fun os started H enc _ => lifted os started H enc)
/-- the statement -/
theorem proved : Rows.LifeStatesSaid := over
end lawLifeStates
end Go.Proofs.YthcefohbbfjjfaaGreat

