/- The law PlaceSure holds of the given program, for every input. No condition. -/
import Derived.Test.YtdapmfkbpnjkmaaGreatZPlf
import Derived.ChangeMaps5
import Derived.OpenShut
import Derived.ProofKit
import Derived.Test.YtdapmfkbpnjkmaaGreatRows
/- Walks, printed by a program out of the code of the functions: each theorem is a contract of one function. -/
namespace Go.Proofs.YtdapmfkbpnjkmaaGreat
open Go Go.Sx
set_option linter.all false
set_option maxRecDepth 20000
set_option maxHeartbeats 4000000
theorem lawPlSure (I : IMap) (vc : Value) (c : List Kind) (hvc : RdS I vc c) (hoc : ∀ x ∈ c, OkKd x) (v : Value) (l : List Rep) (hv : RdS I v l) (hok : ∀ x ∈ l, OkRp x) (p : ByteArray) (wp : p.size ≤ maxLen) (z : ByteArray) (wz : z.size ≤ maxLen) (day : Int) (wd : (Lit.int .i64 day).wf = true) :
    FnV Tryz.prog 7 #[.agg #[vc], v, .string p, .string z, .int .i64 (day)] I (.bool true) := by
 have hv0 := hv
 obtain ⟨A, c0, rfl, hA, hc, hm⟩ := hv0
 refine enter Tryz.func7 Tryz.call7 rfl Tryz.ntmps7 rfl (fun w0 => ?_)
 refine go 3 ?_
 refine o_box _ rfl rfl rfl (fun g5 => ?_)
 refine go 6 ?_
 refine o_callV (head19 _) rfl rfl ?_
 refine go 5 ?_
 refine c_cutx (α := IMap) (Ix := (fun J => J)) (Lx := (fun J => [(1, .slice A l.length c0), (2, .string p), (3, .string z), (4, .int .i64 (day)), (5, .pointer (some ⟨g5, 0, none⟩)), (11, .bool true), (30, .bool (!few19 c l || !shortF [p, z]))])) (Hx := (fun J => [.blk g5 24 [vc]])) (p := (fun J => ILe I J)) ?_ ?_
 ·refine go 4 ?_
  refine o_callV (law19few _ vc c hvc _ l hv) rfl rfl ?_
  refine go 2 ?_
  refine sxb 24 rfl (fun h24 p24 => ?_) (fun h24 p24 => ?_)
  ·refine go 8 ?_
   exact q_cutx I (ILe.refl _) ⟨rfl, rfl, rfl, rfl, rfl, rfl, (congrArg (fun b => some (Value.bool b)) (by simp only [h24, bS])), trivial⟩ rfl rfl
  ·refine go 3 ?_
   refine o_yes rfl rfl h24 (o_buildSlice he he rfl rfl rfl rfl rfl rfl rfl (fun v27 => ?_))
   refine sx_pubrow (l := [p, z]) rfl rfl (.cons rfl (.one rfl)) (fun I27 j27 R27 => ?_)
   have hvc := hvc.le j27
   have hv := hv.le j27
   have hA := hA.le j27
   refine go 1 ?_
   refine o_yes rfl rfl h24 (o_callV (law19short _ _ [p, z] R27 (by simp)) rfl rfl ?_)
   refine go 4 ?_
   exact q_cutx I27 j27 ⟨rfl, rfl, rfl, rfl, rfl, rfl, (congrArg (fun b => some (Value.bool b)) (by simp only [h24, bS])), trivial⟩ rfl rfl
 ·intro J hJ
  have hvc := hvc.le hJ
  have hv := hv.le hJ
  have hA := hA.le hJ
  refine cb rfl (fun h30 p30 => ?_) (fun h30 p30 => ?_)
  ·refine go 8 ?_
   refine fin1 rfl rfl ?_
   exact q_vI rfl
  ·simp only [Bool.or_eq_false_iff, Bool.not_eq_false'] at h30
   obtain ⟨hsc, hl12, hsl, _⟩ := few19_sm h30.1
   have hl : l.length ≤ 1000000 := by omega
   obtain ⟨R, hR⟩ := roots_ex l
   refine go 9 ?_
   refine c_loop (α := Nat) 0 (fun i => J)
    (fun i => [(1, .slice A l.length c0), (2, .string p), (3, .string z), (4, .int .i64 (day)), (5, .pointer (some ⟨g5, 0, none⟩)), (11, .bool true), (12, .int .i64 ((i : Nat) : Int))])
    (fun i => [.blk g5 24 [vc]])
    (fun i => i ≤ l.length ∧ ∀ r ∈ l.take i, chs r = 1)
    (fun i => l.length - i) ⟨Nat.zero_le _, fun r hr => by simp at hr⟩ rfl sb rfl ?_
   intro i ⟨hi, hn⟩
   refine go 9 ?_
   refine cb rfl (fun h35 p35 => ?_) (fun h35 p35 => ?_)
   ·have hlt : i < l.length := by omega
    refine go 8 ?_
    obtain ⟨b40, o40, w40, e40, c40, r40⟩ := RdA.at_ hA (i := i) (by omega)
    obtain ⟨q40, rfl, S40, d40, rfl, hS40, hd40, hm40⟩ := r40
    refine o_v rfl (v_idx he rfl rfl e40 (i) (by omega) (by omega)) ?_
    refine o_v rfl (v_ldIa he rfl c40 rfl) ?_
    refine go 1 ?_
    refine o_callV (repChoices _ l[i] S40 d40 ⟨_, _, rfl, hS40, hd40, hm40⟩ (hsl _ (List.getElem_mem hlt))) rfl rfl ?_
    refine go 3 ?_
    refine cb rfl (fun h43 p43 => ?_) (fun h43 p43 => ?_)
    ·refine go 12 ?_
     refine fin1 rfl rfl ?_
     exact q_vI rfl
    ·refine go 9 ?_
     exact q_next (i + 1) ⟨by omega, one_take hlt hn (by simpa using h43)⟩ (by omega) rfl sb rfl
   ·obtain rfl : i = l.length := by omega
    rw [List.take_length] at hn
    refine go 12 ?_
    refine o_call (plOf _ vc c hvc hsc _ l hv hl hsl R hR p day) rfl rfl (fun v50 I50 j50 q50 => ?_)
    try have hvc := hvc.le j50
    try have hv := hv.le j50
    try have hA := hA.le j50
    try have hAX := hAX.le j50
    try have hAY := hAY.le j50
    try have hAU := hAU.le j50
    try have hwX := hwX.le j50
    try have hw36 := hw36.le j50
    try have hw44 := hw44.le j50
    try have hw64 := hw64.le j50
    try have hw40 := hw40.le j50
    try have hw48 := hw48.le j50
    try have hw50 := hw50.le j50
    try have hw59 := hw59.le j50
    obtain ⟨w50, rfl, hw50⟩ := q50
    obtain ⟨X, hX⟩ : ∃ q, q = (shwF plcLt (plcOf p) c l (ownF l R p) p day) := ⟨_, rfl⟩
    rw [← hX] at hw50 ⊢
    have lX := sure_len19 hX hn
    have hw50s := hw50
    obtain ⟨AX, cX, rfl, hAX, _, hmX⟩ := hw50s
    refine go 15 ?_
    refine o_call (plOcc _ vc c hvc hsc _ l hv hl hsl R hR p z day) rfl rfl (fun v59 I59 j59 q59 => ?_)
    try have hvc := hvc.le j59
    try have hv := hv.le j59
    try have hA := hA.le j59
    try have hAX := hAX.le j59
    try have hAY := hAY.le j59
    try have hAU := hAU.le j59
    try have hwX := hwX.le j59
    try have hw36 := hw36.le j59
    try have hw44 := hw44.le j59
    try have hw64 := hw64.le j59
    try have hw40 := hw40.le j59
    try have hw48 := hw48.le j59
    try have hw50 := hw50.le j59
    try have hw59 := hw59.le j59
    obtain ⟨w59, rfl, hw59⟩ := q59
    obtain ⟨Z, hZ⟩ : ∃ q, q = (shwF sLt (occOf p z) c l (ownF l R p) p day) := ⟨_, rfl⟩
    rw [← hZ] at hw59 ⊢
    have hXZ : X.2 = Z.2 := by rw [hX, hZ]; exact shw_code
    have lZ := sure_len19 hZ hn
    have hw59s := hw59
    obtain ⟨AZ, cZ, rfl, hAZ, _, hmZ⟩ := hw59s
    refine go 14 ?_
    refine o_call (plRoots _ vc c hvc hsc _ l hv hl hsl R hR p day) rfl rfl (fun v67 I67 j67 q67 => ?_)
    try have hvc := hvc.le j67
    try have hv := hv.le j67
    try have hA := hA.le j67
    try have hAX := hAX.le j67
    try have hAY := hAY.le j67
    try have hAU := hAU.le j67
    try have hwX := hwX.le j67
    try have hw36 := hw36.le j67
    try have hw44 := hw44.le j67
    try have hw64 := hw64.le j67
    try have hw40 := hw40.le j67
    try have hw48 := hw48.le j67
    try have hw50 := hw50.le j67
    try have hw59 := hw59.le j67
    obtain ⟨w67, rfl, hw67⟩ := q67
    obtain ⟨Y, hY⟩ : ∃ q, q = (shwF sLt (rootF p) c l (ownF l R p) p day) := ⟨_, rfl⟩
    rw [← hY] at hw67 ⊢
    have hXY : X.2 = Y.2 := by rw [hX, hY]; exact shw_code
    have lY := sure_len19 hY hn
    have hw67s := hw67
    obtain ⟨AY, cY, rfl, hAY, _, hmY⟩ := hw67s
    refine go 12 ?_
    refine o_v rfl (OV.cast (u := .bool false) (v_neq rfl rfl) (congrArg Value.bool (by rw [hXZ]; simp))) ?_
    refine go 3 ?_
    refine o_cons (o_yes rfl rfl rfl (o_val rfl (OV.cast (u := .bool false) (v_neq rfl rfl) (congrArg Value.bool (by rw [hXY]; simp))) ?_))
    refine go 3 ?_
    refine c_false rfl ?_
    refine go 9 ?_
    refine sxb 82 rfl (fun h82 p82 => ?_) (fun h82 p82 => ?_)
    ·have h0 : ¬ X.2 = 0 := by simpa using h82
     rw [if_neg h0] at lX
     rw [if_neg (hXZ ▸ h0)] at lZ
     rw [if_neg (hXY ▸ h0)] at lY
     refine go 8 ?_
     refine o_cons (o_yes rfl rfl h82 (o_val rfl (OV.cast (u := .bool true) (v_eql rfl rfl) (congrArg Value.bool (decide_eq_true (by omega)))) ?_))
     refine go 25 ?_
     refine fin1 rfl rfl ?_
     exact q_vI rfl
    ·have h0 : X.2 = 0 := by simpa using h82
     rw [if_pos h0] at lX
     rw [if_pos (hXZ ▸ h0)] at lZ
     rw [if_pos (hXY ▸ h0)] at lY
     refine go 12 ?_
     refine o_cons (o_yes rfl rfl rfl (o_val rfl (OV.cast (u := .bool true) (v_eql rfl rfl) (congrArg Value.bool (decide_eq_true (h0)))) ?_))
     refine go 3 ?_
     refine o_cons (o_yes rfl rfl rfl (o_val rfl (OV.cast (u := .bool true) (v_eql rfl rfl) (congrArg Value.bool (decide_eq_true (by omega)))) ?_))
     refine go 4 ?_
     refine o_cons (o_yes rfl rfl rfl (o_val rfl (OV.cast (u := .bool true) (v_eql rfl rfl) (congrArg Value.bool (decide_eq_true (by omega)))) ?_))
     refine go 4 ?_
     refine o_cons (o_yes rfl rfl rfl (o_val rfl (OV.cast (u := .bool true) (v_eql rfl rfl) (congrArg Value.bool (decide_eq_true (by omega)))) ?_))
     refine go 7 ?_
     refine fin1 rfl rfl ?_
     exact q_vI rfl

end Go.Proofs.YtdapmfkbpnjkmaaGreat

/- The law PlaceSure holds of the given program, for every input. No condition. -/
namespace Go.Proofs.YtdapmfkbpnjkmaaGreat
open Go Go.Sx
set_option linter.all false
theorem T.cel_168 : Tryz.prog.cellsOf 168 = 3 := by kernel_rfl
theorem T.cel_170 : Tryz.prog.cellsOf 170 = 3 := by kernel_rfl
theorem T.cel_24 : Tryz.prog.cellsOf 24 = 1 := by kernel_rfl
theorem T.cel_44 : Tryz.prog.cellsOf 44 = 2 := by kernel_rfl
theorem T.cel_64 : Tryz.prog.cellsOf 64 = 2 := by kernel_rfl
theorem T.cel_9 : Tryz.prog.cellsOf 9 = 1 := by kernel_rfl
theorem T.cel_94 : Tryz.prog.cellsOf 94 = 6 := by kernel_rfl
theorem T.cel_96 : Tryz.prog.cellsOf 96 = 14 := by kernel_rfl
instance T.fds_168 : Has (fieldsK Tryz.prog 168) [(9, 0, 1), (4, 1, 1), (166, 2, 1)] := ⟨by kernel_rfl⟩
instance T.fds_170 : Has (fieldsK Tryz.prog 170) [(9, 0, 1), (33, 1, 1), (3, 2, 1)] := ⟨by kernel_rfl⟩
instance T.fds_24 : Has (fieldsK Tryz.prog 24) [(22, 0, 1)] := ⟨by kernel_rfl⟩
instance T.fds_44 : Has (fieldsK Tryz.prog 44) [(3, 0, 1), (3, 1, 1)] := ⟨by kernel_rfl⟩
instance T.fds_64 : Has (fieldsK Tryz.prog 64) [(62, 0, 1), (4, 1, 1)] := ⟨by kernel_rfl⟩
instance T.fds_94 : Has (fieldsK Tryz.prog 94) [(44, 0, 2), (44, 2, 2), (44, 4, 2)] := ⟨by kernel_rfl⟩
instance T.fds_96 : Has (fieldsK Tryz.prog 96) [(3, 0, 1), (3, 1, 1), (9, 2, 1), (9, 3, 1), (9, 4, 1), (9, 5, 1), (9, 6, 1), (9, 7, 1), (94, 8, 6)] := ⟨by kernel_rfl⟩
namespace lawPlaceSure
open Go.ChangeShapes Go.WideShapes Go.ChangeAt Go.RowKit Go.ChangeMaps Go.MapKept
theorem own : ownKnob Tryz.prog.godebug = none := by kernel_rfl
set_option maxRecDepth 100000 in
theorem lifted (os : Os) (started : os.Started) (H : Type) (enc : TypeId × Value → H) :
    ReturnsInHanded {} Tryz.checked os 7 .any (Rows.placeSureSpec.pre6 enc Tryz.prog Tryz.f7 Rows.placeSureRow.domain false) (Rows.placeSureSpec.post enc Tryz.prog Tryz.f7 false true false false) := by
  refine returnsInHanded_of_change (C := Tryz.checked) own started (by kernel_rfl) Tryz.func7
    (ChangeSpec.witness6 (enc := enc) (C := Tryz.checked) false ⟨#[], #[.agg #[.slice none 0 0], .slice none 0 0, .string ⟨#[]⟩, .string ⟨#[]⟩, .int .i64 0], []⟩ 8 (by kernel_rfl) (by kernel_rfl) (by kernel_rfl) (by kernel_rfl)) ?_
  intro W base args ds gs before hval0 hW hcnd _
  have hval : ∀ (j : Nat) t v, Tryz.f7.params[j]? = some t → args[j]? = some v → Value.okWide Tryz.prog W .any base t v := hval0
  have hW' := hW
  obtain ⟨p, q, hA0, hV, rfl, hfz, hnd⟩ := hW
  have hA : DataW.TrodAll enc Tryz.prog W 0 (fun _ => true) true Tryz.f7.params.toList args.toList ds p := hA0
  rw [Tryz.params7] at hA hval
  obtain ⟨v0, vs0, d0, ds0, p0, q0, hargs, rfl, rfl, h0, r0⟩ := trodAll_cons hA
  obtain ⟨v1, vs1, d1, ds1, p1, q1, rfl, rfl, rfl, h1, r1⟩ := trodAll_cons r0
  obtain ⟨v2, vs2, d2, ds2, p2, q2, rfl, rfl, rfl, h2, r2⟩ := trodAll_cons r1
  obtain ⟨v3, vs3, d3, ds3, p3, q3, rfl, rfl, rfl, h3, r3⟩ := trodAll_cons r2
  obtain ⟨v4, vs4, d4, ds4, p4, q4, rfl, rfl, rfl, h4, r4⟩ := trodAll_cons r3
  obtain ⟨rfl, rfl, rfl⟩ := trodAll_nil r4
  obtain rfl : args = #[v0, v1, v2, v3, v4] := by cases args; simp_all
  obtain ⟨rfl, rfl⟩ := trodVars_none hV
  clear hA0 hval0
  obtain ⟨cs0, rfl, hz0⟩ := okWide_agg T.fds_24.eq (hval 0 24 v0 rfl rfl)
  obtain ⟨fu0, hf0⟩ := h0
  obtain ⟨l0, ⟨u0, e0, R0⟩, G0⟩ := (opens_wrap T.fds_24.eq T.cel_24 (opens_slice T.und_22.eq T.cel_168 rfl (opens_kind T.fds_168.eq T.cel_168 (opens_string T.und_9.eq) (opens_bool T.und_4.eq) (opens_slice T.und_166.eq T.cel_170 rfl (opens_slot T.fds_170.eq T.cel_170 (opens_string T.und_9.eq) (opens_slice T.und_33.eq T.cel_9 rfl (opens_string T.und_9.eq)) (opens_int T.und_3.eq)))))) enc W 0 _ true fu0 _ _ hf0
  obtain rfl : cs0 = #[u0] := Array.toList_inj.1 e0
  obtain ⟨s1, n1, c1, rfl⟩ := okWide_slice T.und_25.eq (hval 1 25 v1 rfl rfl)
  obtain ⟨fu1, hf1⟩ := h1
  obtain ⟨l1, ⟨u1, e1, R1⟩, G1⟩ := (opens_slice T.und_25.eq T.cel_64 rfl (opens_rep T.fds_64.eq T.cel_64 (opens_slice T.und_62.eq T.cel_96 rfl (opens_evt T.fds_96.eq T.cel_96 (opens_int T.und_3.eq) (opens_string T.und_9.eq) (opens_use T.fds_94.eq T.cel_94 (opens_ivl T.fds_44.eq T.cel_44 (opens_int T.und_3.eq))))) (opens_bool T.und_4.eq))) enc W 0 _ true fu1 _ _ hf1
  cases e1
  obtain ⟨a2, rfl, rfl, rfl, w2⟩ := open_string T.und_9.eq (hval 2 9 v2 rfl rfl) h2
  obtain ⟨a3, rfl, rfl, rfl, w3⟩ := open_string T.und_9.eq (hval 3 9 v3 rfl rfl) h3
  obtain ⟨a4, rfl, rfl, rfl, w4⟩ := open_int T.und_3.eq (hval 4 3 v4 rfl rfl) h4
  exact law_calls (s := Rows.placeSureSpec) Tryz.call7 (lawPlSure (Iw W) _ l0 R0 G0 _ l1 R1 G1 a2 w2 a3 w3 a4 w4) hW' (by kernel_rfl) (by kernel_rfl) rfl T.und_4.eq rfl rfl
end lawPlaceSure

end Go.Proofs.YtdapmfkbpnjkmaaGreat

