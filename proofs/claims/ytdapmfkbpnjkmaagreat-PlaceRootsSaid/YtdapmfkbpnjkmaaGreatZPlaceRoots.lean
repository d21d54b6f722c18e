/- The law PlaceRoots holds of the given program, for every input. No condition. -/
import Derived.Test.YtdapmfkbpnjkmaaGreatZPlf
import Derived.ChangeMaps5
import Derived.OpenShut
import Derived.ProofKit
import Derived.Test.YtdapmfkbpnjkmaaGreatRows
/- Walks, printed by a program out of the code of the functions: each theorem is a contract of one function. -/
namespace Go.Proofs.YtdapmfkbpnjkmaaGreat
open Go Go.Sx
set_option linter.all false
set_option maxRecDepth 20000
set_option maxHeartbeats 4000000
theorem lawPlRoots (I : IMap) (vc : Value) (c : List Kind) (hvc : RdS I vc c) (hoc : ∀ x ∈ c, OkKd x) (v : Value) (l : List Rep) (hv : RdS I v l) (hok : ∀ x ∈ l, OkRp x) (p : ByteArray) (wp : p.size ≤ maxLen) (day : Int) (wd : (Lit.int .i64 day).wf = true) :
    FnV Tryz.prog 6 #[.agg #[vc], v, .string p, .int .i64 (day)] I (.bool true) := by
 refine enter Tryz.func6 Tryz.call6 rfl Tryz.ntmps6 rfl (fun w0 => ?_)
 refine go 3 ?_
 refine o_box _ rfl rfl rfl (fun g4 => ?_)
 refine go 6 ?_
 refine o_callV (head19 _) rfl rfl ?_
 refine go 5 ?_
 refine c_cutx (α := IMap) (Ix := (fun J => J)) (Lx := (fun J => [(1, v), (2, .string p), (3, .int .i64 (day)), (4, .pointer (some ⟨g4, 0, none⟩)), (9, .bool true), (29, .bool (!few19 c l || !shortF [p]))])) (Hx := (fun J => [.blk g4 24 [vc]])) (p := (fun J => ILe I J)) ?_ ?_
 ·refine go 4 ?_
  refine o_callV (law19few _ vc c hvc v l hv) rfl rfl ?_
  refine go 2 ?_
  refine sxb 24 rfl (fun h24 p24 => ?_) (fun h24 p24 => ?_)
  ·refine go 7 ?_
   exact q_cutx I (ILe.refl _) ⟨rfl, rfl, rfl, rfl, rfl, (congrArg (fun b => some (Value.bool b)) (by simp only [h24, bS])), trivial⟩ rfl rfl
  ·refine go 2 ?_
   refine o_yes rfl rfl h24 (o_buildSlice he he rfl rfl rfl rfl rfl rfl rfl (fun v26 => ?_))
   refine sx_pubrow (l := [p]) rfl rfl ((.one rfl)) (fun I26 j26 R26 => ?_)
   have hvc := hvc.le j26
   have hv := hv.le j26
   refine go 1 ?_
   refine o_yes rfl rfl h24 (o_callV (law19short _ _ [p] R26 (by simp)) rfl rfl ?_)
   refine go 4 ?_
   exact q_cutx I26 j26 ⟨rfl, rfl, rfl, rfl, rfl, (congrArg (fun b => some (Value.bool b)) (by simp only [h24, bS])), trivial⟩ rfl rfl
 ·intro J hJ
  have hvc := hvc.le hJ
  have hv := hv.le hJ
  refine cb rfl (fun h29 p29 => ?_) (fun h29 p29 => ?_)
  ·refine go 8 ?_
   refine fin1 rfl rfl ?_
   exact q_vI rfl
  ·simp only [Bool.or_eq_false_iff, Bool.not_eq_false'] at h29
   obtain ⟨hsc, hl12, hsl, _⟩ := few19_sm h29.1
   have hl : l.length ≤ 1000000 := by omega
   obtain ⟨R, hR⟩ := roots_ex l
   refine go 9 ?_
   refine o_call (plOf _ vc c hvc hsc v l hv hl hsl R hR p day) rfl rfl (fun v36 I36 j36 q36 => ?_)
   try have hvc := hvc.le j36
   try have hv := hv.le j36
   try have hA := hA.le j36
   try have hAX := hAX.le j36
   try have hAY := hAY.le j36
   try have hAU := hAU.le j36
   try have hwX := hwX.le j36
   try have hw36 := hw36.le j36
   try have hw44 := hw44.le j36
   try have hw64 := hw64.le j36
   try have hw40 := hw40.le j36
   try have hw48 := hw48.le j36
   obtain ⟨w36, rfl, hw36⟩ := q36
   obtain ⟨X, hX⟩ : ∃ q, q = (shwF plcLt (plcOf p) c l (ownF l R p) p day) := ⟨_, rfl⟩
   rw [← hX] at hw36 ⊢
   
   refine go 14 ?_
   refine o_call (plRoots _ vc c hvc hsc v l hv hl hsl R hR p day) rfl rfl (fun v44 I44 j44 q44 => ?_)
   try have hvc := hvc.le j44
   try have hv := hv.le j44
   try have hA := hA.le j44
   try have hAX := hAX.le j44
   try have hAY := hAY.le j44
   try have hAU := hAU.le j44
   try have hwX := hwX.le j44
   try have hw36 := hw36.le j44
   try have hw44 := hw44.le j44
   try have hw64 := hw64.le j44
   try have hw40 := hw40.le j44
   try have hw48 := hw48.le j44
   obtain ⟨w44, rfl, hw44⟩ := q44
   obtain ⟨Y, hY⟩ : ∃ q, q = (shwF sLt (rootF p) c l (ownF l R p) p day) := ⟨_, rfl⟩
   rw [← hY] at hw44 ⊢
   have hXY : X.2 = Y.2 := by rw [hX, hY]; exact shw_code
   refine go 13 ?_
   refine sxb 49 rfl (fun h49 p49 => ?_) (fun h49 p49 => ?_)
   ·refine go 5 ?_
    refine c_true rfl ?_
    refine go 6 ?_
    refine o_cons (o_yes rfl rfl rfl (o_val rfl (OV.cast (u := .bool true) (v_eql rfl rfl) (congrArg Value.bool (decide_eq_true (hXY)))) ?_))
    refine go 6 ?_
    refine fin1 rfl rfl ?_
    exact q_vI rfl
   ·refine go 5 ?_
    refine cb rfl (fun h52 p52 => ?_) (fun h52 p52 => ?_)
    ·refine go 6 ?_
     refine o_cons (o_yes rfl rfl rfl (o_val rfl (OV.cast (u := .bool true) (v_eql rfl rfl) (congrArg Value.bool (decide_eq_true (hXY)))) ?_))
     refine go 6 ?_
     refine fin1 rfl rfl ?_
     exact q_vI rfl
    ·have h0 : X.2 = 0 := by simpa using h49
     have hw36s := hw36
     obtain ⟨AX, cX, rfl, hAX, _, hmX⟩ := hw36s
     have hw44s := hw44
     obtain ⟨AY, cY, rfl, hAY, _, hmY⟩ := hw44s
     refine go 8 ?_
     refine o_callV (law19in _ _ _ hw44 p) rfl rfl ?_
     refine go 2 ?_
     refine o_val rfl (v_build (pl := [(0, 1), (1, 1)]) he he rfl rfl) ?_
     refine go 1 ?_
     refine o_callV (law19at _ _ _ hw36 ⟨nil8, nil8⟩) rfl rfl ?_
     refine o_v rfl (OV.cast (u := .bool false) (v_bneq he rfl rfl) (congrArg Value.bool (by rw [roots_self' hX hY h0]; rfl))) ?_
     refine go 2 ?_
     refine c_false rfl ?_
     refine go 9 ?_
     refine c_loop2 ((0 : Nat)) (_) (fun i J2 => J2)
      (fun i J2 => [(1, v), (2, .string p), (3, .int .i64 (day)), (4, .pointer (some ⟨g4, 0, none⟩)), (9, .bool true), (10, .slice AX X.1.length cX), (12, .slice AY Y.1.length cY), (14, .int .i64 ((i : Nat) : Int))])
      (fun i J2 => [.blk g4 24 [vc]])
      (fun i J2 => i ≤ Y.1.length ∧ ILe I44 J2)
      (fun i J2 => Y.1.length - i) ⟨Nat.zero_le _, ILe.refl _⟩ rfl sb rfl ?_
     intro i J2 ⟨hi, hJ2⟩
     have hvc := hvc.le hJ2
     have hv := hv.le hJ2
     have hAX := hAX.le hJ2
     have hAY := hAY.le hJ2
     refine go 9 ?_
     refine cb rfl (fun h69 p69 => ?_) (fun h69 p69 => ?_)
     ·have hlt : i < Y.1.length := by omega
      refine go 8 ?_
      obtain ⟨b74, o74, w74, e74, c74, r74⟩ := RdA.at_ hAY (i := i) hlt
      obtain rfl := r74
      refine o_v rfl (v_idx he rfl rfl e74 (i) (by omega) hlt) ?_
      refine o_v rfl (v_ldI he rfl (c74 0 _ rfl)) ?_
      refine go 12 ?_
      refine c_loop3 ((0 : Nat)) (_) (decide (Y.1[i] = p)) (fun k M b => M)
       (fun k M b => [(1, v), (2, .string p), (3, .int .i64 (day)), (4, .pointer (some ⟨g4, 0, none⟩)), (9, .bool true), (10, .slice AX X.1.length cX), (12, .slice AY Y.1.length cY), (14, .int .i64 ((i : Nat) : Int)), (15, .bool b), (16, .int .i64 ((k : Nat) : Int))])
       (fun k M b => [.blk g4 24 [vc]])
       (fun k M b => k ≤ X.1.length ∧ ILe J2 M ∧ (b = false → ¬ Y.1[i] = p ∧ ∀ j (h : j < X.1.length), j < k → ¬ upG c l R day Y.1[i] X.1[j]))
       (fun k M b => X.1.length - k) ⟨Nat.zero_le _, ILe.refl _, fun hb => ⟨of_decide_eq_false hb, fun j _ h => absurd h (Nat.not_lt_zero _)⟩⟩ rfl sb rfl ?_
      intro k M b ⟨hk, hM, hb⟩
      have hvc := hvc.le hM
      have hv := hv.le hM
      have hAX := hAX.le hM
      have hAY := hAY.le hM
      refine go 8 ?_
      refine sxb 82 rfl (fun h82 p82 => ?_) (fun h82 p82 => ?_)
      ·refine go 5 ?_
       refine cb rfl (fun h85 p85 => ?_) (fun h85 p85 => ?_)
       ·have hkl : k < X.1.length := by omega
        have hbf : b = false := by simpa using h85
        refine go 8 ?_
        obtain ⟨b90, o90, w90, e90, c90, r90⟩ := RdA.at_ hAX (i := k) hkl
        obtain rfl := r90
        refine o_v rfl (v_idx he rfl rfl e90 (k) (by omega) hkl) ?_
        refine go 1 ?_
        refine o_v rfl (v_ldI he rfl (c90 0 _ rfl)) ?_
        refine go 3 ?_
        refine cb rfl (fun h93 p93 => ?_) (fun h93 p93 => ?_)
        ·refine go 1 ?_
         refine sx_knowI (fun hE18 hf18 => ?_)
         refine d_startH T.mixed ?_
         refine d_tv 0 rfl rfl (by kernel_rfl) rfl (.refl _) rfl (v_ldw m0 he rfl rfl) ?_
         refine d_tv 1 rfl rfl (by kernel_rfl) rfl (.refl _) rfl (v_move rfl) ?_
         refine d_tv 2 rfl rfl (by kernel_rfl) rfl (.refl _) rfl (v_move rfl) ?_
         refine d_tv 3 rfl rfl (by kernel_rfl) rfl (.refl _) rfl (v_move rfl) ?_
         obtain ⟨b99, o99, w99, e99, c99, r99⟩ := RdA.at_ hAX (i := k) hkl
         obtain rfl := r99
         refine d_tv 4 rfl rfl (by kernel_rfl) rfl (.refl _) rfl (v_idx he rfl rfl e99 (k) (by omega) hkl) ?_
         refine d_tv 5 rfl rfl (by kernel_rfl) rfl (.refl _) rfl (v_fieldAddr he rfl) ?_
         refine d_tv 6 rfl rfl (by kernel_rfl) rfl (.refl _) rfl (v_ldI he rfl (c99 0 _ rfl)) ?_
         refine d_tv 7 rfl rfl (by kernel_rfl) rfl (.refl _) rfl (v_move rfl) ?_
         refine d_one 8 (by kernel_rfl) rfl ?_
         refine o_call (plRoots _ vc c hvc hsc v l hv hl hsl R hR X.1[k].into day) rfl rfl (fun v103 I103 j103 q103 => ?_)
         try have hvc := hvc.le j103
         try have hv := hv.le j103
         try have hA := hA.le j103
         try have hAX := hAX.le j103
         try have hAY := hAY.le j103
         try have hAU := hAU.le j103
         try have hwX := hwX.le j103
         try have hw36 := hw36.le j103
         try have hw44 := hw44.le j103
         try have hw64 := hw64.le j103
         try have hw40 := hw40.le j103
         try have hw48 := hw48.le j103
         obtain ⟨w103, rfl, hw103⟩ := q103
         obtain ⟨U, hU⟩ : ∃ q, q = (shwF sLt (rootF X.1[k].into) c l (ownF l R X.1[k].into) X.1[k].into day) := ⟨_, rfl⟩
         rw [← hU] at hw103 ⊢
         
         refine d_on (fun _ m => m.keepsI (.refl _) (j103) hE18 hf18) ?_
         refine d_t 9 rfl rfl (by kernel_rfl) rfl (fun _ m => m.keepsI (.refl _) (j103) hE18 hf18) (y_v rfl (v_move rfl)) ?_
         refine d_t 10 rfl rfl (by kernel_rfl) rfl (fun _ m => m.keepsI (.refl _) (j103) hE18 hf18) (y_v rfl (v_extract rfl rfl)) ?_
         refine d_t 11 rfl rfl (by kernel_rfl) rfl (fun _ m => m.keepsI (.refl _) (j103) hE18 hf18) (y_v rfl (v_extract rfl rfl)) ?_
         refine d_t 12 rfl rfl (by kernel_rfl) rfl (fun _ m => m.keepsI (.refl _) (j103) hE18 hf18) (y_v rfl (v_assign rfl)) ?_
         refine d_t 13 rfl rfl (by kernel_rfl) rfl (fun _ m => m.keepsI (.refl _) (j103) hE18 hf18) (y_v rfl (v_assign rfl)) ?_
         refine d_done (by kernel_rfl) ?_
         refine go 5 ?_
         refine sxb 108 rfl (fun h108 p108 => ?_) (fun h108 p108 => ?_)
         ·refine go 3 ?_
          obtain ⟨b112, o112, w112, e112, c112, r112⟩ := RdA.at_ hAY (i := i) hlt
          obtain rfl := r112
          refine o_cons (o_yes rfl rfl h108 (o_val rfl (v_idx he rfl rfl e112 (i) (by omega) hlt) ?_))
          refine o_cons (o_yes rfl rfl h108 (o_val rfl (v_ldI he rfl (c112 0 _ rfl)) ?_))
          refine go 1 ?_
          refine o_yes rfl rfl h108 (o_callV (law19in _ _ _ hw103 Y.1[i]) rfl rfl ?_)
          refine go 11 ?_
          exact q_next3 (k + 1) (_) (decide (Y.1[i] ∈ U.1)) ⟨by omega, hM.trans j103, fun h => ⟨(hb hbf).1, up_next hkl (hb hbf).2 fun hu => of_decide_eq_false h (hU ▸ hu.2.2)⟩⟩ (by omega) rfl sb rfl
         ·refine go 17 ?_
          exact q_next3 (k + 1) (_) (false) ⟨by omega, hM.trans j103, fun h => ⟨(hb hbf).1, up_next hkl (hb hbf).2 fun hu => of_decide_eq_false h108 (hU ▸ hu.2.1)⟩⟩ (by omega) rfl sb rfl
        ·refine go 9 ?_
         exact q_next3 (k + 1) (_) (b) ⟨by omega, hM, fun h => ⟨(hb h).1, up_next hkl (hb h).2 fun hu => hu.1 (by simpa using p93)⟩⟩ (by omega) rfl sb rfl
       ·refine go 11 ?_
        refine cb rfl (fun h117 p117 => ?_) (fun h117 p117 => ?_)
        ·refine go 11 ?_
         refine fin1 rfl rfl ?_
         exact absurd h117 (by rw [h85]; decide)
        ·refine go 9 ?_
         exact q_next2 (i + 1) (_) ⟨by omega, hJ2.trans hM⟩ (by omega) rfl sb rfl
      ·refine go 5 ?_
       refine c_false rfl ?_
       refine go 11 ?_
       refine cb rfl (fun h117 p117 => ?_) (fun h117 p117 => ?_)
       ·refine go 11 ?_
        refine fin1 rfl rfl ?_
        exact (roots_done hR hX hY h0 hlt (hb (by simpa using h117)).1 fun j hj => (hb (by simpa using h117)).2 j hj (by omega)).elim
       ·refine go 9 ?_
        exact q_next2 (i + 1) (_) ⟨by omega, hJ2.trans hM⟩ (by omega) rfl sb rfl
     ·refine go 12 ?_
      refine fin1 rfl rfl ?_
      exact q_vI rfl

end Go.Proofs.YtdapmfkbpnjkmaaGreat

/- The law PlaceRoots holds of the given program, for every input. No condition. -/
namespace Go.Proofs.YtdapmfkbpnjkmaaGreat
open Go Go.Sx
set_option linter.all false
theorem T.cel_168 : Tryz.prog.cellsOf 168 = 3 := by kernel_rfl
theorem T.cel_170 : Tryz.prog.cellsOf 170 = 3 := by kernel_rfl
theorem T.cel_24 : Tryz.prog.cellsOf 24 = 1 := by kernel_rfl
theorem T.cel_44 : Tryz.prog.cellsOf 44 = 2 := by kernel_rfl
theorem T.cel_64 : Tryz.prog.cellsOf 64 = 2 := by kernel_rfl
theorem T.cel_9 : Tryz.prog.cellsOf 9 = 1 := by kernel_rfl
theorem T.cel_94 : Tryz.prog.cellsOf 94 = 6 := by kernel_rfl
theorem T.cel_96 : Tryz.prog.cellsOf 96 = 14 := by kernel_rfl
instance T.fds_168 : Has (fieldsK Tryz.prog 168) [(9, 0, 1), (4, 1, 1), (166, 2, 1)] := ⟨by kernel_rfl⟩
instance T.fds_170 : Has (fieldsK Tryz.prog 170) [(9, 0, 1), (33, 1, 1), (3, 2, 1)] := ⟨by kernel_rfl⟩
instance T.fds_24 : Has (fieldsK Tryz.prog 24) [(22, 0, 1)] := ⟨by kernel_rfl⟩
instance T.fds_44 : Has (fieldsK Tryz.prog 44) [(3, 0, 1), (3, 1, 1)] := ⟨by kernel_rfl⟩
instance T.fds_64 : Has (fieldsK Tryz.prog 64) [(62, 0, 1), (4, 1, 1)] := ⟨by kernel_rfl⟩
instance T.fds_94 : Has (fieldsK Tryz.prog 94) [(44, 0, 2), (44, 2, 2), (44, 4, 2)] := ⟨by kernel_rfl⟩
instance T.fds_96 : Has (fieldsK Tryz.prog 96) [(3, 0, 1), (3, 1, 1), (9, 2, 1), (9, 3, 1), (9, 4, 1), (9, 5, 1), (9, 6, 1), (9, 7, 1), (94, 8, 6)] := ⟨by kernel_rfl⟩
namespace lawPlaceRoots
open Go.ChangeShapes Go.WideShapes Go.ChangeAt Go.RowKit Go.ChangeMaps Go.MapKept
theorem own : ownKnob Tryz.prog.godebug = none := by kernel_rfl
set_option maxRecDepth 100000 in
theorem lifted (os : Os) (started : os.Started) (H : Type) (enc : TypeId × Value → H) :
    ReturnsInHanded {} Tryz.checked os 6 .any (Rows.placeRootsSpec.pre6 enc Tryz.prog Tryz.f6 Rows.placeRootsRow.domain false) (Rows.placeRootsSpec.post enc Tryz.prog Tryz.f6 false true false false) := by
  refine returnsInHanded_of_change (C := Tryz.checked) own started (by kernel_rfl) Tryz.func6
    (ChangeSpec.witness6 (enc := enc) (C := Tryz.checked) false ⟨#[], #[.agg #[.slice none 0 0], .slice none 0 0, .string ⟨#[]⟩, .int .i64 0], []⟩ 8 (by kernel_rfl) (by kernel_rfl) (by kernel_rfl) (by kernel_rfl)) ?_
  intro W base args ds gs before hval0 hW hcnd _
  have hval : ∀ (j : Nat) t v, Tryz.f6.params[j]? = some t → args[j]? = some v → Value.okWide Tryz.prog W .any base t v := hval0
  have hW' := hW
  obtain ⟨p, q, hA0, hV, rfl, hfz, hnd⟩ := hW
  have hA : DataW.TrodAll enc Tryz.prog W 0 (fun _ => true) true Tryz.f6.params.toList args.toList ds p := hA0
  rw [Tryz.params6] at hA hval
  obtain ⟨v0, vs0, d0, ds0, p0, q0, hargs, rfl, rfl, h0, r0⟩ := trodAll_cons hA
  obtain ⟨v1, vs1, d1, ds1, p1, q1, rfl, rfl, rfl, h1, r1⟩ := trodAll_cons r0
  obtain ⟨v2, vs2, d2, ds2, p2, q2, rfl, rfl, rfl, h2, r2⟩ := trodAll_cons r1
  obtain ⟨v3, vs3, d3, ds3, p3, q3, rfl, rfl, rfl, h3, r3⟩ := trodAll_cons r2
  obtain ⟨rfl, rfl, rfl⟩ := trodAll_nil r3
  obtain rfl : args = #[v0, v1, v2, v3] := by cases args; simp_all
  obtain ⟨rfl, rfl⟩ := trodVars_none hV
  clear hA0 hval0
  obtain ⟨cs0, rfl, hz0⟩ := okWide_agg T.fds_24.eq (hval 0 24 v0 rfl rfl)
  obtain ⟨fu0, hf0⟩ := h0
  obtain ⟨l0, ⟨u0, e0, R0⟩, G0⟩ := (opens_wrap T.fds_24.eq T.cel_24 (opens_slice T.und_22.eq T.cel_168 rfl (opens_kind T.fds_168.eq T.cel_168 (opens_string T.und_9.eq) (opens_bool T.und_4.eq) (opens_slice T.und_166.eq T.cel_170 rfl (opens_slot T.fds_170.eq T.cel_170 (opens_string T.und_9.eq) (opens_slice T.und_33.eq T.cel_9 rfl (opens_string T.und_9.eq)) (opens_int T.und_3.eq)))))) enc W 0 _ true fu0 _ _ hf0
  obtain rfl : cs0 = #[u0] := Array.toList_inj.1 e0
  obtain ⟨s1, n1, c1, rfl⟩ := okWide_slice T.und_25.eq (hval 1 25 v1 rfl rfl)
  obtain ⟨fu1, hf1⟩ := h1
  obtain ⟨l1, ⟨u1, e1, R1⟩, G1⟩ := (opens_slice T.und_25.eq T.cel_64 rfl (opens_rep T.fds_64.eq T.cel_64 (opens_slice T.und_62.eq T.cel_96 rfl (opens_evt T.fds_96.eq T.cel_96 (opens_int T.und_3.eq) (opens_string T.und_9.eq) (opens_use T.fds_94.eq T.cel_94 (opens_ivl T.fds_44.eq T.cel_44 (opens_int T.und_3.eq))))) (opens_bool T.und_4.eq))) enc W 0 _ true fu1 _ _ hf1
  cases e1
  obtain ⟨a2, rfl, rfl, rfl, w2⟩ := open_string T.und_9.eq (hval 2 9 v2 rfl rfl) h2
  obtain ⟨a3, rfl, rfl, rfl, w3⟩ := open_int T.und_3.eq (hval 3 3 v3 rfl rfl) h3
  exact law_calls (s := Rows.placeRootsSpec) Tryz.call6 (lawPlRoots (Iw W) _ l0 R0 G0 _ l1 R1 G1 a2 w2 a3 w3) hW' (by kernel_rfl) (by kernel_rfl) rfl T.und_4.eq rfl rfl
end lawPlaceRoots

end Go.Proofs.YtdapmfkbpnjkmaaGreat

