/- The law PlaceEvidence holds of the given program, for every input. No condition. -/
import Derived.Test.YtdapmfkbpnjkmaaGreatZPlf
import Derived.ChangeMaps5
import Derived.OpenShut
import Derived.ProofKit
import Derived.Test.YtdapmfkbpnjkmaaGreatRows
/- Walks, printed by a program out of the code of the functions: each theorem is a contract of one function. -/
namespace Go.Proofs.YtdapmfkbpnjkmaaGreat
open Go Go.Sx
set_option linter.all false
set_option maxRecDepth 20000
set_option maxHeartbeats 4000000
theorem lawPlEvidence (I : IMap) (vc : Value) (c : List Kind) (hvc : RdS I vc c) (hoc : ∀ x ∈ c, OkKd x) (v : Value) (l : List Rep) (hv : RdS I v l) (hok : ∀ x ∈ l, OkRp x) (a0 : Int) (wa0 : (Lit.int .u8 a0).wf = true) (b0 : Int) (wb0 : (Lit.int .u8 b0).wf = true) (p : ByteArray) (wp : p.size ≤ maxLen) (day : Int) (wd : (Lit.int .i64 day).wf = true) :
    FnV Tryz.prog 13 #[.agg #[vc], v, .int .u8 a0, .int .u8 b0, .string p, .int .i64 (day)] I (.bool true) := by
 obtain ⟨a, rfl, ha⟩ := u8_nat wa0
 obtain ⟨b, rfl, hb⟩ := u8_nat wb0
 have hv0 := hv
 obtain ⟨A, c0, rfl, hA, hc, hm⟩ := hv0
 refine enter Tryz.func13 Tryz.call13 rfl Tryz.ntmps13 rfl (fun w0 => ?_)
 refine go 3 ?_
 refine o_box _ rfl rfl rfl (fun g6 => ?_)
 refine go 6 ?_
 refine o_callV (head19 _) rfl rfl ?_
 refine go 5 ?_
 refine c_cutx (α := IMap) (Ix := (fun J => J)) (Lx := (fun J => [(1, .slice A l.length c0), (2, .int .u8 (a : Int)), (3, .int .u8 (b : Int)), (4, .string p), (5, .int .i64 (day)), (6, .pointer (some ⟨g6, 0, none⟩)), (13, .bool true), (44, .bool ((!few19 c l || !shortF [p]) || decide (((l.length : Nat) : Int) = 0)))])) (Hx := (fun J => [.blk g6 24 [vc]])) (p := (fun J => ILe I J)) ?_ ?_
 ·refine go 4 ?_
  refine o_callV (law19few _ vc c hvc _ l hv) rfl rfl ?_
  refine go 2 ?_
  refine sxb 34 rfl (fun h34 p34 => ?_) (fun h34 p34 => ?_)
  ·refine go 12 ?_
   exact q_cutx I (ILe.refl _) ⟨rfl, rfl, rfl, rfl, rfl, rfl, rfl, (congrArg (fun b => some (Value.bool b)) (by simp only [h34, bS])), trivial⟩ rfl rfl
  ·refine go 2 ?_
   refine o_yes rfl rfl h34 (o_buildSlice he he rfl rfl rfl rfl rfl rfl rfl (fun v36 => ?_))
   refine sx_pubrow (l := [p]) rfl rfl ((.one rfl)) (fun I36 j36 R36 => ?_)
   have hvc := hvc.le j36
   have hv := hv.le j36
   have hA := hA.le j36
   refine go 1 ?_
   refine o_yes rfl rfl h34 (o_callV (law19short _ _ [p] R36 (by simp)) rfl rfl ?_)
   refine go 3 ?_
   refine sxb 40 rfl (fun h40 p40 => ?_) (fun h40 p40 => ?_)
   ·refine go 6 ?_
    exact q_cutx I36 j36 ⟨rfl, rfl, rfl, rfl, rfl, rfl, rfl, (congrArg (fun b => some (Value.bool b)) (by simp only [h34, h40, bS])), trivial⟩ rfl rfl
   ·refine go 6 ?_
    exact q_cutx I36 j36 ⟨rfl, rfl, rfl, rfl, rfl, rfl, rfl, (congrArg (fun b => some (Value.bool b)) (by simp only [h34, h40, bS])), trivial⟩ rfl rfl
 ·intro J hJ
  have hvc := hvc.le hJ
  have hv := hv.le hJ
  have hA := hA.le hJ
  refine cb rfl (fun h44 p44 => ?_) (fun h44 p44 => ?_)
  ·refine go 8 ?_
   refine fin1 rfl rfl ?_
   exact q_vI rfl
  ·simp only [Bool.or_eq_false_iff, Bool.not_eq_false', decide_eq_false_iff_not] at h44
   obtain ⟨hsc, hl12, hsl, _⟩ := few19_sm h44.1.1
   have hl : l.length ≤ 1000000 := by omega
   obtain ⟨R, hR⟩ := roots_ex l
   have hl0 : 0 < l.length := by omega
   obtain ⟨k, hkk⟩ : ∃ k, a % l.length = k := ⟨_, rfl⟩
   have hk : k < l.length := by rw [← hkk]; exact Nat.mod_lt _ hl0
   refine go 5 ?_
   refine o_v rfl (v_conv he he rfl (m := ((a : Nat) : Int)) (by rw [IntKind.wrap_i64]; omega)) ?_
   refine go 2 ?_
   refine o_v rfl (OV.cast (u := .int .i64 ((k : Nat) : Int)) (v_rem rfl rfl (by omega) (by omega)) (by rw [hkk])) ?_
   refine go 8 ?_
   obtain ⟨b53, o53, w53, e53, c53, r53⟩ := RdA.at_ hA (i := k) (by omega)
   obtain ⟨q53, rfl, S53, d53, rfl, hS53, hd53, hm53⟩ := r53
   refine o_v rfl (v_idx he rfl rfl e53 (k) (by omega) (by omega)) ?_
   refine go 1 ?_
   refine o_v rfl (v_ldI he rfl (c53 0 _ rfl)) ?_
   refine go 4 ?_
   refine cb rfl (fun h57 p57 => ?_) (fun h57 p57 => ?_)
   ·refine go 8 ?_
    refine fin1 rfl rfl ?_
    exact q_vI rfl
   ·have hol : 0 < l[k].options.length := by omega
    obtain ⟨j, hjj⟩ : ∃ j, b % l[k].options.length = j := ⟨_, rfl⟩
    have hj : j < l[k].options.length := by rw [← hjj]; exact Nat.mod_lt _ hol
    obtain ⟨R2, hR2⟩ := roots_ex (l.set k (oneOf l[k] j))
    have hl2 : (l.set k (oneOf l[k] j)).length ≤ 1000000 := by simp; omega
    have hsl2 := set_sm (k := k) hsl (one_sm (hsl _ (List.getElem_mem hk)) hj)
    refine go 5 ?_
    refine o_v rfl (v_conv he he rfl (m := ((b : Nat) : Int)) (by rw [IntKind.wrap_i64]; omega)) ?_
    refine go 2 ?_
    obtain ⟨b63, o63, w63, e63, c63, r63⟩ := RdA.at_ hA (i := k) (by omega)
    obtain ⟨q63, rfl, S63, d63, rfl, hS63, hd63, hm63⟩ := r63
    refine o_v rfl (v_idx he rfl rfl e63 (k) (by omega) (by omega)) ?_
    refine go 1 ?_
    refine o_v rfl (v_ldI he rfl (c63 0 _ rfl)) ?_
    refine go 1 ?_
    refine o_v rfl (OV.cast (u := .int .i64 ((j : Nat) : Int)) (v_rem rfl rfl (by omega) (by omega)) (by rw [hjj])) ?_
    refine go 6 ?_
    refine o_buildSlice he he rfl rfl rfl rfl rfl rfl rfl (fun v68 => ?_)
    refine go 2 ?_
    refine o_appendR (hv) rfl he he rfl rfl rfl rfl (by omega) (by omega) rfl (fun v70 x70 f70 => ?_)
    refine go 9 ?_
    obtain ⟨b75, o75, w75, e75, c75, r75⟩ := RdA.at_ hA (i := k) (by omega)
    obtain ⟨q75, rfl, S75, d75, rfl, hS75, hd75, hm75⟩ := r75
    refine o_v rfl (v_idx he rfl rfl e75 (k) (by omega) (by omega)) ?_
    refine go 1 ?_
    refine o_v rfl (v_ldI he rfl (c75 0 _ rfl)) ?_
    refine go 3 ?_
    refine o_v rfl (v_slice_lohi he rfl rfl rfl j (j + 1) (by omega) (by omega) (by omega) (by omega)) ?_
    refine go 1 ?_
    refine o_val rfl (v_build (pl := [(0, 1), (1, 1)]) he he rfl rfl) ?_
    refine sx_rowF f70 rfl (Nat.zero_add _) (by omega) (fun g83 cap83 rest83 xss83 hv83 hC83 hR83 hc83 hl83 => ?_)
    subst hv83
    refine o_v rfl (v_idx he rfl rfl rfl (k) (by omega) (by omega)) ?_
    refine go 1 ?_
    refine o_stc _ (k) (Uk.append (show Uk 2 xss83 from hC83.uk) hR83) he rfl rfl rfl rfl rfl (by omega) (by rw [List.length_append, hC83.len]; omega) ?_
    refine sx_unrowF (l := l) (oneOf l[k] j) hC83 hR83 rfl (Nat.zero_add _) (by omega) hc83 hl83 ⟨_, rfl, opt_mid hj ▸ RdS.midM (l := l[k].options) ⟨_, _, rfl, hS75, hd75, hm75⟩ j (j + 1) (by omega) (by omega)⟩ (fun ws83 hF83 => ?_)
    refine sx_pubrow (l := (l.set k (oneOf l[k] j))) rfl (by simp) (hF83) (fun I83 j83 R83 => ?_)
    try have hvc := hvc.le j83
    try have hv := hv.le j83
    try have hA := hA.le j83
    try have R83 := R83.le j83
    try have hw89 := hw89.le j83
    try have hw97 := hw97.le j83
    try have hw105 := hw105.le j83
    try have hw113 := hw113.le j83
    try have hAX := hAX.le j83
    try have hAZ := hAZ.le j83
    try have hAY := hAY.le j83
    try have hAU := hAU.le j83
    refine go 9 ?_
    refine o_call (plOf _ vc c hvc hsc _ l hv hl hsl R hR p day) rfl rfl (fun v89 I89 j89 q89 => ?_)
    try have hvc := hvc.le j89
    try have hv := hv.le j89
    try have hA := hA.le j89
    try have R83 := R83.le j89
    try have hw89 := hw89.le j89
    try have hw97 := hw97.le j89
    try have hw105 := hw105.le j89
    try have hw113 := hw113.le j89
    try have hAX := hAX.le j89
    try have hAZ := hAZ.le j89
    try have hAY := hAY.le j89
    try have hAU := hAU.le j89
    obtain ⟨w89, rfl, hw89⟩ := q89
    obtain ⟨X, hX⟩ : ∃ q, q = (shwF plcLt (plcOf p) c l (ownF l R p) p day) := ⟨_, rfl⟩
    rw [← hX] at hw89 ⊢
    
    refine go 14 ?_
    refine o_call (plOf _ vc c hvc hsc _ (l.set k (oneOf l[k] j)) R83 hl2 hsl2 R2 hR2 p day) rfl rfl (fun v97 I97 j97 q97 => ?_)
    try have hvc := hvc.le j97
    try have hv := hv.le j97
    try have hA := hA.le j97
    try have R83 := R83.le j97
    try have hw89 := hw89.le j97
    try have hw97 := hw97.le j97
    try have hw105 := hw105.le j97
    try have hw113 := hw113.le j97
    try have hAX := hAX.le j97
    try have hAZ := hAZ.le j97
    try have hAY := hAY.le j97
    try have hAU := hAU.le j97
    obtain ⟨w97, rfl, hw97⟩ := q97
    obtain ⟨Z, hZ⟩ : ∃ q, q = shwF plcLt (plcOf p) c (l.set k (oneOf l[k] j)) (ownF (l.set k (oneOf l[k] j)) R2 p) p day := ⟨_, rfl⟩
    rw [← hZ] at hw97 ⊢
    
    refine go 14 ?_
    refine o_call (plRoots _ vc c hvc hsc _ l hv hl hsl R hR p day) rfl rfl (fun v105 I105 j105 q105 => ?_)
    try have hvc := hvc.le j105
    try have hv := hv.le j105
    try have hA := hA.le j105
    try have R83 := R83.le j105
    try have hw89 := hw89.le j105
    try have hw97 := hw97.le j105
    try have hw105 := hw105.le j105
    try have hw113 := hw113.le j105
    try have hAX := hAX.le j105
    try have hAZ := hAZ.le j105
    try have hAY := hAY.le j105
    try have hAU := hAU.le j105
    obtain ⟨w105, rfl, hw105⟩ := q105
    obtain ⟨Y, hY⟩ : ∃ q, q = (shwF sLt (rootF p) c l (ownF l R p) p day) := ⟨_, rfl⟩
    rw [← hY] at hw105 ⊢
    
    refine go 14 ?_
    refine o_call (plRoots _ vc c hvc hsc _ (l.set k (oneOf l[k] j)) R83 hl2 hsl2 R2 hR2 p day) rfl rfl (fun v113 I113 j113 q113 => ?_)
    try have hvc := hvc.le j113
    try have hv := hv.le j113
    try have hA := hA.le j113
    try have R83 := R83.le j113
    try have hw89 := hw89.le j113
    try have hw97 := hw97.le j113
    try have hw105 := hw105.le j113
    try have hw113 := hw113.le j113
    try have hAX := hAX.le j113
    try have hAZ := hAZ.le j113
    try have hAY := hAY.le j113
    try have hAU := hAU.le j113
    obtain ⟨w113, rfl, hw113⟩ := q113
    obtain ⟨U, hU⟩ : ∃ q, q = shwF sLt (rootF p) c (l.set k (oneOf l[k] j)) (ownF (l.set k (oneOf l[k] j)) R2 p) p day := ⟨_, rfl⟩
    rw [← hU] at hw113 ⊢
    
    refine go 12 ?_
    refine o_call (seFirst _ vc c hvc hsc _ (l.set k (oneOf l[k] j)) R83 hl2 hsl2) rfl rfl (fun v119 I119 j119 q119 => ?_)
    try have hvc := hvc.le j119
    try have hv := hv.le j119
    try have hA := hA.le j119
    try have R83 := R83.le j119
    try have hw89 := hw89.le j119
    try have hw97 := hw97.le j119
    try have hw105 := hw105.le j119
    try have hw113 := hw113.le j119
    try have hAX := hAX.le j119
    try have hAZ := hAZ.le j119
    try have hAY := hAY.le j119
    try have hAU := hAU.le j119
    obtain ⟨w119, rfl, hw119⟩ := q119
    refine go 13 ?_
    refine sxb 124 rfl (fun h124 p124 => ?_) (fun h124 p124 => ?_)
    ·refine go 17 ?_
     refine c_true rfl ?_
     refine go 8 ?_
     refine fin1 rfl rfl ?_
     exact q_vI rfl
    ·refine go 4 ?_
     refine sxb 128 rfl (fun h128 p128 => ?_) (fun h128 p128 => ?_)
     ·refine go 13 ?_
      refine c_true rfl ?_
      refine go 8 ?_
      refine fin1 rfl rfl ?_
      exact q_vI rfl
     ·refine go 4 ?_
      refine sxb 132 rfl (fun h132 p132 => ?_) (fun h132 p132 => ?_)
      ·refine go 9 ?_
       refine c_true rfl ?_
       refine go 8 ?_
       refine fin1 rfl rfl ?_
       exact q_vI rfl
      ·refine go 4 ?_
       refine sxb 136 rfl (fun h136 p136 => ?_) (fun h136 p136 => ?_)
       ·refine go 5 ?_
        refine c_true rfl ?_
        refine go 8 ?_
        refine fin1 rfl rfl ?_
        exact q_vI rfl
       ·refine go 5 ?_
        refine cb rfl (fun h139 p139 => ?_) (fun h139 p139 => ?_)
        ·refine go 8 ?_
         refine fin1 rfl rfl ?_
         exact q_vI rfl
        ·have hz1 : X.2 = 0 := by simpa using h124
         have hz2 : Y.2 = 0 := by simpa using h128
         have hz3 : Z.2 = 0 := by simpa using h132
         have hz4 : U.2 = 0 := by simpa using h136
         have hz5 : (firstF c (l.set k (oneOf l[k] j))).2 = 0 := by simpa using h139
         have hw89s := hw89
         obtain ⟨AX, cX, rfl, hAX, _, hmX⟩ := hw89s
         have hw97s := hw97
         obtain ⟨AZ, cZ, rfl, hAZ, _, hmZ⟩ := hw97s
         have hw105s := hw105
         obtain ⟨AY, cY, rfl, hAY, _, hmY⟩ := hw105s
         have hw113s := hw113
         obtain ⟨AU, cU, rfl, hAU, _, hmU⟩ := hw113s
         refine go 9 ?_
         refine c_loop (α := Nat) 0 (fun i => I119)
          (fun i => [(1, .slice A l.length c0), (6, .pointer (some ⟨g6, 0, none⟩)), (13, .bool true), (17, .slice AX X.1.length cX), (19, .slice AZ Z.1.length cZ), (21, .slice AY Y.1.length cY), (23, .slice AU U.1.length cU), (27, .int .i64 ((i : Nat) : Int))])
          (fun i => [.blk g6 24 [vc]])
          (fun i => i ≤ Z.1.length)
          (fun i => Z.1.length - i) (Nat.zero_le _) rfl sb rfl ?_
         intro i hi
         refine go 9 ?_
         refine cb rfl (fun h144 p144 => ?_) (fun h144 p144 => ?_)
         ·have hlt : i < Z.1.length := by omega
          refine go 9 ?_
          obtain ⟨b150, o150, w150, e150, c150, r150⟩ := RdA.at_ hAZ (i := i) hlt
          obtain rfl := r150
          refine o_v rfl (v_idx he rfl rfl e150 (i) (by omega) hlt) ?_
          refine o_v rfl (v_ldIa he rfl c150 rfl) ?_
          refine go 1 ?_
          refine o_callV (law19at_t _ _ _ hw89 _ (ev_place hR (by omega) hk hj hR2 hX hZ hz1 hz3 hz5 hlt)) rfl rfl ?_
          refine go 3 ?_
          refine c_false rfl ?_
          refine go 9 ?_
          exact q_next (i + 1) (by omega) (by omega) rfl sb rfl
         ·refine go 12 ?_
          refine c_loop (α := Nat) 0 (fun i => I119)
           (fun i => [(1, .slice A l.length c0), (6, .pointer (some ⟨g6, 0, none⟩)), (13, .bool true), (17, .slice AX X.1.length cX), (19, .slice AZ Z.1.length cZ), (21, .slice AY Y.1.length cY), (23, .slice AU U.1.length cU), (28, .int .i64 ((i : Nat) : Int))])
           (fun i => [.blk g6 24 [vc]])
           (fun i => i ≤ U.1.length)
           (fun i => U.1.length - i) (Nat.zero_le _) rfl sb rfl ?_
          intro i hi
          refine go 9 ?_
          refine cb rfl (fun h157 p157 => ?_) (fun h157 p157 => ?_)
          ·have hlt : i < U.1.length := by omega
           refine go 9 ?_
           obtain ⟨b163, o163, w163, e163, c163, r163⟩ := RdA.at_ hAU (i := i) hlt
           obtain rfl := r163
           refine o_v rfl (v_idx he rfl rfl e163 (i) (by omega) hlt) ?_
           refine o_v rfl (v_ldI he rfl (c163 0 _ rfl)) ?_
           refine go 1 ?_
           refine o_callV (law19in_t _ _ _ hw105 _ (ev_root hR (by omega) hk hj hR2 hY hU hz2 hz4 hz5 hlt)) rfl rfl ?_
           refine go 3 ?_
           refine c_false rfl ?_
           refine go 9 ?_
           exact q_next (i + 1) (by omega) (by omega) rfl sb rfl
          ·refine go 12 ?_
           refine fin1 rfl rfl ?_
           exact q_vI rfl

end Go.Proofs.YtdapmfkbpnjkmaaGreat

/- The law PlaceEvidence holds of the given program, for every input. No condition. -/
namespace Go.Proofs.YtdapmfkbpnjkmaaGreat
open Go Go.Sx
set_option linter.all false
theorem T.cel_168 : Tryz.prog.cellsOf 168 = 3 := by kernel_rfl
theorem T.cel_170 : Tryz.prog.cellsOf 170 = 3 := by kernel_rfl
theorem T.cel_24 : Tryz.prog.cellsOf 24 = 1 := by kernel_rfl
theorem T.cel_44 : Tryz.prog.cellsOf 44 = 2 := by kernel_rfl
theorem T.cel_64 : Tryz.prog.cellsOf 64 = 2 := by kernel_rfl
theorem T.cel_9 : Tryz.prog.cellsOf 9 = 1 := by kernel_rfl
theorem T.cel_94 : Tryz.prog.cellsOf 94 = 6 := by kernel_rfl
theorem T.cel_96 : Tryz.prog.cellsOf 96 = 14 := by kernel_rfl
instance T.fds_168 : Has (fieldsK Tryz.prog 168) [(9, 0, 1), (4, 1, 1), (166, 2, 1)] := ⟨by kernel_rfl⟩
instance T.fds_170 : Has (fieldsK Tryz.prog 170) [(9, 0, 1), (33, 1, 1), (3, 2, 1)] := ⟨by kernel_rfl⟩
instance T.fds_24 : Has (fieldsK Tryz.prog 24) [(22, 0, 1)] := ⟨by kernel_rfl⟩
instance T.fds_44 : Has (fieldsK Tryz.prog 44) [(3, 0, 1), (3, 1, 1)] := ⟨by kernel_rfl⟩
instance T.fds_64 : Has (fieldsK Tryz.prog 64) [(62, 0, 1), (4, 1, 1)] := ⟨by kernel_rfl⟩
instance T.fds_94 : Has (fieldsK Tryz.prog 94) [(44, 0, 2), (44, 2, 2), (44, 4, 2)] := ⟨by kernel_rfl⟩
instance T.fds_96 : Has (fieldsK Tryz.prog 96) [(3, 0, 1), (3, 1, 1), (9, 2, 1), (9, 3, 1), (9, 4, 1), (9, 5, 1), (9, 6, 1), (9, 7, 1), (94, 8, 6)] := ⟨by kernel_rfl⟩
namespace lawPlaceEvidence
open Go.ChangeShapes Go.WideShapes Go.ChangeAt Go.RowKit Go.ChangeMaps Go.MapKept
theorem own : ownKnob Tryz.prog.godebug = none := by kernel_rfl
set_option maxRecDepth 100000 in
theorem lifted (os : Os) (started : os.Started) (H : Type) (enc : TypeId × Value → H) :
    ReturnsInHanded {} Tryz.checked os 13 .any (Rows.placeEvidenceSpec.pre6 enc Tryz.prog Tryz.f13 Rows.placeEvidenceRow.domain false) (Rows.placeEvidenceSpec.post enc Tryz.prog Tryz.f13 false true false false) := by
  refine returnsInHanded_of_change (C := Tryz.checked) own started (by kernel_rfl) Tryz.func13
    (ChangeSpec.witness6 (enc := enc) (C := Tryz.checked) false ⟨#[], #[.agg #[.slice none 0 0], .slice none 0 0, .int .u8 0, .int .u8 0, .string ⟨#[]⟩, .int .i64 0], []⟩ 8 (by kernel_rfl) (by kernel_rfl) (by kernel_rfl) (by kernel_rfl)) ?_
  intro W base args ds gs before hval0 hW hcnd _
  have hval : ∀ (j : Nat) t v, Tryz.f13.params[j]? = some t → args[j]? = some v → Value.okWide Tryz.prog W .any base t v := hval0
  have hW' := hW
  obtain ⟨p, q, hA0, hV, rfl, hfz, hnd⟩ := hW
  have hA : DataW.TrodAll enc Tryz.prog W 0 (fun _ => true) true Tryz.f13.params.toList args.toList ds p := hA0
  rw [Tryz.params13] at hA hval
  obtain ⟨v0, vs0, d0, ds0, p0, q0, hargs, rfl, rfl, h0, r0⟩ := trodAll_cons hA
  obtain ⟨v1, vs1, d1, ds1, p1, q1, rfl, rfl, rfl, h1, r1⟩ := trodAll_cons r0
  obtain ⟨v2, vs2, d2, ds2, p2, q2, rfl, rfl, rfl, h2, r2⟩ := trodAll_cons r1
  obtain ⟨v3, vs3, d3, ds3, p3, q3, rfl, rfl, rfl, h3, r3⟩ := trodAll_cons r2
  obtain ⟨v4, vs4, d4, ds4, p4, q4, rfl, rfl, rfl, h4, r4⟩ := trodAll_cons r3
  obtain ⟨v5, vs5, d5, ds5, p5, q5, rfl, rfl, rfl, h5, r5⟩ := trodAll_cons r4
  obtain ⟨rfl, rfl, rfl⟩ := trodAll_nil r5
  obtain rfl : args = #[v0, v1, v2, v3, v4, v5] := by cases args; simp_all
  obtain ⟨rfl, rfl⟩ := trodVars_none hV
  clear hA0 hval0
  obtain ⟨cs0, rfl, hz0⟩ := okWide_agg T.fds_24.eq (hval 0 24 v0 rfl rfl)
  obtain ⟨fu0, hf0⟩ := h0
  obtain ⟨l0, ⟨u0, e0, R0⟩, G0⟩ := (opens_wrap T.fds_24.eq T.cel_24 (opens_slice T.und_22.eq T.cel_168 rfl (opens_kind T.fds_168.eq T.cel_168 (opens_string T.und_9.eq) (opens_bool T.und_4.eq) (opens_slice T.und_166.eq T.cel_170 rfl (opens_slot T.fds_170.eq T.cel_170 (opens_string T.und_9.eq) (opens_slice T.und_33.eq T.cel_9 rfl (opens_string T.und_9.eq)) (opens_int T.und_3.eq)))))) enc W 0 _ true fu0 _ _ hf0
  obtain rfl : cs0 = #[u0] := Array.toList_inj.1 e0
  obtain ⟨s1, n1, c1, rfl⟩ := okWide_slice T.und_25.eq (hval 1 25 v1 rfl rfl)
  obtain ⟨fu1, hf1⟩ := h1
  obtain ⟨l1, ⟨u1, e1, R1⟩, G1⟩ := (opens_slice T.und_25.eq T.cel_64 rfl (opens_rep T.fds_64.eq T.cel_64 (opens_slice T.und_62.eq T.cel_96 rfl (opens_evt T.fds_96.eq T.cel_96 (opens_int T.und_3.eq) (opens_string T.und_9.eq) (opens_use T.fds_94.eq T.cel_94 (opens_ivl T.fds_44.eq T.cel_44 (opens_int T.und_3.eq))))) (opens_bool T.und_4.eq))) enc W 0 _ true fu1 _ _ hf1
  cases e1
  obtain ⟨a2, rfl, rfl, rfl, w2⟩ := open_int T.und_5.eq (hval 2 5 v2 rfl rfl) h2
  obtain ⟨a3, rfl, rfl, rfl, w3⟩ := open_int T.und_5.eq (hval 3 5 v3 rfl rfl) h3
  obtain ⟨a4, rfl, rfl, rfl, w4⟩ := open_string T.und_9.eq (hval 4 9 v4 rfl rfl) h4
  obtain ⟨a5, rfl, rfl, rfl, w5⟩ := open_int T.und_3.eq (hval 5 3 v5 rfl rfl) h5
  exact law_calls (s := Rows.placeEvidenceSpec) Tryz.call13 (lawPlEvidence (Iw W) _ l0 R0 G0 _ l1 R1 G1 a2 w2 a3 w3 a4 w4 a5 w5) hW' (by kernel_rfl) (by kernel_rfl) rfl T.und_4.eq rfl rfl
end lawPlaceEvidence

end Go.Proofs.YtdapmfkbpnjkmaaGreat

