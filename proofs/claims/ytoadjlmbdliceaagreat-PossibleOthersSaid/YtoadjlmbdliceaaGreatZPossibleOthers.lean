/- The law PossibleOthers holds of the given program, for every input. No condition. -/
import Derived.Test.YtoadjlmbdliceaaGreatZPe
import Derived.OpenShut
import Derived.ProofKit
import Derived.Test.YtoadjlmbdliceaaGreatRows
/- Walks, printed by a program out of the code of the functions: each theorem is a contract of one function. -/
namespace Go.Proofs.YtoadjlmbdliceaaGreat
open Go Go.Sx
set_option linter.all false
set_option maxRecDepth 20000
set_option maxHeartbeats 4000000
instance T.und_42 : Has (Tryz.prog.underlying 42) (.int .u16) := ⟨by kernel_rfl⟩
theorem lawPOthers (I : IMap) (vc : Value) (c : List Kind) (hvc : RdS I vc c) (hoc : ∀ x ∈ c, OkKd x) (v : Value) (l : List Rep) (hv : RdS I v l) (hok : ∀ x ∈ l, OkRp x)  :
    FnV Tryz.prog 12 #[.agg #[vc], v] I (.bool true) := by
 obtain ⟨R, hRt⟩ := roots_ex l
 have hv0 := hv
 obtain ⟨A, c0, rfl, hA, hc, hm⟩ := hv
 refine enter Tryz.func12 Tryz.call12 rfl Tryz.ntmps12 rfl (fun w0 => ?_)
 refine go 3 ?_
 refine o_box _ rfl rfl rfl (fun g2 => ?_)
 refine go 6 ?_
 refine o_callV (head17 _) rfl rfl ?_
 refine go 9 ?_
 refine o_callV (law17few _ vc c hvc _ l hv0) rfl rfl ?_
 refine go 3 ?_
 refine cb rfl (fun h18 p18 => ?_) (fun h18 p18 => ?_)
 ·refine go 8 ?_
  refine fin1 rfl rfl ?_
  exact q_vI rfl
 ·have hf : fewC c = true ∧ few17 l 25 = true := by simpa using h18
  obtain ⟨hf2, hwn⟩ := few17_sm hf.2
  obtain ⟨hsl, hl⟩ := fewR_sm hf2
  have hsc := fewC_sm hf.1
  have hl6 : l.length ≤ 1000000 := by omega
  have h30 : l.length ≤ 30 := by omega
  have hwl : waysN l < 4096 := by omega
  refine go 7 ?_
  refine o_call (possChoices _ vc c hvc hsc _ l hv0 hl6 hsl h30 hwl) rfl rfl (fun v23 I23 j23 q23 => ?_)
  try have hvc := hvc.le j23
  try have hv0 := hv0.le j23
  try have hA := hA.le j23
  try have hw23 := hw23.le j23
  try have hw29 := hw29.le j23
  try have hw35 := hw35.le j23
  try have hw41 := hw41.le j23
  try have hTA := hTA.le j23
  try have hSA := hSA.le j23
  try have hw0 := hw0.le j23
  try have hCA := hCA.le j23
  obtain ⟨w23, rfl, hw23⟩ := q23
  have hTS := hw23
  obtain ⟨TA, tc, rfl, hTA, _, _⟩ := hw23
  refine go 13 ?_
  refine sxb 28 rfl (fun h28 p28 => ?_) (fun h28 p28 => ?_)
  ·refine go 8 ?_
   refine c_true rfl ?_
   refine go 5 ?_
   refine o_cons (o_yes rfl rfl rfl (o_val rfl (OV.cast (u := .bool true) (v_neq rfl rfl) (congrArg Value.bool h28)) ?_))
   refine go 6 ?_
   refine fin1 rfl rfl ?_
   exact q_vI rfl
  ·have h0 : (choF c l).2 = 0 := by simpa using h28
   have hTl := cho_len h0
   obtain ⟨hC, hP, hn, _⟩ := cho_zero h0
   refine go 4 ?_
   refine o_cons (o_yes rfl rfl h28 (o_val rfl (OV.cast (u := .bool false) (v_neq rfl rfl) (congrArg Value.bool (by simp [hTl]))) ?_))
   refine go 3 ?_
   refine c_false rfl ?_
   refine go 6 ?_
   refine o_call (linkComps _ _ l hv0 hl6 hsl R hRt) rfl rfl (fun v41 I41 j41 q41 => ?_)
   try have hvc := hvc.le j41
   try have hv0 := hv0.le j41
   try have hA := hA.le j41
   try have hw23 := hw23.le j41
   try have hw29 := hw29.le j41
   try have hw35 := hw35.le j41
   try have hw41 := hw41.le j41
   try have hTA := hTA.le j41
   try have hSA := hSA.le j41
   try have hw0 := hw0.le j41
   try have hCA := hCA.le j41
   have q41s := q41
   obtain ⟨CA, cc, rfl, hCA, _, _⟩ := q41s
   have hcl0 : ((compsN R l.length).map nI).length = (rootsN R l.length).length := by simp [compsN]
   refine go 10 ?_
   refine c_loop2 ((0 : Nat)) (I41) (fun j J => J)
    (fun j J => [(1, .slice A l.length c0), (2, .pointer (some ⟨g2, 0, none⟩)), (5, .bool true), (6, .slice TA (choF c l).1.length tc), (8, .slice CA ((compsN R l.length).map nI).length cc), (9, .int .i64 ((j : Nat) : Int))])
    (fun j J => [.blk g2 24 [vc]])
    (fun j J => j ≤ (rootsN R l.length).length ∧ ILe I41 J)
    (fun j J => (rootsN R l.length).length - j) ⟨Nat.zero_le _, ILe.refl _⟩ rfl sb rfl ?_
   intro j J ⟨hj, hJ⟩
   have hvc := hvc.le hJ
   have hv0 := hv0.le hJ
   have hTA := hTA.le hJ
   have hCA := hCA.le hJ
   refine go 5 ?_
   refine o_v rfl (OV.cast (u := .int .i64 (((rootsN R l.length).length : Nat) : Int)) (v_len_slice he rfl) (congrArg (Value.int .i64) (by rw [hcl0]))) ?_
   refine go 3 ?_
   refine cb rfl (fun h45 p45 => ?_) (fun h45 p45 => ?_)
   ·have hlt : j < (rootsN R l.length).length := by omega
    obtain ⟨hp2, hp1⟩ := cho_pick hRt h30 h0 (List.getElem_mem hlt)
    have hpl : (pickN l (membN R l.length (rootsN R l.length)[j])).length = (membN R l.length (rootsN R l.length)[j]).length := pickN_len fun i hi => memb_lt hi
    have hml := memb_le (R := R) (n := l.length) (r := (rootsN R l.length)[j])
    have hpw := ways_sub (pick_sub (l := l) (R := R) 0 (rootsN R l.length)[j]) hP
    refine go 5 ?_
    refine sx_knowI (fun hE11 hf11 => ?_)
    refine d_startH T.mixed ?_
    refine d_tv 0 rfl rfl (by kernel_rfl) rfl (.refl _) rfl (v_ldw m0 he rfl rfl) ?_
    refine d_tv 1 rfl rfl (by kernel_rfl) rfl (.refl _) rfl (v_move rfl) ?_
    refine d_tv 2 rfl rfl (by kernel_rfl) rfl (.refl _) rfl (v_move rfl) ?_
    refine d_tv 3 rfl rfl (by kernel_rfl) rfl (.refl _) rfl (v_move rfl) ?_
    obtain ⟨b53, o53, w53, e53, c53, r53⟩ := RdA.at_ hCA (i := j) (by omega)
    rw [comp_at hlt] at r53
    obtain ⟨q53, rfl, S53, d53, rfl, hS53, hd53, hm53⟩ := r53
    refine d_tv 4 rfl rfl (by kernel_rfl) rfl (.refl _) rfl (v_idx he rfl rfl e53 (j) (by omega) (by omega)) ?_
    refine d_tv 5 rfl rfl (by kernel_rfl) rfl (.refl _) rfl (OV.cast (u := .slice S53 (membN R l.length (rootsN R l.length)[j]).length d53) (v_ldI he rfl (c53 0 _ rfl)) (by rw [nI_len])) ?_
    refine d_one 6 (by kernel_rfl) rfl ?_
    refine o_call (ref14Picked _ _ l hv0 _ (membN R l.length (rootsN R l.length)[j]) ⟨S53, d53, by rw [nI_len], hS53, hd53, hm53⟩ (fun i hi => memb_lt hi) (by omega)) rfl rfl (fun v55 I55 j55 q55 => ?_)
    try have hvc := hvc.le j55
    try have hv0 := hv0.le j55
    try have hA := hA.le j55
    try have hw23 := hw23.le j55
    try have hw29 := hw29.le j55
    try have hw35 := hw35.le j55
    try have hw41 := hw41.le j55
    try have hTA := hTA.le j55
    try have hSA := hSA.le j55
    try have hw0 := hw0.le j55
    try have hCA := hCA.le j55
    refine d_on (fun _ m => m.keepsI (.refl _) (j55) hE11 hf11) ?_
    refine d_one 7 (by kernel_rfl) rfl ?_
    refine o_call (possChoices _ vc c hvc hsc _ (pickN l (membN R l.length (rootsN R l.length)[j])) q55 (by omega) (pick_sm hsl) (by omega) (by omega)) rfl rfl (fun v56 I56 j56 q56 => ?_)
    try have hvc := hvc.le j56
    try have hv0 := hv0.le j56
    try have hA := hA.le j56
    try have hw23 := hw23.le j56
    try have hw29 := hw29.le j56
    try have hw35 := hw35.le j56
    try have hw41 := hw41.le j56
    try have hTA := hTA.le j56
    try have hSA := hSA.le j56
    try have hw0 := hw0.le j56
    try have hCA := hCA.le j56
    obtain ⟨w56, rfl, hw56⟩ := q56
    rw [hp2]
    rw [hp1] at hw56
    refine d_on (fun _ m => m.keepsI (.refl _) ((j55).trans j56) hE11 hf11) ?_
    refine d_t 8 rfl rfl (by kernel_rfl) rfl (fun _ m => m.keepsI (.refl _) ((j55).trans j56) hE11 hf11) (y_v rfl (v_move rfl)) ?_
    refine d_t 9 rfl rfl (by kernel_rfl) rfl (fun _ m => m.keepsI (.refl _) ((j55).trans j56) hE11 hf11) (y_v rfl (v_extract rfl rfl)) ?_
    refine d_t 10 rfl rfl (by kernel_rfl) rfl (fun _ m => m.keepsI (.refl _) ((j55).trans j56) hE11 hf11) (y_v rfl (v_extract rfl rfl)) ?_
    refine d_t 11 rfl rfl (by kernel_rfl) rfl (fun _ m => m.keepsI (.refl _) ((j55).trans j56) hE11 hf11) (y_v rfl (v_assign rfl)) ?_
    refine d_t 12 rfl rfl (by kernel_rfl) rfl (fun _ m => m.keepsI (.refl _) ((j55).trans j56) hE11 hf11) (y_v rfl (v_assign rfl)) ?_
    refine d_done (by kernel_rfl) ?_
    refine go 3 ?_
    refine sx_nilrow 68 1 ?_
    refine go 10 ?_
    refine c_loop3 ((0 : Nat)) (_) ([]) (fun k v12 xs => I56)
     (fun k v12 xs => [(1, .slice A l.length c0), (2, .pointer (some ⟨g2, 0, none⟩)), (5, .bool true), (6, .slice TA (choF c l).1.length tc), (8, .slice CA ((compsN R l.length).map nI).length cc), (9, .int .i64 ((j : Nat) : Int)), (10, w56), (11, .int .i64 0), (12, v12), (13, .int .i64 ((k : Nat) : Int))])
     (fun k v12 xs => [.row v12 68 1 k xs, .blk g2 24 [vc]])
     (fun k v12 xs => k ≤ (membN R l.length (rootsN R l.length)[j]).length ∧ Flat I56 xs (pickN (choF c l).1 ((membN R l.length (rootsN R l.length)[j]).take k)))
     (fun k v12 xs => (membN R l.length (rootsN R l.length)[j]).length - k) ⟨Nat.zero_le _, .nil⟩ rfl sb rfl ?_
    intro k v12 xs ⟨hk, hF⟩
    refine go 6 ?_
    obtain ⟨b62, o62, w62, e62, c62, r62⟩ := RdA.at_ hCA (i := j) (by omega)
    rw [comp_at hlt] at r62
    obtain ⟨q62, rfl, S62, d62, rfl, hS62, hd62, hm62⟩ := r62
    refine o_v rfl (v_idx he rfl rfl e62 (j) (by omega) (by omega)) ?_
    refine o_v rfl (OV.cast (u := .slice S62 (membN R l.length (rootsN R l.length)[j]).length d62) (v_ldI he rfl (c62 0 _ rfl)) (by rw [nI_len])) ?_
    refine go 4 ?_
    refine cb rfl (fun h65 p65 => ?_) (fun h65 p65 => ?_)
    ·have hlk : k < (membN R l.length (rootsN R l.length)[j]).length := by omega
     have hck : (membN R l.length (rootsN R l.length)[j])[k] < (choF c l).1.length := by rw [hTl]; exact memb_lt (List.getElem_mem hlk)
     refine go 9 ?_
     obtain ⟨b72, o72, w72, e72, c72, r72⟩ := RdA.at_ hCA (i := j) (by omega)
     rw [comp_at hlt] at r72
     obtain ⟨q72, rfl, S72, d72, rfl, hS72, hd72, hm72⟩ := r72
     refine o_v rfl (v_idx he rfl rfl e72 (j) (by omega) (by omega)) ?_
     refine o_v rfl (OV.cast (u := .slice S72 (membN R l.length (rootsN R l.length)[j]).length d72) (v_ldI he rfl (c72 0 _ rfl)) (by rw [nI_len])) ?_
     refine go 1 ?_
     obtain ⟨b75, o75, w75, e75, c75, r75⟩ := RdA.at_ hS72 (i := k) (by first | exact hlk | (rw [nI_len]; exact hlk))
     rw [nI_at hlk] at r75
     obtain rfl := r75
     refine o_v rfl (v_idx he rfl rfl e75 (k) (by omega) (by first | exact hlk | (rw [nI_len]; exact hlk))) ?_
     refine o_v rfl (v_ldI he rfl (c75 0 _ rfl)) ?_
     obtain ⟨b77, o77, w77, e77, c77, r77⟩ := RdA.at_ hTA (i := (membN R l.length (rootsN R l.length)[j])[k]) hck
     obtain ⟨q77, rfl, S77, d77, rfl, hS77, hd77, hm77⟩ := r77
     refine o_v rfl (v_idx he rfl rfl e77 ((membN R l.length (rootsN R l.length)[j])[k]) (by omega) hck) ?_
     refine o_v rfl (v_ldI he rfl (c77 0 _ rfl)) ?_
     refine go 1 ?_
     refine o_buildSlice he he rfl rfl rfl rfl rfl rfl rfl (fun v79 => ?_)
     refine go 1 ?_
     refine bring1 ?_
     refine o_appendO he he rfl rfl rfl rfl rfl (by omega) (by omega) rfl (fun v80 => ?_)
     refine go 10 ?_
     refine bring1 ?_
     refine sx_drop ?_
     exact q_next3 (k + 1) (_) (_) ⟨by omega, by rw [← take_succ_of hlk, pickN_append, pickN_cons hck]; exact hF.append (.one ⟨_, rfl, ⟨_, _, rfl, hS77, hd77, hm77⟩⟩)⟩ (by omega) rfl sb rfl
    ·obtain rfl : k = (membN R l.length (rootsN R l.length)[j]).length := by omega
     rw [List.take_length] at hF
     refine go 8 ?_
     refine o_v rfl (OV.cast (u := .bool false) (v_neq rfl rfl) (congrArg Value.bool (rfl))) ?_
     refine go 1 ?_
     refine sx_pubrow (l := (pickN (choF c l).1 (membN R l.length (rootsN R l.length)[j]))) rfl (by rw [pickN_len fun i hi => by rw [hTl]; exact memb_lt hi]) (hF) (fun I84 j84 R84 => ?_)
     try have hvc := hvc.le j84
     try have hv0 := hv0.le j84
     try have hA := hA.le j84
     try have hw23 := hw23.le j84
     try have hw29 := hw29.le j84
     try have hw35 := hw35.le j84
     try have hw41 := hw41.le j84
     try have hTA := hTA.le j84
     try have hSA := hSA.le j84
     try have hw0 := hw0.le j84
     try have hCA := hCA.le j84
     try have hw56 := hw56.le j84
     refine go 3 ?_
     refine o_yes rfl rfl rfl (o_callV (eqSame17 _ _ _ hw56 _ R84) rfl rfl ?_)
     refine go 4 ?_
     refine c_false rfl ?_
     refine go 9 ?_
     exact q_next2 (j + 1) (_) ⟨by omega, hJ.trans (j55.trans (j56.trans j84))⟩ (by omega) rfl sb rfl
   ·refine go 12 ?_
    refine fin1 rfl rfl ?_
    exact q_vI rfl

end Go.Proofs.YtoadjlmbdliceaaGreat

/- The law PossibleOthers holds of the given program, for every input. No condition. -/
namespace Go.Proofs.YtoadjlmbdliceaaGreat
open Go Go.Sx
set_option linter.all false
theorem T.cel_24 : Tryz.prog.cellsOf 24 = 1 := by kernel_rfl
theorem T.cel_47 : Tryz.prog.cellsOf 47 = 2 := by kernel_rfl
theorem T.cel_52 : Tryz.prog.cellsOf 52 = 2 := by kernel_rfl
theorem T.cel_54 : Tryz.prog.cellsOf 54 = 6 := by kernel_rfl
theorem T.cel_56 : Tryz.prog.cellsOf 56 = 14 := by kernel_rfl
theorem T.cel_82 : Tryz.prog.cellsOf 82 = 3 := by kernel_rfl
theorem T.cel_84 : Tryz.prog.cellsOf 84 = 3 := by kernel_rfl
theorem T.cel_9 : Tryz.prog.cellsOf 9 = 1 := by kernel_rfl
instance T.fds_24 : Has (fieldsK Tryz.prog 24) [(22, 0, 1)] := ⟨by kernel_rfl⟩
instance T.fds_47 : Has (fieldsK Tryz.prog 47) [(45, 0, 1), (4, 1, 1)] := ⟨by kernel_rfl⟩
instance T.fds_52 : Has (fieldsK Tryz.prog 52) [(3, 0, 1), (3, 1, 1)] := ⟨by kernel_rfl⟩
instance T.fds_54 : Has (fieldsK Tryz.prog 54) [(52, 0, 2), (52, 2, 2), (52, 4, 2)] := ⟨by kernel_rfl⟩
instance T.fds_56 : Has (fieldsK Tryz.prog 56) [(3, 0, 1), (3, 1, 1), (9, 2, 1), (9, 3, 1), (9, 4, 1), (9, 5, 1), (9, 6, 1), (9, 7, 1), (54, 8, 6)] := ⟨by kernel_rfl⟩
instance T.fds_82 : Has (fieldsK Tryz.prog 82) [(9, 0, 1), (4, 1, 1), (80, 2, 1)] := ⟨by kernel_rfl⟩
instance T.fds_84 : Has (fieldsK Tryz.prog 84) [(9, 0, 1), (61, 1, 1), (3, 2, 1)] := ⟨by kernel_rfl⟩
namespace lawPossibleOthers
open Go.ChangeShapes Go.WideShapes Go.ChangeAt Go.RowKit
theorem own : ownKnob Tryz.prog.godebug = none := by kernel_rfl
set_option maxRecDepth 100000 in
theorem lifted (os : Os) (started : os.Started) (H : Type) (enc : TypeId × Value → H) :
    ReturnsInHanded {} Tryz.checked os 12 .any (Rows.possibleOthersSpec.pre6 enc Tryz.prog Tryz.f12 Rows.possibleOthersRow.domain false) (Rows.possibleOthersSpec.post enc Tryz.prog Tryz.f12 false true false false) := by
  refine returnsInHanded_of_change (C := Tryz.checked) own started (by kernel_rfl) Tryz.func12
    (ChangeSpec.witness6 (enc := enc) (C := Tryz.checked) false ⟨#[], #[.agg #[.slice none 0 0], .slice none 0 0], []⟩ 8 (by kernel_rfl) (by kernel_rfl) (by kernel_rfl) (by kernel_rfl)) ?_
  intro W base args ds gs before hval0 hW hcnd _
  have hval : ∀ (j : Nat) t v, Tryz.f12.params[j]? = some t → args[j]? = some v → Value.okWide Tryz.prog W .any base t v := hval0
  have hW' := hW
  obtain ⟨p, q, hA0, hV, rfl, hfz, hnd⟩ := hW
  have hA : DataW.TrodAll enc Tryz.prog W 0 (fun _ => true) true Tryz.f12.params.toList args.toList ds p := hA0
  rw [Tryz.params12] at hA hval
  obtain ⟨v0, vs0, d0, ds0, p0, q0, hargs, rfl, rfl, h0, r0⟩ := trodAll_cons hA
  obtain ⟨v1, vs1, d1, ds1, p1, q1, rfl, rfl, rfl, h1, r1⟩ := trodAll_cons r0
  obtain ⟨rfl, rfl, rfl⟩ := trodAll_nil r1
  obtain rfl : args = #[v0, v1] := by cases args; simp_all
  obtain ⟨rfl, rfl⟩ := trodVars_none hV
  clear hA0 hval0
  obtain ⟨cs0, rfl, hz0⟩ := okWide_agg T.fds_24.eq (hval 0 24 v0 rfl rfl)
  obtain ⟨fu0, hf0⟩ := h0
  obtain ⟨l0, ⟨u0, e0, R0⟩, G0⟩ := (opens_wrap T.fds_24.eq T.cel_24 (opens_slice T.und_22.eq T.cel_82 rfl (opens_kind T.fds_82.eq T.cel_82 (opens_string T.und_9.eq) (opens_bool T.und_4.eq) (opens_slice T.und_80.eq T.cel_84 rfl (opens_slot T.fds_84.eq T.cel_84 (opens_string T.und_9.eq) (opens_slice T.und_61.eq T.cel_9 rfl (opens_string T.und_9.eq)) (opens_int T.und_3.eq)))))) enc W 0 _ true fu0 _ _ hf0
  obtain rfl : cs0 = #[u0] := Array.toList_inj.1 e0
  obtain ⟨s1, n1, c1, rfl⟩ := okWide_slice T.und_25.eq (hval 1 25 v1 rfl rfl)
  obtain ⟨fu1, hf1⟩ := h1
  obtain ⟨l1, ⟨u1, e1, R1⟩, G1⟩ := (opens_slice T.und_25.eq T.cel_47 rfl (opens_rep T.fds_47.eq T.cel_47 (opens_slice T.und_45.eq T.cel_56 rfl (opens_evt T.fds_56.eq T.cel_56 (opens_int T.und_3.eq) (opens_string T.und_9.eq) (opens_use T.fds_54.eq T.cel_54 (opens_ivl T.fds_52.eq T.cel_52 (opens_int T.und_3.eq))))) (opens_bool T.und_4.eq))) enc W 0 _ true fu1 _ _ hf1
  cases e1
  exact law_calls (s := Rows.possibleOthersSpec) Tryz.call12 (lawPOthers (Iw W) _ l0 R0 G0 _ l1 R1 G1) hW' (by kernel_rfl) (by kernel_rfl) rfl T.und_4.eq rfl rfl
theorem over : Rows.possibleOthersRow.holds Tryz.pinned (OpenSpec.ofChange Rows.possibleOthersSpec) :=
  OpenClaim.holds_of_wide 12 Tryz.f12 rfl rfl rfl rfl rfl rfl rfl ⟨rfl, rfl, rfl, rfl, rfl⟩ rfl rfl rfl rfl rfl (by kernel_rfl) Tryz.func12 (by kernel_rfl)
    (of_decide_eq_true (by kernel_rfl)) (by unfold Func.isWrapper; first | (rw [if_pos (by decide +kernel)]; kernel_rfl) | (rw [if_neg (by decide +kernel)]; exact ⟨rfl, rfl⟩))
    (fun os started H enc _ => lifted os started H enc)
/-- the statement -/
theorem proved : Rows.PossibleOthersSaid := over
end lawPossibleOthers
end Go.Proofs.YtoadjlmbdliceaaGreat

