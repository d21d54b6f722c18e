/- The law PlaceOthers holds of the given program, for every input. No condition. -/
import Derived.Test.YtdapmfkbpnjkmaaGreatZPlf
import Derived.ChangeMaps5
import Derived.OpenShut
import Derived.ProofKit
import Derived.Test.YtdapmfkbpnjkmaaGreatRows
/- Walks, printed by a program out of the code of the functions: each theorem is a contract of one function. -/
namespace Go.Proofs.YtdapmfkbpnjkmaaGreat
open Go Go.Sx
set_option linter.all false
set_option maxRecDepth 20000
set_option maxHeartbeats 4000000
theorem lawPlOthers (I : IMap) (vc : Value) (c : List Kind) (hvc : RdS I vc c) (hoc : ∀ x ∈ c, OkKd x) (v : Value) (l : List Rep) (hv : RdS I v l) (hok : ∀ x ∈ l, OkRp x) (p : ByteArray) (wp : p.size ≤ maxLen) (day : Int) (wd : (Lit.int .i64 day).wf = true) :
    FnV Tryz.prog 8 #[.agg #[vc], v, .string p, .int .i64 (day)] I (.bool true) := by
 have hv0 := hv
 obtain ⟨A, c0, rfl, hA, hc, hm⟩ := hv0
 refine enter Tryz.func8 Tryz.call8 rfl Tryz.ntmps8 rfl (fun w0 => ?_)
 refine go 3 ?_
 refine o_box _ rfl rfl rfl (fun g4 => ?_)
 refine go 6 ?_
 refine o_callV (head19 _) rfl rfl ?_
 refine go 5 ?_
 refine c_cutx (α := IMap) (Ix := (fun J => J)) (Lx := (fun J => [(1, .slice A l.length c0), (2, .string p), (3, .int .i64 (day)), (4, .pointer (some ⟨g4, 0, none⟩)), (9, .bool true), (32, .bool (!few19 c l || !shortF [p]))])) (Hx := (fun J => [.blk g4 24 [vc]])) (p := (fun J => ILe I J)) ?_ ?_
 ·refine go 4 ?_
  refine o_callV (law19few _ vc c hvc _ l hv) rfl rfl ?_
  refine go 2 ?_
  refine sxb 27 rfl (fun h27 p27 => ?_) (fun h27 p27 => ?_)
  ·refine go 7 ?_
   exact q_cutx I (ILe.refl _) ⟨rfl, rfl, rfl, rfl, rfl, (congrArg (fun b => some (Value.bool b)) (by simp only [h27, bS])), trivial⟩ rfl rfl
  ·refine go 2 ?_
   refine o_yes rfl rfl h27 (o_buildSlice he he rfl rfl rfl rfl rfl rfl rfl (fun v29 => ?_))
   refine sx_pubrow (l := [p]) rfl rfl ((.one rfl)) (fun I29 j29 R29 => ?_)
   have hvc := hvc.le j29
   have hv := hv.le j29
   have hA := hA.le j29
   refine go 1 ?_
   refine o_yes rfl rfl h27 (o_callV (law19short _ _ [p] R29 (by simp)) rfl rfl ?_)
   refine go 4 ?_
   exact q_cutx I29 j29 ⟨rfl, rfl, rfl, rfl, rfl, (congrArg (fun b => some (Value.bool b)) (by simp only [h27, bS])), trivial⟩ rfl rfl
 ·intro J hJ
  have hvc := hvc.le hJ
  have hv := hv.le hJ
  have hA := hA.le hJ
  refine cb rfl (fun h32 p32 => ?_) (fun h32 p32 => ?_)
  ·refine go 8 ?_
   refine fin1 rfl rfl ?_
   exact q_vI rfl
  ·simp only [Bool.or_eq_false_iff, Bool.not_eq_false'] at h32
   obtain ⟨hsc, hl12, hsl, _⟩ := few19_sm h32.1
   have hl : l.length ≤ 1000000 := by omega
   obtain ⟨R, hR⟩ := roots_ex l
   refine go 7 ?_
   refine o_call (linkOf _ _ l hv hl hsl p R hR) rfl rfl (fun v36 I36 j36 q36 => ?_)
   try have hvc := hvc.le j36
   try have hv := hv.le j36
   try have hA := hA.le j36
   obtain ⟨CA, cc, rfl, hCA, hcc, hcm⟩ := q36
   rw [nI_len] at hcc ⊢
   refine go 5 ?_
   refine sx_nilrow 64 2 ?_
   refine go 10 ?_
   refine c_loop4 ((0 : Nat)) (none) (0) ([]) (fun i A11 c11 xs => I36)
    (fun i A11 c11 xs => [(1, .slice A l.length c0), (2, .string p), (3, .int .i64 (day)), (4, .pointer (some ⟨g4, 0, none⟩)), (9, .bool true), (10, .slice CA (ofN l R p).length cc), (11, .slice A11 i c11), (12, .int .i64 ((i : Nat) : Int))])
    (fun i A11 c11 xs => [.row (.slice A11 i c11) 64 2 i xs, .blk g4 24 [vc]])
    (fun i A11 c11 xs => i ≤ (ofN l R p).length ∧ Flat I36 xs (pickN l ((ofN l R p).take i)))
    (fun i A11 c11 xs => (ofN l R p).length - i) ⟨Nat.zero_le _, .nil⟩ rfl sb rfl ?_
   intro i A11 c11 xs ⟨hi, hF⟩
   refine go 9 ?_
   refine cb rfl (fun h40 p40 => ?_) (fun h40 p40 => ?_)
   ·have hlt : i < (ofN l R p).length := by omega
    have hcl : (ofN l R p)[i] < l.length := of_lt (List.getElem_mem hlt)
    have hcl2 := own_len (l := l) (R := R) (p := p)
    have hcl3 : (ownF l R p).length = (ofN l R p).length := pickN_len fun i hi => of_lt hi
    refine go 9 ?_
    obtain ⟨b45, o45, w45, e45, c45, r45⟩ := RdA.at_ hCA (i := i) (by first | exact hlt | (rw [nI_len]; exact hlt))
    rw [nI_at hlt] at r45
    obtain rfl := r45
    refine o_v rfl (v_idx he rfl rfl e45 (i) (by omega) (by first | exact hlt | (rw [nI_len]; exact hlt))) ?_
    refine o_v rfl (v_ldI he rfl (c45 0 _ rfl)) ?_
    refine o_v rfl (OV.cast (u := .bool false) (v_lss rfl rfl) (congrArg Value.bool ((decide_eq_false (by omega))))) ?_
    refine go 3 ?_
    obtain ⟨b51, o51, w51, e51, c51, r51⟩ := RdA.at_ hCA (i := i) (by first | exact hlt | (rw [nI_len]; exact hlt))
    rw [nI_at hlt] at r51
    obtain rfl := r51
    refine o_cons (o_yes rfl rfl rfl (o_val rfl (v_idx he rfl rfl e51 (i) (by omega) (by first | exact hlt | (rw [nI_len]; exact hlt))) ?_))
    refine o_cons (o_yes rfl rfl rfl (o_val rfl (v_ldI he rfl (c51 0 _ rfl)) ?_))
    refine go 2 ?_
    refine o_cons (o_yes rfl rfl rfl (o_val rfl (OV.cast (u := .bool false) (v_geq rfl rfl) (congrArg Value.bool ((decide_eq_false (by omega))))) ?_))
    refine go 3 ?_
    refine c_false rfl ?_
    refine go 7 ?_
    obtain ⟨b61, o61, w61, e61, c61, r61⟩ := RdA.at_ hCA (i := i) (by first | exact hlt | (rw [nI_len]; exact hlt))
    rw [nI_at hlt] at r61
    obtain rfl := r61
    refine o_v rfl (v_idx he rfl rfl e61 (i) (by omega) (by first | exact hlt | (rw [nI_len]; exact hlt))) ?_
    refine o_v rfl (v_ldI he rfl (c61 0 _ rfl)) ?_
    obtain ⟨b63, o63, w63, e63, c63, r63⟩ := RdA.at_ hA (i := (ofN l R p)[i]) hcl
    obtain ⟨q63, rfl, S63, d63, rfl, hS63, hd63, hm63⟩ := r63
    refine o_v rfl (v_idx he rfl rfl e63 ((ofN l R p)[i]) (by omega) hcl) ?_
    refine o_v rfl (v_ldIa he rfl c63 rfl) ?_
    refine go 1 ?_
    refine o_buildSlice he he rfl rfl rfl rfl rfl rfl rfl (fun v65 => ?_)
    refine go 1 ?_
    refine bring1 ?_
    refine o_appendO he he rfl rfl rfl rfl rfl (by omega) (by omega) rfl (fun v66 => ?_)
    refine sx_rowslice (fun A66 c66 hv66 => ?_)
    subst hv66
    refine go 10 ?_
    refine bring1 ?_
    refine sx_drop ?_
    exact q_next4 (i + 1) (_) (_) (_) ⟨by omega, by rw [pick_step hlt hcl]; exact hF.append (.one ⟨_, rfl, ⟨_, _, rfl, hS63, hd63, hm63⟩⟩)⟩ (by omega) rfl sb rfl
   ·obtain rfl : i = (ofN l R p).length := by omega
    rw [List.take_length] at hF
    have hcl2 := own_len (l := l) (R := R) (p := p)
    have hcl3 : (ownF l R p).length = (ofN l R p).length := pickN_len fun i hi => of_lt hi
    refine sx_pubrow (l := (ownF l R p)) rfl hcl3.symm hF (fun I9 j9 Ro => ?_)
    have hvc := hvc.le j9
    have hv := hv.le j9
    have hA := hA.le j9
    rw [← hcl3] at Ro ⊢
    refine go 12 ?_
    refine c_loop (α := Nat) 0 (fun i => I9)
     (fun i => [(1, .slice A l.length c0), (2, .string p), (3, .int .i64 (day)), (4, .pointer (some ⟨g4, 0, none⟩)), (9, .bool true), (11, .slice A11 (ownF l R p).length c11), (13, .int .i64 ((i : Nat) : Int))])
     (fun i => [.blk g4 24 [vc]])
     (fun i => i ≤ l.length ∧ ∀ r ∈ l.take i, validRep r = true)
     (fun i => l.length - i) ⟨Nat.zero_le _, fun r hr => by simp at hr⟩ rfl sb rfl ?_
    intro i ⟨hi, hn⟩
    refine go 9 ?_
    refine cb rfl (fun h70 p70 => ?_) (fun h70 p70 => ?_)
    ·have hlt : i < l.length := by omega
     refine go 8 ?_
     obtain ⟨b75, o75, w75, e75, c75, r75⟩ := RdA.at_ hA (i := i) (by omega)
     obtain ⟨q75, rfl, S75, d75, rfl, hS75, hd75, hm75⟩ := r75
     refine o_v rfl (v_idx he rfl rfl e75 (i) (by omega) (by omega)) ?_
     refine o_v rfl (v_ldIa he rfl c75 rfl) ?_
     refine go 1 ?_
     refine o_callV (repValid _ l[i] S75 d75 ⟨_, _, rfl, hS75, hd75, hm75⟩ (hsl _ (List.getElem_mem hlt))) rfl rfl ?_
     refine go 3 ?_
     refine cb rfl (fun h78 p78 => ?_) (fun h78 p78 => ?_)
     ·refine go 12 ?_
      refine fin1 rfl rfl ?_
      exact q_vI rfl
     ·refine go 9 ?_
      exact q_next (i + 1) ⟨by omega, vals_next hlt hn (by simpa using h78)⟩ (by omega) rfl sb rfl
    ·obtain rfl : i = l.length := by omega
     rw [List.take_length] at hn
     have hval := hn
     have hl2 : (ownF l R p).length ≤ 1000000 := by omega
     have hsl2 : ∀ r ∈ (ownF l R p), ∀ e ∈ r.options, SmE e := fun r hr => hsl r (own_mem hr)
     obtain ⟨R2, hR2⟩ := roots_ex (ownF l R p)
     refine go 12 ?_
     refine o_call (plOf _ vc c hvc hsc _ l hv hl hsl R hR p day) rfl rfl (fun v85 I85 j85 q85 => ?_)
     try have hvc := hvc.le j85
     try have hv := hv.le j85
     try have Ro := Ro.le j85
     try have hw85 := hw85.le j85
     try have hw93 := hw93.le j85
     try have hw101 := hw101.le j85
     try have hw109 := hw109.le j85
     obtain ⟨w85, rfl, hw85⟩ := q85
     
     refine go 14 ?_
     refine o_call (plOf _ vc c hvc hsc _ (ownF l R p) Ro hl2 hsl2 R2 hR2 p day) rfl rfl (fun v93 I93 j93 q93 => ?_)
     try have hvc := hvc.le j93
     try have hv := hv.le j93
     try have Ro := Ro.le j93
     try have hw85 := hw85.le j93
     try have hw93 := hw93.le j93
     try have hw101 := hw101.le j93
     try have hw109 := hw109.le j93
     obtain ⟨w93, rfl, hw93⟩ := q93
     rw [own_own hR hR2, shw_own hval] at hw93 ⊢
     refine go 14 ?_
     refine o_call (plRoots _ vc c hvc hsc _ l hv hl hsl R hR p day) rfl rfl (fun v101 I101 j101 q101 => ?_)
     try have hvc := hvc.le j101
     try have hv := hv.le j101
     try have Ro := Ro.le j101
     try have hw85 := hw85.le j101
     try have hw93 := hw93.le j101
     try have hw101 := hw101.le j101
     try have hw109 := hw109.le j101
     obtain ⟨w101, rfl, hw101⟩ := q101
     
     refine go 14 ?_
     refine o_call (plRoots _ vc c hvc hsc _ (ownF l R p) Ro hl2 hsl2 R2 hR2 p day) rfl rfl (fun v109 I109 j109 q109 => ?_)
     try have hvc := hvc.le j109
     try have hv := hv.le j109
     try have Ro := Ro.le j109
     try have hw85 := hw85.le j109
     try have hw93 := hw93.le j109
     try have hw101 := hw101.le j109
     try have hw109 := hw109.le j109
     obtain ⟨w109, rfl, hw109⟩ := q109
     rw [own_own hR hR2, shw_own hval] at hw109 ⊢
     refine go 13 ?_
     refine o_cons (o_yes rfl rfl rfl (o_val rfl (OV.cast (u := .bool true) (v_eql rfl rfl) (congrArg Value.bool (decide_eq_true (rfl)))) ?_))
     refine go 5 ?_
     refine o_yes rfl rfl rfl (o_callV (ref19Places_t _ _ _ hw85 _ _ hw93 rfl) rfl rfl ?_)
     refine go 4 ?_
     refine o_cons (o_yes rfl rfl rfl (o_val rfl (OV.cast (u := .bool true) (v_eql rfl rfl) (congrArg Value.bool (decide_eq_true (rfl)))) ?_))
     refine go 5 ?_
     refine o_yes rfl rfl rfl (o_callV (ref01Same_t _ _ _ hw101 _ _ hw109 rfl) rfl rfl ?_)
     refine go 5 ?_
     refine fin1 rfl rfl ?_
     exact q_vI rfl

end Go.Proofs.YtdapmfkbpnjkmaaGreat

/- The law PlaceOthers holds of the given program, for every input. No condition. -/
namespace Go.Proofs.YtdapmfkbpnjkmaaGreat
open Go Go.Sx
set_option linter.all false
theorem T.cel_168 : Tryz.prog.cellsOf 168 = 3 := by kernel_rfl
theorem T.cel_170 : Tryz.prog.cellsOf 170 = 3 := by kernel_rfl
theorem T.cel_24 : Tryz.prog.cellsOf 24 = 1 := by kernel_rfl
theorem T.cel_44 : Tryz.prog.cellsOf 44 = 2 := by kernel_rfl
theorem T.cel_64 : Tryz.prog.cellsOf 64 = 2 := by kernel_rfl
theorem T.cel_9 : Tryz.prog.cellsOf 9 = 1 := by kernel_rfl
theorem T.cel_94 : Tryz.prog.cellsOf 94 = 6 := by kernel_rfl
theorem T.cel_96 : Tryz.prog.cellsOf 96 = 14 := by kernel_rfl
instance T.fds_168 : Has (fieldsK Tryz.prog 168) [(9, 0, 1), (4, 1, 1), (166, 2, 1)] := ⟨by kernel_rfl⟩
instance T.fds_170 : Has (fieldsK Tryz.prog 170) [(9, 0, 1), (33, 1, 1), (3, 2, 1)] := ⟨by kernel_rfl⟩
instance T.fds_24 : Has (fieldsK Tryz.prog 24) [(22, 0, 1)] := ⟨by kernel_rfl⟩
instance T.fds_44 : Has (fieldsK Tryz.prog 44) [(3, 0, 1), (3, 1, 1)] := ⟨by kernel_rfl⟩
instance T.fds_64 : Has (fieldsK Tryz.prog 64) [(62, 0, 1), (4, 1, 1)] := ⟨by kernel_rfl⟩
instance T.fds_94 : Has (fieldsK Tryz.prog 94) [(44, 0, 2), (44, 2, 2), (44, 4, 2)] := ⟨by kernel_rfl⟩
instance T.fds_96 : Has (fieldsK Tryz.prog 96) [(3, 0, 1), (3, 1, 1), (9, 2, 1), (9, 3, 1), (9, 4, 1), (9, 5, 1), (9, 6, 1), (9, 7, 1), (94, 8, 6)] := ⟨by kernel_rfl⟩
namespace lawPlaceOthers
open Go.ChangeShapes Go.WideShapes Go.ChangeAt Go.RowKit Go.ChangeMaps Go.MapKept
theorem own : ownKnob Tryz.prog.godebug = none := by kernel_rfl
set_option maxRecDepth 100000 in
theorem lifted (os : Os) (started : os.Started) (H : Type) (enc : TypeId × Value → H) :
    ReturnsInHanded {} Tryz.checked os 8 .any (Rows.placeOthersSpec.pre6 enc Tryz.prog Tryz.f8 Rows.placeOthersRow.domain false) (Rows.placeOthersSpec.post enc Tryz.prog Tryz.f8 false true false false) := by
  refine returnsInHanded_of_change (C := Tryz.checked) own started (by kernel_rfl) Tryz.func8
    (ChangeSpec.witness6 (enc := enc) (C := Tryz.checked) false ⟨#[], #[.agg #[.slice none 0 0], .slice none 0 0, .string ⟨#[]⟩, .int .i64 0], []⟩ 8 (by kernel_rfl) (by kernel_rfl) (by kernel_rfl) (by kernel_rfl)) ?_
  intro W base args ds gs before hval0 hW hcnd _
  have hval : ∀ (j : Nat) t v, Tryz.f8.params[j]? = some t → args[j]? = some v → Value.okWide Tryz.prog W .any base t v := hval0
  have hW' := hW
  obtain ⟨p, q, hA0, hV, rfl, hfz, hnd⟩ := hW
  have hA : DataW.TrodAll enc Tryz.prog W 0 (fun _ => true) true Tryz.f8.params.toList args.toList ds p := hA0
  rw [Tryz.params8] at hA hval
  obtain ⟨v0, vs0, d0, ds0, p0, q0, hargs, rfl, rfl, h0, r0⟩ := trodAll_cons hA
  obtain ⟨v1, vs1, d1, ds1, p1, q1, rfl, rfl, rfl, h1, r1⟩ := trodAll_cons r0
  obtain ⟨v2, vs2, d2, ds2, p2, q2, rfl, rfl, rfl, h2, r2⟩ := trodAll_cons r1
  obtain ⟨v3, vs3, d3, ds3, p3, q3, rfl, rfl, rfl, h3, r3⟩ := trodAll_cons r2
  obtain ⟨rfl, rfl, rfl⟩ := trodAll_nil r3
  obtain rfl : args = #[v0, v1, v2, v3] := by cases args; simp_all
  obtain ⟨rfl, rfl⟩ := trodVars_none hV
  clear hA0 hval0
  obtain ⟨cs0, rfl, hz0⟩ := okWide_agg T.fds_24.eq (hval 0 24 v0 rfl rfl)
  obtain ⟨fu0, hf0⟩ := h0
  obtain ⟨l0, ⟨u0, e0, R0⟩, G0⟩ := (opens_wrap T.fds_24.eq T.cel_24 (opens_slice T.und_22.eq T.cel_168 rfl (opens_kind T.fds_168.eq T.cel_168 (opens_string T.und_9.eq) (opens_bool T.und_4.eq) (opens_slice T.und_166.eq T.cel_170 rfl (opens_slot T.fds_170.eq T.cel_170 (opens_string T.und_9.eq) (opens_slice T.und_33.eq T.cel_9 rfl (opens_string T.und_9.eq)) (opens_int T.und_3.eq)))))) enc W 0 _ true fu0 _ _ hf0
  obtain rfl : cs0 = #[u0] := Array.toList_inj.1 e0
  obtain ⟨s1, n1, c1, rfl⟩ := okWide_slice T.und_25.eq (hval 1 25 v1 rfl rfl)
  obtain ⟨fu1, hf1⟩ := h1
  obtain ⟨l1, ⟨u1, e1, R1⟩, G1⟩ := (opens_slice T.und_25.eq T.cel_64 rfl (opens_rep T.fds_64.eq T.cel_64 (opens_slice T.und_62.eq T.cel_96 rfl (opens_evt T.fds_96.eq T.cel_96 (opens_int T.und_3.eq) (opens_string T.und_9.eq) (opens_use T.fds_94.eq T.cel_94 (opens_ivl T.fds_44.eq T.cel_44 (opens_int T.und_3.eq))))) (opens_bool T.und_4.eq))) enc W 0 _ true fu1 _ _ hf1
  cases e1
  obtain ⟨a2, rfl, rfl, rfl, w2⟩ := open_string T.und_9.eq (hval 2 9 v2 rfl rfl) h2
  obtain ⟨a3, rfl, rfl, rfl, w3⟩ := open_int T.und_3.eq (hval 3 3 v3 rfl rfl) h3
  exact law_calls (s := Rows.placeOthersSpec) Tryz.call8 (lawPlOthers (Iw W) _ l0 R0 G0 _ l1 R1 G1 a2 w2 a3 w3) hW' (by kernel_rfl) (by kernel_rfl) rfl T.und_4.eq rfl rfl
end lawPlaceOthers

end Go.Proofs.YtdapmfkbpnjkmaaGreat

