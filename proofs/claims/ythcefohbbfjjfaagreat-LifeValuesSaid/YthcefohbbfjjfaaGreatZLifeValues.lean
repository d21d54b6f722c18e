/- The law LifeValues holds of the given program, for every input. No condition. -/
import Derived.Test.YthcefohbbfjjfaaGreatZLae
import Derived.ChangeMaps5
import Derived.OpenShut
import Derived.ProofKit
import Derived.Test.YthcefohbbfjjfaaGreatRows
/- Walks, printed by a program out of the code of the functions: each theorem is a contract of one function. -/
namespace Go.Proofs.YthcefohbbfjjfaaGreat
open Go Go.Sx
set_option linter.all false
set_option maxRecDepth 20000
set_option maxHeartbeats 4000000
instance T.und_62 : Has (Tryz.prog.underlying 62) (.int .u16) := ⟨by kernel_rfl⟩
theorem lifeValue_y (I : IMap) (p : Part) (q : Value) (hq : q.oneCell' = true) (s : ByteArray) (d : Int) (hs : isCur s = true) (hd : 0 ≤ d ∧ d ≤ 40000) : FnV Tryz.prog 18 #[.agg (p.cells q).toArray, .string s, .int .i64 d] I (.tuple #[.agg (curI p s d).cells.toArray, .int .i64 0]) := by
  have := lifeValue I p q hq s d
  rwa [value_in hs hd] at this
theorem lifeValue_n (I : IMap) (p : Part) (q : Value) (hq : q.oneCell' = true) (s : ByteArray) (d : Int) (hs : isCur s = true) (hd : 40000 < d) : FnV Tryz.prog 18 #[.agg (p.cells q).toArray, .string s, .int .i64 d] I (.tuple #[.agg zIvl.cells.toArray, .int .i64 13]) := by
  have := lifeValue I p q hq s d
  rwa [value_bad hs (by simp; omega)] at this
theorem lifeIs_t (I : IMap) (s : ByteArray) (h : isCur s = true) : FnV Tryz.prog 21 #[.string s] I (.bool true) := by
  have := lifeIs I s
  rwa [h] at this

theorem lawLValues (I : IMap) (p : Part) (q : Value) (hq : RdS I q p.props) (hop : OkPt p) (s : ByteArray) (ws : s.size ≤ maxLen) (a0 : Int) (w0 : (Lit.int .u16 a0).wf = true) :
    FnV Tryz.prog 5 #[.agg (p.cells q).toArray, .string s, .int .u16 a0] I (.bool true) := by
 obtain ⟨a, rfl, ha⟩ := u16_nat w0
 have hq1 := RdS.one hq
 refine enter Tryz.func5 Tryz.call5 rfl Tryz.ntmps5 rfl (fun w0 => ?_)
 refine go 3 ?_
 refine o_box _ rfl rfl rfl (fun g3 => ?_)
 refine go 6 ?_
 refine o_callV (head12 _) rfl rfl ?_
 refine go 6 ?_
 refine o_v rfl (v_conv he he rfl (m := ((a : Nat) : Int)) (by rw [IntKind.wrap_i64]; omega)) ?_
 refine o_v rfl (v_rem (i := a) (j := 40000) rfl rfl (by omega) (by omega)) ?_
 refine go 11 ?_
 refine cb rfl (fun h31 p31 => ?_) (fun h31 p31 => ?_)
 ·refine go 8 ?_
  refine fin1 rfl rfl ?_
  exact q_vI rfl
 ·refine go 5 ?_
  refine o_buildSlice he he rfl rfl rfl rfl rfl rfl rfl (fun v33 => ?_)
  refine sx_pubrow (l := curL) rfl rfl ((str_flat _ curL).flat) (fun I33 j33 R33 => ?_)
  obtain ⟨A9, c9, rfl, hA9, _, _⟩ := R33
  refine go 15 ?_
  refine c_loop2 ((0 : Nat)) (I33) (fun i J => J)
   (fun i J => [(1, .string s), (3, .pointer (some ⟨g3, 0, none⟩)), (7, .bool true), (8, .int .i64 ((a % 40000 : Nat) : Int)), (9, .slice A9 curL.length c9), (10, .bool (decide (s ∈ curL.take i))), (11, .int .i64 ((i : Nat) : Int))])
   (fun i J => [.blk g3 49 (p.cells q)])
   (fun i J => i ≤ curL.length ∧ ILe I33 J)
   (fun i J => curL.length - i) ⟨Nat.zero_le _, ILe.refl _⟩ rfl ⟨rfl, rfl, rfl, rfl, rfl, congrArg (fun b => some (Value.bool b)) (show false = decide (s ∈ curL.take 0) by simp), rfl, trivial⟩ rfl ?_
  intro i J ⟨hi, hJ⟩
  have hA9 := hA9.le hJ
  refine go 9 ?_
  refine cb rfl (fun h37 p37 => ?_) (fun h37 p37 => ?_)
  ·have hlt : i < curL.length := by omega
   have hl5 : curL.length = 5 := rfl
   refine go 5 ?_
   refine c_cut (I' := J) (L' := [(1, .string s), (3, .pointer (some ⟨g3, 0, none⟩)), (7, .bool true), (8, .int .i64 ((a % 40000 : Nat) : Int)), (9, .slice A9 curL.length c9), (10, .bool (decide (s ∈ curL.take (i + 1)))), (11, .int .i64 ((i : Nat) : Int))]) (H' := [.blk g3 49 (p.cells q)]) ?_ ?_
   ·refine go 3 ?_
    refine sxb 41 rfl (fun h41 p41 => ?_) (fun h41 p41 => ?_)
    ·refine go 10 ?_
     exact q_cut ⟨rfl, rfl, rfl, rfl, rfl, (congrArg (fun b => some (Value.bool b)) (by rw [known_step hlt]; simp only [h37, h41, bS])), rfl, trivial⟩ rfl rfl
    ·refine go 3 ?_
     obtain ⟨b45, o45, w45, e45, c45, r45⟩ := RdA.at_ hA9 (i := i) hlt
     obtain rfl := r45
     refine o_cons (o_yes rfl rfl h41 (o_val rfl (v_idx he rfl rfl e45 (i) (by omega) hlt) ?_))
     refine o_cons (o_yes rfl rfl h41 (o_val rfl (v_ldI he rfl (c45 0 _ rfl)) ?_))
     refine go 5 ?_
     exact q_cut ⟨rfl, rfl, rfl, rfl, rfl, (congrArg (fun b => some (Value.bool b)) (by rw [known_step hlt]; simp only [h37, h41, bS])), rfl, trivial⟩ rfl rfl
   ·refine go 1 ?_
    refine c_cutx (α := Nat) (Ix := (fun g12 => J)) (Lx := (fun g12 => [(1, .string s), (3, .pointer (some ⟨g3, 0, none⟩)), (7, .bool true), (8, .int .i64 ((a % 40000 : Nat) : Int)), (9, .slice A9 curL.length c9), (10, .bool (decide (s ∈ curL.take (i + 1)))), (11, .int .i64 ((i : Nat) : Int)), (12, .pointer (some ⟨g12, 0, none⟩)), (13, .int .i64 0)])) (Hx := (fun g12 => [.blk g12 32 (curI p curL[i] (((a % 40000 : Nat) : Int))).cells, .blk g3 49 (p.cells q)])) (p := (fun g12 => True)) ?_ ?_
    ·refine d_startH T.mixed ?_
     refine d_tv 0 rfl rfl (by kernel_rfl) rfl (.refl _) rfl (v_ldw m0 he rfl rfl) ?_
     refine d_tv 1 rfl rfl (by kernel_rfl) rfl (.refl _) rfl (v_move rfl) ?_
     refine d_tv 2 rfl rfl (by kernel_rfl) rfl (.refl _) rfl (v_move rfl) ?_
     obtain ⟨b53, o53, w53, e53, c53, r53⟩ := RdA.at_ hA9 (i := i) hlt
     obtain rfl := r53
     refine d_tv 3 rfl rfl (by kernel_rfl) rfl (.refl _) rfl (v_idx he rfl rfl e53 (i) (by omega) hlt) ?_
     refine d_tv 4 rfl rfl (by kernel_rfl) rfl (.refl _) rfl (v_ldI he rfl (c53 0 _ rfl)) ?_
     refine d_tv 5 rfl rfl (by kernel_rfl) rfl (.refl _) rfl (v_move rfl) ?_
     refine d_two 6 10 (by kernel_rfl) rfl rfl ?_ ?_
     ·refine o_callV (lifeValue_y _ p q hq1 curL[i] ((a % 40000 : Nat) : Int) (cur_mem hlt) (by omega)) rfl rfl ?_
      refine d_on (fun _ m => m.keeps (.refl _)) ?_
      refine d_tv 7 rfl rfl (by kernel_rfl) rfl (.refl _) rfl (v_move rfl) ?_
      refine d_tv 8 rfl rfl (by kernel_rfl) rfl (.refl _) rfl (v_extract rfl rfl) ?_
      refine d_tv 9 rfl rfl (by kernel_rfl) rfl (.refl _) rfl (v_extract rfl rfl) ?_
      refine d_one 10 (by kernel_rfl) rfl ?_
      refine o_alloc he rfl (fun g12 => ?_)
      refine d_on (fun _ m => m.keeps (.cons _ (.refl _))) ?_
      refine d_one 11 (by kernel_rfl) rfl ?_
      refine o_stw _ he rfl rfl rfl rfl rfl rfl ?_
      refine d_on (fun _ m => m.keeps (.cons _ (.refl _))) ?_
      refine d_tv 12 rfl rfl (by kernel_rfl) rfl (.cons _ (.refl _)) rfl (v_assign rfl) ?_
      refine d_done (by kernel_rfl) ?_
      refine go 1 ?_
      exact q_cutx g12 trivial sb rfl rfl
     ·refine o_alloc he rfl (fun g12 => ?_)
      refine d_on (fun _ m => m.keeps (.cons _ (.refl _))) ?_
      refine d_one 6 (by kernel_rfl) rfl ?_
      refine o_callV (lifeValue_y _ p q hq1 curL[i] ((a % 40000 : Nat) : Int) (cur_mem hlt) (by omega)) rfl rfl ?_
      refine d_on (fun _ m => m.keeps (.cons _ (.refl _))) ?_
      refine d_tv 7 rfl rfl (by kernel_rfl) rfl (.cons _ (.refl _)) rfl (v_move rfl) ?_
      refine d_tv 8 rfl rfl (by kernel_rfl) rfl (.cons _ (.refl _)) rfl (v_extract rfl rfl) ?_
      refine d_tv 9 rfl rfl (by kernel_rfl) rfl (.cons _ (.refl _)) rfl (v_extract rfl rfl) ?_
      refine d_one 11 (by kernel_rfl) rfl ?_
      refine o_stw _ he rfl rfl rfl rfl rfl rfl ?_
      refine d_on (fun _ m => m.keeps (.cons _ (.refl _))) ?_
      refine d_tv 12 rfl rfl (by kernel_rfl) rfl (.cons _ (.refl _)) rfl (v_assign rfl) ?_
      refine d_done (by kernel_rfl) ?_
      refine go 1 ?_
      exact q_cutx g12 trivial sb rfl rfl
    ·intro g12 _
     refine go 1 ?_
     refine c_cutx (α := Nat) (Ix := (fun g14 => J)) (Lx := (fun g14 => [(1, .string s), (3, .pointer (some ⟨g3, 0, none⟩)), (7, .bool true), (8, .int .i64 ((a % 40000 : Nat) : Int)), (9, .slice A9 curL.length c9), (10, .bool (decide (s ∈ curL.take (i + 1)))), (11, .int .i64 ((i : Nat) : Int)), (12, .pointer (some ⟨g12, 0, none⟩)), (13, .int .i64 0), (14, .pointer (some ⟨g14, 0, none⟩)), (15, .int .i64 0)])) (Hx := (fun g14 => [.blk g14 32 (curI p curL[i] (((a % 40000 : Nat) : Int) + 1)).cells, .blk g12 32 (curI p curL[i] (((a % 40000 : Nat) : Int))).cells, .blk g3 49 (p.cells q)])) (p := (fun g14 => True)) ?_ ?_
     ·refine d_startH T.mixed ?_
      refine d_tv 0 rfl rfl (by kernel_rfl) rfl (.refl _) rfl (v_ldw m1 he rfl rfl) ?_
      refine d_tv 1 rfl rfl (by kernel_rfl) rfl (.refl _) rfl (v_move rfl) ?_
      refine d_tv 2 rfl rfl (by kernel_rfl) rfl (.refl _) rfl (v_move rfl) ?_
      obtain ⟨b63, o63, w63, e63, c63, r63⟩ := RdA.at_ hA9 (i := i) hlt
      obtain rfl := r63
      refine d_tv 3 rfl rfl (by kernel_rfl) rfl (.refl _) rfl (v_idx he rfl rfl e63 (i) (by omega) hlt) ?_
      refine d_tv 4 rfl rfl (by kernel_rfl) rfl (.refl _) rfl (v_ldI he rfl (c63 0 _ rfl)) ?_
      refine d_tv 5 rfl rfl (by kernel_rfl) rfl (.refl _) rfl (v_move rfl) ?_
      refine d_tv 6 rfl rfl (by kernel_rfl) rfl (.refl _) rfl (v_add rfl rfl ⟨by omega, by omega⟩) ?_
      refine d_two 7 11 (by kernel_rfl) rfl rfl ?_ ?_
      ·refine o_callV (lifeValue_y _ p q hq1 curL[i] (((a % 40000 : Nat) : Int) + 1) (cur_mem hlt) (by omega)) rfl rfl ?_
       refine d_on (fun _ m => m.keeps (.refl _)) ?_
       refine d_tv 8 rfl rfl (by kernel_rfl) rfl (.refl _) rfl (v_move rfl) ?_
       refine d_tv 9 rfl rfl (by kernel_rfl) rfl (.refl _) rfl (v_extract rfl rfl) ?_
       refine d_tv 10 rfl rfl (by kernel_rfl) rfl (.refl _) rfl (v_extract rfl rfl) ?_
       refine d_one 11 (by kernel_rfl) rfl ?_
       refine o_alloc he rfl (fun g14 => ?_)
       refine d_on (fun _ m => m.keeps (.cons _ (.refl _))) ?_
       refine d_one 12 (by kernel_rfl) rfl ?_
       refine o_stw _ he rfl rfl rfl rfl rfl rfl ?_
       refine d_on (fun _ m => m.keeps (.cons _ (.refl _))) ?_
       refine d_tv 13 rfl rfl (by kernel_rfl) rfl (.cons _ (.refl _)) rfl (v_assign rfl) ?_
       refine d_done (by kernel_rfl) ?_
       refine go 1 ?_
       exact q_cutx g14 trivial sb rfl rfl
      ·refine o_alloc he rfl (fun g14 => ?_)
       refine d_on (fun _ m => m.keeps (.cons _ (.refl _))) ?_
       refine d_one 7 (by kernel_rfl) rfl ?_
       refine o_callV (lifeValue_y _ p q hq1 curL[i] (((a % 40000 : Nat) : Int) + 1) (cur_mem hlt) (by omega)) rfl rfl ?_
       refine d_on (fun _ m => m.keeps (.cons _ (.refl _))) ?_
       refine d_tv 8 rfl rfl (by kernel_rfl) rfl (.cons _ (.refl _)) rfl (v_move rfl) ?_
       refine d_tv 9 rfl rfl (by kernel_rfl) rfl (.cons _ (.refl _)) rfl (v_extract rfl rfl) ?_
       refine d_tv 10 rfl rfl (by kernel_rfl) rfl (.cons _ (.refl _)) rfl (v_extract rfl rfl) ?_
       refine d_one 12 (by kernel_rfl) rfl ?_
       refine o_stw _ he rfl rfl rfl rfl rfl rfl ?_
       refine d_on (fun _ m => m.keeps (.cons _ (.refl _))) ?_
       refine d_tv 13 rfl rfl (by kernel_rfl) rfl (.cons _ (.refl _)) rfl (v_assign rfl) ?_
       refine d_done (by kernel_rfl) ?_
       refine go 1 ?_
       exact q_cutx g14 trivial sb rfl rfl
     ·intro g14 _
      refine go 1 ?_
      refine c_cut (I' := J) (L' := [(1, .string s), (3, .pointer (some ⟨g3, 0, none⟩)), (7, .bool true), (8, .int .i64 ((a % 40000 : Nat) : Int)), (9, .slice A9 curL.length c9), (10, .bool (decide (s ∈ curL.take (i + 1)))), (11, .int .i64 ((i : Nat) : Int)), (12, .pointer (some ⟨g12, 0, none⟩)), (13, .int .i64 0), (14, .pointer (some ⟨g14, 0, none⟩)), (15, .int .i64 0), (17, .int .i64 13)]) (H' := [.blk g14 32 (curI p curL[i] (((a % 40000 : Nat) : Int) + 1)).cells, .blk g12 32 (curI p curL[i] (((a % 40000 : Nat) : Int))).cells, .blk g3 49 (p.cells q)]) ?_ ?_
      ·refine d_startH T.mixed ?_
       refine d_tv 0 rfl rfl (by kernel_rfl) rfl (.refl _) rfl (v_ldw m2 he rfl rfl) ?_
       refine d_tv 1 rfl rfl (by kernel_rfl) rfl (.refl _) rfl (v_move rfl) ?_
       refine d_tv 2 rfl rfl (by kernel_rfl) rfl (.refl _) rfl (v_move rfl) ?_
       obtain ⟨b74, o74, w74, e74, c74, r74⟩ := RdA.at_ hA9 (i := i) hlt
       obtain rfl := r74
       refine d_tv 3 rfl rfl (by kernel_rfl) rfl (.refl _) rfl (v_idx he rfl rfl e74 (i) (by omega) hlt) ?_
       refine d_tv 4 rfl rfl (by kernel_rfl) rfl (.refl _) rfl (v_ldI he rfl (c74 0 _ rfl)) ?_
       refine d_two 5 9 (by kernel_rfl) rfl rfl ?_ ?_
       ·refine o_callV (lifeValue_n _ p q hq1 curL[i] 40001 (cur_mem hlt) (by omega)) rfl rfl ?_
        refine d_on (fun _ m => m.keeps (.refl _)) ?_
        refine d_tv 6 rfl rfl (by kernel_rfl) rfl (.refl _) rfl (v_move rfl) ?_
        refine d_tv 7 rfl rfl (by kernel_rfl) rfl (.refl _) rfl (v_extract rfl rfl) ?_
        refine d_tv 8 rfl rfl (by kernel_rfl) rfl (.refl _) rfl (v_extract rfl rfl) ?_
        refine d_one 9 (by kernel_rfl) rfl ?_
        refine o_alloc he rfl (fun g16 => ?_)
        refine d_on (fun _ m => m.keeps (.cons _ (.refl _))) ?_
        refine d_one 10 (by kernel_rfl) rfl ?_
        refine o_stw _ he rfl rfl rfl rfl rfl rfl ?_
        refine d_on (fun _ m => m.keeps (.cons _ (.refl _))) ?_
        refine d_tv 11 rfl rfl (by kernel_rfl) rfl (.cons _ (.refl _)) rfl (v_assign rfl) ?_
        refine d_done (by kernel_rfl) ?_
        refine go 1 ?_
        refine sx_drop ?_
        exact q_cut sb rfl rfl
       ·refine o_alloc he rfl (fun g16 => ?_)
        refine d_on (fun _ m => m.keeps (.cons _ (.refl _))) ?_
        refine d_one 5 (by kernel_rfl) rfl ?_
        refine o_callV (lifeValue_n _ p q hq1 curL[i] 40001 (cur_mem hlt) (by omega)) rfl rfl ?_
        refine d_on (fun _ m => m.keeps (.cons _ (.refl _))) ?_
        refine d_tv 6 rfl rfl (by kernel_rfl) rfl (.cons _ (.refl _)) rfl (v_move rfl) ?_
        refine d_tv 7 rfl rfl (by kernel_rfl) rfl (.cons _ (.refl _)) rfl (v_extract rfl rfl) ?_
        refine d_tv 8 rfl rfl (by kernel_rfl) rfl (.cons _ (.refl _)) rfl (v_extract rfl rfl) ?_
        refine d_one 10 (by kernel_rfl) rfl ?_
        refine o_stw _ he rfl rfl rfl rfl rfl rfl ?_
        refine d_on (fun _ m => m.keeps (.cons _ (.refl _))) ?_
        refine d_tv 11 rfl rfl (by kernel_rfl) rfl (.cons _ (.refl _)) rfl (v_assign rfl) ?_
        refine d_done (by kernel_rfl) ?_
        refine go 1 ?_
        refine sx_drop ?_
        exact q_cut sb rfl rfl
      ·refine go 4 ?_
       refine o_v rfl (OV.cast (u := .bool false) (v_neq rfl rfl) (congrArg Value.bool (rfl))) ?_
       refine go 2 ?_
       refine o_cons (o_yes rfl rfl rfl (o_val rfl (OV.cast (u := .bool false) (v_neq rfl rfl) (congrArg Value.bool (rfl))) ?_))
       refine go 3 ?_
       refine o_cons (o_yes rfl rfl rfl (o_val rfl (OV.cast (u := .bool false) (v_neq rfl rfl) (congrArg Value.bool (rfl))) ?_))
       refine go 4 ?_
       obtain ⟨b92, o92, w92, e92, c92, r92⟩ := RdA.at_ hA9 (i := i) hlt
       obtain rfl := r92
       refine o_cons (o_yes rfl rfl rfl (o_val rfl (v_idx he rfl rfl e92 (i) (by omega) hlt) ?_))
       refine o_cons (o_yes rfl rfl rfl (o_val rfl (v_ldI he rfl (c92 0 _ rfl)) ?_))
       refine go 1 ?_
       refine o_yes rfl rfl rfl (o_callV (lifeIs_t _ _ (cur_mem hlt)) rfl rfl ?_)
       refine go 4 ?_
       refine c_false rfl ?_
       refine go 9 ?_
       refine cb rfl (fun h98 p98 => ?_) (fun h98 p98 => ?_)
       ·have h3 : i < 3 := by omega
        refine go 2 ?_
        refine sx_knowI (fun hE17 hf17 => ?_)
        refine d_startH T.mixed ?_
        refine d_tv 0 rfl rfl (by kernel_rfl) rfl (.refl _) rfl (v_ldw m1 he rfl rfl) ?_
        refine d_tv 1 rfl rfl (by kernel_rfl) rfl (.refl _) rfl (v_ldw m0 he rfl rfl) ?_
        refine d_tv 2 rfl rfl (by kernel_rfl) rfl (.refl _) rfl (OV.cast (u := .bool false) (v_stneq T.eqg_32 (eqS_Ivl (curI p curL[i] ((a % 40000 : Nat) : Int)) (curI p curL[i] (((a % 40000 : Nat) : Int) + 1))) rfl rfl) (congrArg Value.bool (by rw [cur_lt3 h3, cur_lt3 h3]; simp))) ?_
        refine d_tv 3 rfl rfl (by kernel_rfl) rfl (.refl _) rfl (v_move rfl) ?_
        refine d_t 4 rfl rfl (by kernel_rfl) rfl (fun _ m => m.keeps (.refl _)) (y_yes rfl rfl rfl (v_ldw m1 he rfl rfl)) ?_
        refine d_t 5 rfl rfl (by kernel_rfl) rfl (fun _ m => m.keeps (.refl _)) (y_yes rfl rfl rfl (v_fieldAddr he rfl)) ?_
        refine d_t 6 rfl rfl (by kernel_rfl) rfl (fun _ m => m.keeps (.refl _)) (y_yes rfl rfl rfl (v_fieldAddr he rfl)) ?_
        refine d_t 7 rfl rfl (by kernel_rfl) rfl (fun _ m => m.keeps (.refl _)) (y_yes rfl rfl rfl (v_ldp (p.life.km.cells) m2 he rfl rfl rfl)) ?_
        refine d_t 8 rfl rfl (by kernel_rfl) rfl (fun _ m => m.keeps (.refl _)) (y_yes rfl rfl rfl (v_fieldAddr he rfl)) ?_
        refine d_t 9 rfl rfl (by kernel_rfl) rfl (fun _ m => m.keeps (.refl _)) (y_yes rfl rfl rfl (v_fieldAddr he rfl)) ?_
        refine d_t 10 rfl rfl (by kernel_rfl) rfl (fun _ m => m.keeps (.refl _)) (y_yes rfl rfl rfl (v_ldp (p.life.cycles.cells) m2 he rfl rfl rfl)) ?_
        refine d_t 11 rfl rfl (by kernel_rfl) rfl (fun _ m => m.keeps (.refl _)) (y_yes rfl rfl rfl (v_fieldAddr he rfl)) ?_
        refine d_t 12 rfl rfl (by kernel_rfl) rfl (fun _ m => m.keeps (.refl _)) (y_yes rfl rfl rfl (v_fieldAddr he rfl)) ?_
        refine d_t 13 rfl rfl (by kernel_rfl) rfl (fun _ m => m.keeps (.refl _)) (y_yes rfl rfl rfl (v_ldp (p.life.damage.cells) m2 he rfl rfl rfl)) ?_
        refine d_t 15 rfl rfl (by kernel_rfl) rfl (fun _ m => m.keeps (.refl _)) (y_yes rfl rfl rfl (v_move rfl)) ?_
        refine d_one 14 (by kernel_rfl) rfl ?_
        refine o_yes rfl rfl rfl (o_buildSlice he he rfl rfl rfl rfl rfl rfl rfl (fun v113 => ?_))
        refine sx_pubrow (l := [p.life.km, p.life.cycles, p.life.damage]) rfl rfl ((ivCs_flat [p.life.km, p.life.cycles, p.life.damage])) (fun I113 j113 R113 => ?_)
        have hA9 := hA9.le j113
        obtain ⟨A113, c113, rfl, hA113, _, _⟩ := R113
        refine d_on (fun _ m => m.keepsI (.refl _) (j113) hE17 hf17) ?_
        obtain ⟨b115, o115, w115, e115, c115, r115⟩ := RdA.at_ hA113 (i := i) h3
        obtain rfl := r115
        refine d_t 16 rfl rfl (by kernel_rfl) rfl (fun _ m => m.keepsI (.refl _) (j113) hE17 hf17) (y_yes rfl rfl rfl (v_idx he rfl rfl e115 (i) (by omega) h3)) ?_
        refine d_one 17 (by kernel_rfl) rfl ?_
        refine o_yes rfl rfl rfl (o_val rfl (v_ldIa he rfl c115 rfl) ?_)
        refine d_on (fun _ m => m.keepsI (.refl _) (j113) hE17 hf17) ?_
        refine d_t 18 rfl rfl (by kernel_rfl) rfl (fun _ m => m.keepsI (.refl _) (j113) hE17 hf17) (y_yes rfl rfl rfl (OV.cast (u := .bool false) (v_stneq T.eqg_32 (eqS_Ivl (curI p curL[i] ((a % 40000 : Nat) : Int)) ([p.life.km, p.life.cycles, p.life.damage][i])) rfl rfl) (congrArg Value.bool (by rw [cur_lt3 h3]; simp)))) ?_
        refine d_t 19 rfl rfl (by kernel_rfl) rfl (fun _ m => m.keepsI (.refl _) (j113) hE17 hf17) (y_v rfl (v_or_f rfl rfl rfl)) ?_
        refine d_done (by kernel_rfl) ?_
        refine go 1 ?_
        refine c_false rfl ?_
        refine go 12 ?_
        refine sx_drop ?_
        refine sx_drop ?_
        exact q_next2 (i + 1) (_) ⟨by omega, hJ.trans j113⟩ (by omega) rfl sb rfl
       ·have h3 : ¬ i < 3 := by omega
        obtain ⟨F, hF, hcF⟩ := cur_ge3 (p := p) (by omega) h3
        obtain ⟨hs1, hs2⟩ := since_low (d := ((a % 40000 : Nat) : Int)) (F := F)
        obtain ⟨hs3, hs4⟩ := since_low (d := ((a % 40000 : Nat) : Int) + 1) (F := F)
        rw [hcF, hcF]
        refine go 9 ?_
        refine o_buildSlice he he rfl rfl rfl rfl rfl rfl rfl (fun v123 => ?_)
        refine sx_pubrow (l := [p.since, p.made]) rfl rfl ((intCs_flat [p.since, p.made])) (fun I123 j123 R123 => ?_)
        have hA9 := hA9.le j123
        obtain ⟨A123, c123, rfl, hA123, _, _⟩ := R123
        refine go 1 ?_
        refine o_v rfl (OV.cast (u := .int .i64 ((i - 3 : Nat) : Int)) (v_sub rfl rfl ⟨by omega, by omega⟩) (congrArg (Value.int .i64) (by omega))) ?_
        obtain ⟨b126, o126, w126, e126, c126, r126⟩ := RdA.at_ hA123 (i := (i - 3)) (by simp; omega)
        obtain rfl := r126
        refine o_v rfl (v_idx he rfl rfl e126 ((i - 3)) (by omega) (by simp; omega)) ?_
        refine o_v rfl (OV.cast (u := .int .i64 (F)) (v_ldI he rfl (c126 0 _ rfl)) (congrArg (Value.int .i64) hF)) ?_
        refine go 9 ?_
        refine o_v rfl (OV.cast (u := .bool false) (v_neq rfl rfl) (congrArg Value.bool (by rw [hs1]; simp))) ?_
        refine go 5 ?_
        refine o_cons (o_yes rfl rfl rfl (o_val rfl (OV.cast (u := .bool false) (v_neq rfl rfl) (congrArg Value.bool (by rw [hs3]; simp))) ?_))
        refine go 4 ?_
        refine o_cons (o_yes rfl rfl rfl (o_val rfl (OV.cast (u := .bool false) (v_lss rfl rfl) (congrArg Value.bool (decide_eq_false (by rw [hs2]; split <;> omega)))) ?_))
        refine go 5 ?_
        refine sxb 148 rfl (fun h148 p148 => ?_) (fun h148 p148 => ?_)
        ·refine go 5 ?_
         refine sxb 153 rfl (fun h153 p153 => ?_) (fun h153 p153 => ?_)
         ·refine go 5 ?_
          refine o_cons (o_yes rfl rfl h153 (o_val rfl (OV.cast (u := .bool false) (v_neq rfl rfl) (congrArg Value.bool (by rw [hs2, hs4, decide_eq_true (show _ = _ by split <;> split <;> omega)]; rfl))) ?_))
          refine go 7 ?_
          refine sxb 166 rfl (fun h166 p166 => ?_) (fun h166 p166 => ?_)
          ·refine go 2 ?_
           refine o_cons (o_yes rfl rfl h166 (o_val rfl (OV.cast (u := .bool false) (v_neq rfl rfl) (congrArg Value.bool (by rw [hs2, if_pos (by omega)]; rfl))) ?_))
           refine go 7 ?_
           refine sxb 176 rfl (fun h176 p176 => ?_) (fun h176 p176 => ?_)
           ·refine go 2 ?_
            refine o_cons (o_yes rfl rfl h176 (o_val rfl (OV.cast (u := .bool false) (v_neq rfl rfl) (congrArg Value.bool (by rw [hs2, if_pos (by omega)]; rfl))) ?_))
            refine go 4 ?_
            refine c_false rfl ?_
            refine go 9 ?_
            refine sx_drop ?_
            refine sx_drop ?_
            exact q_next2 (i + 1) (_) ⟨by omega, hJ.trans j123⟩ (by omega) rfl sb rfl
           ·refine go 7 ?_
            refine c_false rfl ?_
            refine go 9 ?_
            refine sx_drop ?_
            refine sx_drop ?_
            exact q_next2 (i + 1) (_) ⟨by omega, hJ.trans j123⟩ (by omega) rfl sb rfl
          ·refine go 10 ?_
           refine sxb 176 rfl (fun h176 p176 => ?_) (fun h176 p176 => ?_)
           ·refine go 2 ?_
            refine o_cons (o_yes rfl rfl h176 (o_val rfl (OV.cast (u := .bool false) (v_neq rfl rfl) (congrArg Value.bool (by rw [hs2, if_pos (by omega)]; rfl))) ?_))
            refine go 4 ?_
            refine c_false rfl ?_
            refine go 9 ?_
            refine sx_drop ?_
            refine sx_drop ?_
            exact q_next2 (i + 1) (_) ⟨by omega, hJ.trans j123⟩ (by omega) rfl sb rfl
           ·refine go 7 ?_
            refine c_false rfl ?_
            refine go 9 ?_
            refine sx_drop ?_
            refine sx_drop ?_
            exact q_next2 (i + 1) (_) ⟨by omega, hJ.trans j123⟩ (by omega) rfl sb rfl
         ·refine go 13 ?_
          refine sxb 166 rfl (fun h166 p166 => ?_) (fun h166 p166 => ?_)
          ·refine go 2 ?_
           refine o_cons (o_yes rfl rfl h166 (o_val rfl (OV.cast (u := .bool false) (v_neq rfl rfl) (congrArg Value.bool (by rw [hs2, if_pos (by omega)]; rfl))) ?_))
           refine go 7 ?_
           refine sxb 176 rfl (fun h176 p176 => ?_) (fun h176 p176 => ?_)
           ·refine go 2 ?_
            refine o_cons (o_yes rfl rfl h176 (o_val rfl (OV.cast (u := .bool false) (v_neq rfl rfl) (congrArg Value.bool (by rw [hs2, if_pos (by omega)]; rfl))) ?_))
            refine go 4 ?_
            refine c_false rfl ?_
            refine go 9 ?_
            refine sx_drop ?_
            refine sx_drop ?_
            exact q_next2 (i + 1) (_) ⟨by omega, hJ.trans j123⟩ (by omega) rfl sb rfl
           ·refine go 7 ?_
            refine c_false rfl ?_
            refine go 9 ?_
            refine sx_drop ?_
            refine sx_drop ?_
            exact q_next2 (i + 1) (_) ⟨by omega, hJ.trans j123⟩ (by omega) rfl sb rfl
          ·refine go 10 ?_
           refine sxb 176 rfl (fun h176 p176 => ?_) (fun h176 p176 => ?_)
           ·refine go 2 ?_
            refine o_cons (o_yes rfl rfl h176 (o_val rfl (OV.cast (u := .bool false) (v_neq rfl rfl) (congrArg Value.bool (by rw [hs2, if_pos (by omega)]; rfl))) ?_))
            refine go 4 ?_
            refine c_false rfl ?_
            refine go 9 ?_
            refine sx_drop ?_
            refine sx_drop ?_
            exact q_next2 (i + 1) (_) ⟨by omega, hJ.trans j123⟩ (by omega) rfl sb rfl
           ·refine go 7 ?_
            refine c_false rfl ?_
            refine go 9 ?_
            refine sx_drop ?_
            refine sx_drop ?_
            exact q_next2 (i + 1) (_) ⟨by omega, hJ.trans j123⟩ (by omega) rfl sb rfl
        ·refine go 18 ?_
         refine sxb 166 rfl (fun h166 p166 => ?_) (fun h166 p166 => ?_)
         ·refine go 2 ?_
          refine o_cons (o_yes rfl rfl h166 (o_val rfl (OV.cast (u := .bool false) (v_neq rfl rfl) (congrArg Value.bool (by rw [hs2, if_pos (by omega)]; rfl))) ?_))
          refine go 7 ?_
          refine sxb 176 rfl (fun h176 p176 => ?_) (fun h176 p176 => ?_)
          ·refine go 2 ?_
           refine o_cons (o_yes rfl rfl h176 (o_val rfl (OV.cast (u := .bool false) (v_neq rfl rfl) (congrArg Value.bool (by rw [hs2, if_pos (by omega)]; rfl))) ?_))
           refine go 4 ?_
           refine c_false rfl ?_
           refine go 9 ?_
           refine sx_drop ?_
           refine sx_drop ?_
           exact q_next2 (i + 1) (_) ⟨by omega, hJ.trans j123⟩ (by omega) rfl sb rfl
          ·refine go 7 ?_
           refine c_false rfl ?_
           refine go 9 ?_
           refine sx_drop ?_
           refine sx_drop ?_
           exact q_next2 (i + 1) (_) ⟨by omega, hJ.trans j123⟩ (by omega) rfl sb rfl
         ·refine go 10 ?_
          refine sxb 176 rfl (fun h176 p176 => ?_) (fun h176 p176 => ?_)
          ·refine go 2 ?_
           refine o_cons (o_yes rfl rfl h176 (o_val rfl (OV.cast (u := .bool false) (v_neq rfl rfl) (congrArg Value.bool (by rw [hs2, if_pos (by omega)]; rfl))) ?_))
           refine go 4 ?_
           refine c_false rfl ?_
           refine go 9 ?_
           refine sx_drop ?_
           refine sx_drop ?_
           exact q_next2 (i + 1) (_) ⟨by omega, hJ.trans j123⟩ (by omega) rfl sb rfl
          ·refine go 7 ?_
           refine c_false rfl ?_
           refine go 9 ?_
           refine sx_drop ?_
           refine sx_drop ?_
           exact q_next2 (i + 1) (_) ⟨by omega, hJ.trans j123⟩ (by omega) rfl sb rfl
  ·obtain rfl : i = curL.length := (show i = curL.length by have hl5 : curL.length = 5 := rfl; omega)
   rw [List.take_length]
   refine go 11 ?_
   refine o_callV (lifeValue _ p q hq1 s ((a % 40000 : Nat) : Int)) rfl rfl ?_
   refine go 4 ?_
   refine o_alloc he rfl (fun g19 => ?_)
   refine go 1 ?_
   refine o_stw _ he rfl rfl rfl rfl rfl rfl ?_
   refine go 8 ?_
   refine o_callV (lifeValue_y _ p q hq1 sDays ((a % 40000 : Nat) : Int) (cur_days (p := p) (d := 0)).1 (by omega)) rfl rfl ?_
   refine go 4 ?_
   refine o_alloc he rfl (fun g21 => ?_)
   refine go 1 ?_
   refine o_stw _ he rfl rfl rfl rfl rfl rfl ?_
   refine go 8 ?_
   refine o_callV (lifeValue_y _ p q hq1 sAge ((a % 40000 : Nat) : Int) (cur_days (p := p) (d := 0)).2.2.1 (by omega)) rfl rfl ?_
   refine go 4 ?_
   refine o_alloc he rfl (fun g23 => ?_)
   refine go 1 ?_
   refine o_stw _ he rfl rfl rfl rfl rfl rfl ?_
   refine go 9 ?_
   refine o_yes rfl rfl rfl (o_callV (lifeIs _ s) rfl rfl ?_)
   refine go 1 ?_
   refine o_cons (o_yes rfl rfl rfl (o_val rfl (OV.cast (u := .bool true) (v_beql he rfl rfl) (congrArg Value.bool (by unfold isCur; simp))) ?_))
   refine go 6 ?_
   refine o_cons (o_yes rfl rfl rfl (o_val rfl (OV.cast (u := .bool true) (v_beql he rfl rfl) (congrArg Value.bool (value_15 (by omega)))) ?_))
   refine go 8 ?_
   refine sxb 221 rfl (fun h221 p221 => ?_) (fun h221 p221 => ?_)
   ·refine go 11 ?_
    refine fin1 rfl rfl ?_
    exact q_vI (by simp only [h37, h221, bS])
   ·refine go 4 ?_
    refine o_cons (o_yes rfl rfl h221 (o_val rfl (OV.cast (u := .bool true) (v_leq rfl rfl) (congrArg Value.bool (decide_eq_true (by rw [cur_days.2.1, cur_days.2.2.2]; exact days_age (by omega))))) ?_))
    refine go 6 ?_
    refine fin1 rfl rfl ?_
    exact q_vI (by simp only [h37, h221, bS])

end Go.Proofs.YthcefohbbfjjfaaGreat

/- The law LifeValues holds of the given program, for every input. No condition. -/
namespace Go.Proofs.YthcefohbbfjjfaaGreat
open Go Go.Sx
set_option linter.all false
theorem T.cel_32 : Tryz.prog.cellsOf 32 = 2 := by kernel_rfl
theorem T.cel_47 : Tryz.prog.cellsOf 47 = 6 := by kernel_rfl
theorem T.cel_49 : Tryz.prog.cellsOf 49 = 14 := by kernel_rfl
theorem T.cel_87 : Tryz.prog.cellsOf 87 = 2 := by kernel_rfl
instance T.fds_32 : Has (fieldsK Tryz.prog 32) [(3, 0, 1), (3, 1, 1)] := ⟨by kernel_rfl⟩
instance T.fds_47 : Has (fieldsK Tryz.prog 47) [(32, 0, 2), (32, 2, 2), (32, 4, 2)] := ⟨by kernel_rfl⟩
instance T.fds_49 : Has (fieldsK Tryz.prog 49) [(9, 0, 1), (9, 1, 1), (9, 2, 1), (9, 3, 1), (3, 4, 1), (3, 5, 1), (4, 6, 1), (45, 7, 1), (47, 8, 6)] := ⟨by kernel_rfl⟩
instance T.fds_87 : Has (fieldsK Tryz.prog 87) [(9, 0, 1), (9, 1, 1)] := ⟨by kernel_rfl⟩
namespace lawLifeValues
open Go.ChangeShapes Go.WideShapes Go.ChangeAt Go.RowKit Go.ChangeMaps Go.MapKept
theorem own : ownKnob Tryz.prog.godebug = none := by kernel_rfl
set_option maxRecDepth 100000 in
theorem lifted (os : Os) (started : os.Started) (H : Type) (enc : TypeId × Value → H) :
    ReturnsInHanded {} Tryz.checked os 5 .any (Rows.lifeValuesSpec.pre6 enc Tryz.prog Tryz.f5 Rows.lifeValuesRow.domain false) (Rows.lifeValuesSpec.post enc Tryz.prog Tryz.f5 false true false false) := by
  refine returnsInHanded_of_change (C := Tryz.checked) own started (by kernel_rfl) Tryz.func5
    (ChangeSpec.witness6 (enc := enc) (C := Tryz.checked) false ⟨#[], #[.agg #[.string ⟨#[]⟩, .string ⟨#[]⟩, .string ⟨#[]⟩, .string ⟨#[]⟩, .int .i64 0, .int .i64 0, .bool false, .slice none 0 0, .int .i64 0, .int .i64 0, .int .i64 0, .int .i64 0, .int .i64 0, .int .i64 0], .string ⟨#[]⟩, .int .u16 0], []⟩ 8 (by kernel_rfl) (by kernel_rfl) (by kernel_rfl) (by kernel_rfl)) ?_
  intro W base args ds gs before hval0 hW hcnd _
  have hval : ∀ (j : Nat) t v, Tryz.f5.params[j]? = some t → args[j]? = some v → Value.okWide Tryz.prog W .any base t v := hval0
  have hW' := hW
  obtain ⟨p, q, hA0, hV, rfl, hfz, hnd⟩ := hW
  have hA : DataW.TrodAll enc Tryz.prog W 0 (fun _ => true) true Tryz.f5.params.toList args.toList ds p := hA0
  rw [Tryz.params5] at hA hval
  obtain ⟨v0, vs0, d0, ds0, p0, q0, hargs, rfl, rfl, h0, r0⟩ := trodAll_cons hA
  obtain ⟨v1, vs1, d1, ds1, p1, q1, rfl, rfl, rfl, h1, r1⟩ := trodAll_cons r0
  obtain ⟨v2, vs2, d2, ds2, p2, q2, rfl, rfl, rfl, h2, r2⟩ := trodAll_cons r1
  obtain ⟨rfl, rfl, rfl⟩ := trodAll_nil r2
  obtain rfl : args = #[v0, v1, v2] := by cases args; simp_all
  obtain ⟨rfl, rfl⟩ := trodVars_none hV
  clear hA0 hval0
  obtain ⟨cs0, rfl, hz0⟩ := okWide_agg T.fds_49.eq (hval 0 49 v0 rfl rfl)
  obtain ⟨fu0, hf0⟩ := h0
  obtain ⟨x0, ⟨q0, e0, R0⟩, G0⟩ := (opens_part T.fds_49.eq T.cel_49 (opens_string T.und_9.eq) (opens_int T.und_3.eq) (opens_bool T.und_4.eq) (opens_slice T.und_45.eq T.cel_87 rfl (opens_prop T.fds_87.eq T.cel_87 (opens_string T.und_9.eq))) (opens_life T.fds_47.eq T.cel_47 (opens_ivl T.fds_32.eq T.cel_32 (opens_int T.und_3.eq)))) enc W 0 _ true fu0 _ _ hf0
  obtain rfl : cs0 = (x0.cells q0).toArray := Array.toList_inj.1 e0
  obtain ⟨a1, rfl, rfl, rfl, w1⟩ := open_string T.und_9.eq (hval 1 9 v1 rfl rfl) h1
  obtain ⟨a2, rfl, rfl, rfl, w2⟩ := open_int T.und_62.eq (hval 2 62 v2 rfl rfl) h2
  exact law_calls (s := Rows.lifeValuesSpec) Tryz.call5 (lawLValues (Iw W) x0 q0 R0 G0 a1 w1 a2 w2) hW' (by kernel_rfl) (by kernel_rfl) rfl T.und_4.eq rfl rfl
theorem over : Rows.lifeValuesRow.holds Tryz.pinned (OpenSpec.ofChange Rows.lifeValuesSpec) :=
  OpenClaim.holds_of_wide 5 Tryz.f5 rfl rfl rfl rfl rfl rfl rfl ⟨rfl, rfl, rfl, rfl, rfl⟩ rfl rfl rfl rfl rfl (by kernel_rfl) Tryz.func5 (by kernel_rfl)
    (of_decide_eq_true (by kernel_rfl)) (by unfold Func.isWrapper; first | (rw [if_pos (by decide +kernel)]; kernel_rfl) | (rw [if_neg (by decide +kernel)]; exact ⟨rfl, rfl⟩))
    (fun os started H enc _ => lifted os started H enc)
/-- the statement -/
theorem proved : Rows.LifeValuesSaid := over
end lawLifeValues
end Go.Proofs.YthcefohbbfjjfaaGreat

