/- The library of a symbolic run and the walks: merged. -/
import Derived.Test.YthcefohbbfjjfaaGreatZLme
/- Walks, printed by a program out of the code of the functions: each theorem is a contract of one function. -/
namespace Go.Proofs.YthcefohbbfjjfaaGreat
open Go Go.Sx
set_option linter.all false
set_option maxRecDepth 20000
set_option maxHeartbeats 4000000
theorem r10Find (I : IMap) (v : Value) (l : List Part) (hv : RdS I v l) (s : ByteArray) :
    FnE Tryz.prog 178 #[.agg #[v], .string s] I (PartIs I (findP l s)) := by
 have hv0 := hv
 obtain ⟨A, c0, rfl, hA, hc, hm⟩ := hv
 refine enter Tryz.func178 Tryz.call178 rfl Tryz.ntmps178 rfl (fun w0 => ?_)
 refine go 3 ?_
 refine o_box _ rfl rfl rfl (fun g2 => ?_)
 refine go 1 ?_
 refine o_alloc he rfl (fun g4 => ?_)
 refine go 8 ?_
 refine o_callV (ref10At _ _ l hv0 s) rfl rfl ?_
 refine go 10 ?_
 refine cb rfl (fun h11 p11 => ?_) (fun h11 p11 => ?_)
 ·refine go 3 ?_
  refine o_val rfl (v_build (pl := [(0, 1), (1, 1), (2, 1), (3, 1), (4, 1), (5, 1), (6, 1), (7, 1), (8, 6)]) he he rfl rfl) ?_
  refine go 1 ?_
  refine o_stw _ he rfl rfl rfl rfl rfl rfl ?_
  refine go 5 ?_
  refine fin2 rfl ⟨_, _, _, rfl, m0, .inr ⟨_, he, rfl, rfl⟩⟩ rfl ?_
  exact q_e (PartIs.none (((idxF_find (fun p : Part => decide (p.name = s)) l).resolve_right (by rintro ⟨k, hk, e, _⟩; omega)).2))
 ·refine go 7 ?_
  obtain ⟨k, hk, ek, hF⟩ := (idxF_find (fun p : Part => decide (p.name = s)) l).resolve_left (fun h => by omega)
  have hF : findP l s = some l[k] := hF
  obtain ⟨b16, o16, w16, e16, c16, r16⟩ := RdA.at_ hA (i := k) hk
  obtain ⟨q16, rfl, B16, d16, rfl, hB16, hd16, hm16⟩ := r16
  refine o_v rfl (v_idx he rfl rfl e16 (k) ek hk) ?_
  refine o_v rfl (v_ldIa he rfl c16 rfl) ?_
  refine go 1 ?_
  refine o_stw _ he rfl rfl rfl rfl rfl rfl ?_
  refine go 4 ?_
  refine fin2 rfl ⟨_, _, _, rfl, m0, .inr ⟨_, he, rfl, rfl⟩⟩ rfl ?_
  exact q_e (PartIs.of hF ⟨_, rfl, B16, d16, rfl, hB16, hd16, hm16⟩)

theorem r10way (I : IMap) (v : Value) (l : List Part) (hv : RdS I v l) (hl : l.length ≤ 1000) (s : ByteArray) :
    FnI Tryz.prog 139 #[.agg #[v], .string s] I (fun u J => ∃ w b, u = .tuple #[w, .bool b] ∧ RdS J w (wayL l (l.length + 1) s)) := by
 have hv0 := hv
 obtain ⟨A, c0, rfl, hA, hc, hm⟩ := hv
 refine enter Tryz.func139 Tryz.call139 rfl Tryz.ntmps139 rfl (fun w0 => ?_)
 refine go 3 ?_
 refine o_box _ rfl rfl rfl (fun g2 => ?_)
 refine go 6 ?_
 refine sx_nilrow 9 1 ?_
 refine go 5 ?_
 refine c_loop5 (s) ([]) (none) ((0 : Nat)) ([]) (fun n out A1 k1 xs => I)
  (fun n out A1 k1 xs => [(1, .string n), (2, .pointer (some ⟨g2, 0, none⟩)), (6, .slice A1 out.length k1)])
  (fun n out A1 k1 xs => [.row (.slice A1 out.length k1) 9 1 out.length xs, .blk g2 39 [.slice A l.length c0]])
  (fun n out A1 k1 xs => out.length ≤ l.length + 1 ∧ Flat I xs out ∧ out ++ wayL l (l.length + 1 - out.length) n = wayL l (l.length + 1) s)
  (fun n out A1 k1 xs => l.length + 1 - out.length) ⟨Nat.zero_le _, .nil, rfl⟩ rfl sb rfl ?_
 intro n out A1 k1 xs ⟨ho, hF, hq⟩
 refine go 11 ?_
 refine cb rfl (fun h14 p14 => ?_) (fun h14 p14 => ?_)
 ·have hot : ¬ l.length + 1 ≤ out.length := by omega
  refine go 8 ?_
  refine o_callE (r10Find _ _ l hv0 n) rfl rfl (fun v18 q18 => ?_)
  obtain ⟨vs18, rfl, s18, rfl, hs18⟩ := q18
  refine go 4 ?_
  refine o_alloc he rfl (fun g7 => ?_)
  refine go 1 ?_
  refine o_stw _ he rfl rfl rfl rfl rfl (Enc.one (α := Part) (I := I) (x := ((findP l n).getD zPart)) ⟨s18, rfl, hs18⟩) ?_
  refine go 10 ?_
  refine cb rfl (fun h22 p22 => ?_) (fun h22 p22 => ?_)
  ·refine go 13 ?_
   refine fin2 rfl rfl rfl ?_
   refine sx_drop ?_
   refine bring1 ?_
   refine sx_drop ?_
   refine sx_pubrow (l := out) rfl rfl hF (fun I9 j9 R9 => ?_)
   exact q_i ⟨_, _, rfl, by rw [way_none hot (by simpa using h22) hq]; exact R9⟩
  ·have hfs : (findP l n).isSome = true := by simpa using h22
   refine go 7 ?_
   refine o_buildSlice he he rfl rfl rfl rfl rfl rfl rfl (fun v26 => ?_)
   refine go 1 ?_
   refine bring2 ?_
   refine o_appendO he he rfl rfl rfl rfl rfl (by omega) (by omega) rfl (fun v27 => ?_)
   refine sx_rowslice (fun A27 c27 hv27 => ?_)
   subst hv27
   refine go 11 ?_
   refine cb rfl (fun h30 p30 => ?_) (fun h30 p30 => ?_)
   ·refine go 13 ?_
    refine fin2 rfl rfl rfl ?_
    refine bring1 ?_
    refine sx_drop ?_
    refine bring1 ?_
    refine sx_drop ?_
    refine bring1 ?_
    refine sx_drop ?_
    refine sx_pubrow (l := out ++ [n]) rfl (by simp) (hF.append (.one rfl)) (fun I9 j9 R9 => ?_)
    exact q_i ⟨_, _, rfl, by rw [way_top hot hfs p30 hq]; exact R9⟩
   ·refine go 9 ?_
    refine bring1 ?_
    refine sx_drop ?_
    refine bring1 ?_
    refine sx_drop ?_
    exact q_next5 (upP l n) (out ++ [n]) (A27) (c27) (_) ⟨by simp; omega, hF.append (.one rfl), way_next (by omega) hfs p30 hq⟩ (by simp; omega) rfl ⟨rfl, rfl, congrArg (fun z : Nat => some (Value.slice A27 z c27)) (by simp), trivial⟩ (by rw [List.length_append]; rfl)
 ·refine go 13 ?_
  refine fin2 rfl rfl rfl ?_
  refine bring1 ?_
  refine sx_drop ?_
  refine sx_pubrow (l := out) rfl rfl hF (fun I9 j9 R9 => ?_)
  exact q_i ⟨_, _, rfl, by rw [way_end (by omega) hq]; exact R9⟩

theorem r10in (I : IMap) (v : Value) (l : List ByteArray) (hv : RdS I v l) (s : ByteArray) :
    FnV Tryz.prog 140 #[v, .string s] I (.bool (decide (s ∈ l))) := by
 have hv0 := hv
 obtain ⟨A, c0, rfl, hA, hc, hm⟩ := hv
 refine enter Tryz.func140 Tryz.call140 rfl Tryz.ntmps140 rfl (fun w0 => ?_)
 refine go 12 ?_
 refine c_loop (α := Nat) 0 (fun i => I)
  (fun i => [(0, .slice A l.length c0), (1, .string s), (5, .int .i64 ((i : Nat) : Int))])
  (fun i => [])
  (fun i => i ≤ l.length ∧ s ∉ l.take i)
  (fun i => l.length - i) ⟨Nat.zero_le _, by simp⟩ rfl sb rfl ?_
 intro i ⟨hi, hn⟩
 refine go 9 ?_
 refine cb rfl (fun h9 p9 => ?_) (fun h9 p9 => ?_)
 ·have hlt : i < l.length := by omega
  refine go 8 ?_
  obtain ⟨b14, o14, w14, e14, c14, r14⟩ := RdA.at_ hA (i := i) (by omega)
  obtain rfl := r14
  refine o_v rfl (v_idx he rfl rfl e14 (i) (by omega) (by omega)) ?_
  refine o_v rfl (v_ldI he rfl (c14 0 _ rfl)) ?_
  refine go 4 ?_
  refine cb rfl (fun h17 p17 => ?_) (fun h17 p17 => ?_)
  ·refine go 11 ?_
   refine fin1 rfl rfl ?_
   exact q_v (congrArg Value.bool (decide_eq_true (by rw [← p17]; exact List.getElem_mem hlt)).symm)
  ·refine go 9 ?_
   exact q_next (i + 1) ⟨by omega, fun h => ((tk_mem hlt).1 h).elim hn fun h => p17 h.symm⟩ (by omega) rfl sb rfl
 ·refine go 11 ?_
  refine fin1 rfl rfl ?_
  exact q_v (congrArg Value.bool (decide_eq_false (by rwa [List.take_of_length_le (by omega)] at hn)).symm)

theorem r12in (I : IMap) (v : Value) (l : List ByteArray) (hv : RdS I v l) (s : ByteArray) :
    FnV Tryz.prog 91 #[v, .string s] I (.bool (decide (s ∈ l))) := by
 have hv0 := hv
 obtain ⟨A, c0, rfl, hA, hc, hm⟩ := hv
 refine enter Tryz.func91 Tryz.call91 rfl Tryz.ntmps91 rfl (fun w0 => ?_)
 refine go 12 ?_
 refine c_loop (α := Nat) 0 (fun i => I)
  (fun i => [(0, .slice A l.length c0), (1, .string s), (5, .int .i64 ((i : Nat) : Int))])
  (fun i => [])
  (fun i => i ≤ l.length ∧ s ∉ l.take i)
  (fun i => l.length - i) ⟨Nat.zero_le _, by simp⟩ rfl sb rfl ?_
 intro i ⟨hi, hn⟩
 refine go 9 ?_
 refine cb rfl (fun h9 p9 => ?_) (fun h9 p9 => ?_)
 ·have hlt : i < l.length := by omega
  refine go 8 ?_
  obtain ⟨b14, o14, w14, e14, c14, r14⟩ := RdA.at_ hA (i := i) (by omega)
  obtain rfl := r14
  refine o_v rfl (v_idx he rfl rfl e14 (i) (by omega) (by omega)) ?_
  refine o_v rfl (v_ldI he rfl (c14 0 _ rfl)) ?_
  refine go 4 ?_
  refine cb rfl (fun h17 p17 => ?_) (fun h17 p17 => ?_)
  ·refine go 11 ?_
   refine fin1 rfl rfl ?_
   exact q_v (congrArg Value.bool (decide_eq_true (by rw [← p17]; exact List.getElem_mem hlt)).symm)
  ·refine go 9 ?_
   exact q_next (i + 1) ⟨by omega, fun h => ((tk_mem hlt).1 h).elim hn fun h => p17 h.symm⟩ (by omega) rfl sb rfl
 ·refine go 11 ?_
  refine fin1 rfl rfl ?_
  exact q_v (congrArg Value.bool (decide_eq_false (by rwa [List.take_of_length_le (by omega)] at hn)).symm)

theorem r10put (I : IMap) (v : Value) (l : List ByteArray) (hv : RdS I v l) (hl : l.length ≤ 1000) (s : ByteArray) :
    FnI Tryz.prog 141 #[v, .string s] I (fun u J => ∃ ns, RdS J u ns ∧ ns.length ≤ l.length + 1 ∧ ∀ z, z ∈ ns ↔ z ∈ l ∨ z = s) := by
 have hv0 := hv
 obtain ⟨A, c0, rfl, hA, hc, hm⟩ := hv
 refine enter Tryz.func141 Tryz.call141 rfl Tryz.ntmps141 rfl (fun w0 => ?_)
 refine go 11 ?_
 refine c_cutx (α := Nat) (Ix := (fun k => I)) (Lx := (fun k => [(0, .slice A l.length c0), (1, .string s), (5, .int .i64 ((k : Nat) : Int))])) (Hx := (fun k => [])) (p := (fun k => k ≤ l.length)) ?_ ?_
 ·refine go 1 ?_
  refine c_loop (α := Nat) 0 (fun k => I)
   (fun k => [(0, .slice A l.length c0), (1, .string s), (5, .int .i64 ((k : Nat) : Int))])
   (fun k => [])
   (fun k => k ≤ l.length)
   (fun k => l.length - k) (Nat.zero_le _) rfl sb rfl ?_
  intro k hk
  refine go 8 ?_
  refine sxb 10 rfl (fun h10 p10 => ?_) (fun h10 p10 => ?_)
  ·have hlt : k < l.length := by omega
   refine go 2 ?_
   obtain ⟨b13, o13, w13, e13, c13, r13⟩ := RdA.at_ hA (i := k) (by omega)
   obtain rfl := r13
   refine o_cons (o_yes rfl rfl h10 (o_val rfl (v_idx he rfl rfl e13 (k) (by omega) (by omega)) ?_))
   refine o_cons (o_yes rfl rfl h10 (o_val rfl (v_ldI he rfl (c13 0 _ rfl)) ?_))
   refine go 5 ?_
   refine cb rfl (fun h17 p17 => ?_) (fun h17 p17 => ?_)
   ·refine go 10 ?_
    exact q_next (k + 1) (by omega) (by omega) rfl sb rfl
   ·refine go 5 ?_
    exact q_cutx k hk sb rfl rfl
  ·refine go 9 ?_
   refine c_false rfl ?_
   refine go 5 ?_
   exact q_cutx k hk sb rfl rfl
 ·intro k hk
  refine go 8 ?_
  refine sxb 24 rfl (fun h24 p24 => ?_) (fun h24 p24 => ?_)
  ·have hlt : k < l.length := by omega
   refine go 2 ?_
   obtain ⟨b27, o27, w27, e27, c27, r27⟩ := RdA.at_ hA (i := k) (by omega)
   obtain rfl := r27
   refine o_cons (o_yes rfl rfl h24 (o_val rfl (v_idx he rfl rfl e27 (k) (by omega) (by omega)) ?_))
   refine o_cons (o_yes rfl rfl h24 (o_val rfl (v_ldI he rfl (c27 0 _ rfl)) ?_))
   refine go 5 ?_
   refine cb rfl (fun h31 p31 => ?_) (fun h31 p31 => ?_)
   ·refine go 8 ?_
    refine fin1 rfl rfl ?_
    exact q_i ⟨l, hv0, Nat.le_succ _, fun z => ⟨.inl, fun h => h.elim id fun e => by rw [e, ← p31]; exact List.getElem_mem hlt⟩⟩
   ·refine go 3 ?_
    refine sx_knowI (fun hE6 hf6 => ?_)
    refine d_startH T.mixed ?_
    refine d_tv 1 rfl rfl (by kernel_rfl) rfl .slnil rfl (v_move rfl) ?_
    refine d_tv 2 rfl rfl (by kernel_rfl) rfl .slnil rfl (v_move rfl) ?_
    refine d_tv 3 rfl rfl (by kernel_rfl) rfl .slnil rfl (v_slice_hi he rfl rfl k rfl (by omega)) ?_
    refine d_tv 5 rfl rfl (by kernel_rfl) rfl .slnil rfl (v_move rfl) ?_
    refine d_tv 8 rfl rfl (by kernel_rfl) rfl .slnil rfl (v_move rfl) ?_
    refine d_tv 9 rfl rfl (by kernel_rfl) rfl .slnil rfl (v_move rfl) ?_
    refine d_tv 10 rfl rfl (by kernel_rfl) rfl .slnil rfl (v_slice_lo he rfl rfl k rfl (by omega)) ?_
    refine d_two 0 6 (by kernel_rfl) rfl rfl ?_ ?_
    ·refine o_buildSlice he he rfl rfl rfl rfl rfl rfl rfl (fun v33 => ?_)
     refine d_on (fun _ m => m.keeps (.cons _ .slnil)) ?_
     refine d_two 4 6 (by kernel_rfl) rfl rfl ?_ ?_
     ·refine o_appendR ((hv0.take k (by omega))) rfl he he rfl rfl rfl rfl (by simp; omega) (by simp; omega) rfl (fun v37 x37 f37 => ?_)
      refine d_on (fun _ m => m.keeps (.cons _ .slnil)) ?_
      refine d_one 6 (by kernel_rfl) rfl ?_
      refine o_buildSlice he he rfl rfl rfl rfl rfl rfl rfl (fun v39 => ?_)
      refine d_on (fun _ m => m.keeps (.cons _ (.cons _ .slnil))) ?_
      refine d_one 7 (by kernel_rfl) rfl ?_
      refine bring1 ?_
      refine o_appendO he he rfl rfl rfl rfl rfl (by simp; omega) (by simp; omega) rfl (fun v40 => ?_)
      refine d_on (fun _ m => m.keeps (.cons _ (.cons _ .slnil))) ?_
      refine d_one 11 (by kernel_rfl) rfl ?_
      refine o_appendR ((hv0.drop k (by omega))) rfl he he rfl rfl rfl rfl (by simp; omega) (by simp; omega) rfl (fun v44 x44 f44 => ?_)
      refine sx_pubrow (l := l.take k ++ [s] ++ l.drop k) rfl (by simp <;> omega) ((((Flat.nil.append f37).append (.one rfl)).append f44)) (fun I44 j44 R44 => ?_)
      refine d_on (fun _ m => m.keepsI (.cons _ .slnil) (j44) hE6 hf6) ?_
      refine d_t 12 rfl rfl (by kernel_rfl) rfl (fun _ m => m.keepsI (.cons _ .slnil) (j44) hE6 hf6) (y_v rfl (v_assign rfl)) ?_
      refine d_done (by kernel_rfl) ?_
      refine go 2 ?_
      refine fin1 rfl rfl ?_
      exact q_i ⟨_, R44, by simp; omega, fun z => by rw [List.append_assoc]; exact pt_mem⟩
     ·refine o_buildSlice he he rfl rfl rfl rfl rfl rfl rfl (fun v39 => ?_)
      refine d_on (fun _ m => m.keeps (.cons _ (.cons _ .slnil))) ?_
      refine d_one 4 (by kernel_rfl) rfl ?_
      refine bring1 ?_
      refine o_appendR ((hv0.take k (by omega))) rfl he he rfl rfl rfl rfl (by simp; omega) (by simp; omega) rfl (fun v37 x37 f37 => ?_)
      refine d_on (fun _ m => m.keeps (.cons _ (.cons _ .slnil))) ?_
      refine d_one 7 (by kernel_rfl) rfl ?_
      refine bring1 ?_
      refine bring1 ?_
      refine o_appendO he he rfl rfl rfl rfl rfl (by simp; omega) (by simp; omega) rfl (fun v40 => ?_)
      refine d_on (fun _ m => m.keeps (.cons _ (.cons _ .slnil))) ?_
      refine d_one 11 (by kernel_rfl) rfl ?_
      refine o_appendR ((hv0.drop k (by omega))) rfl he he rfl rfl rfl rfl (by simp; omega) (by simp; omega) rfl (fun v44 x44 f44 => ?_)
      refine sx_pubrow (l := l.take k ++ [s] ++ l.drop k) rfl (by simp <;> omega) ((((Flat.nil.append f37).append (.one rfl)).append f44)) (fun I44 j44 R44 => ?_)
      refine d_on (fun _ m => m.keepsI (.cons _ .slnil) (j44) hE6 hf6) ?_
      refine d_t 12 rfl rfl (by kernel_rfl) rfl (fun _ m => m.keepsI (.cons _ .slnil) (j44) hE6 hf6) (y_v rfl (v_assign rfl)) ?_
      refine d_done (by kernel_rfl) ?_
      refine go 2 ?_
      refine fin1 rfl rfl ?_
      exact q_i ⟨_, R44, by simp; omega, fun z => by rw [List.append_assoc]; exact pt_mem⟩
    ·refine o_buildSlice he he rfl rfl rfl rfl rfl rfl rfl (fun v39 => ?_)
     refine d_on (fun _ m => m.keeps (.cons _ .slnil)) ?_
     refine d_one 0 (by kernel_rfl) rfl ?_
     refine o_buildSlice he he rfl rfl rfl rfl rfl rfl rfl (fun v33 => ?_)
     refine d_on (fun _ m => m.keeps (.cons _ (.cons _ .slnil))) ?_
     refine d_one 4 (by kernel_rfl) rfl ?_
     refine o_appendR ((hv0.take k (by omega))) rfl he he rfl rfl rfl rfl (by simp; omega) (by simp; omega) rfl (fun v37 x37 f37 => ?_)
     refine d_on (fun _ m => m.keeps (.cons _ (.cons _ .slnil))) ?_
     refine d_one 7 (by kernel_rfl) rfl ?_
     refine bring1 ?_
     refine bring1 ?_
     refine o_appendO he he rfl rfl rfl rfl rfl (by simp; omega) (by simp; omega) rfl (fun v40 => ?_)
     refine d_on (fun _ m => m.keeps (.cons _ (.cons _ .slnil))) ?_
     refine d_one 11 (by kernel_rfl) rfl ?_
     refine o_appendR ((hv0.drop k (by omega))) rfl he he rfl rfl rfl rfl (by simp; omega) (by simp; omega) rfl (fun v44 x44 f44 => ?_)
     refine sx_pubrow (l := l.take k ++ [s] ++ l.drop k) rfl (by simp <;> omega) ((((Flat.nil.append f37).append (.one rfl)).append f44)) (fun I44 j44 R44 => ?_)
     refine d_on (fun _ m => m.keepsI (.cons _ .slnil) (j44) hE6 hf6) ?_
     refine d_t 12 rfl rfl (by kernel_rfl) rfl (fun _ m => m.keepsI (.cons _ .slnil) (j44) hE6 hf6) (y_v rfl (v_assign rfl)) ?_
     refine d_done (by kernel_rfl) ?_
     refine go 2 ?_
     refine fin1 rfl rfl ?_
     exact q_i ⟨_, R44, by simp; omega, fun z => by rw [List.append_assoc]; exact pt_mem⟩
  ·refine go 9 ?_
   refine c_false rfl ?_
   refine go 3 ?_
   refine sx_knowI (fun hE6 hf6 => ?_)
   refine d_startH T.mixed ?_
   refine d_tv 1 rfl rfl (by kernel_rfl) rfl .slnil rfl (v_move rfl) ?_
   refine d_tv 2 rfl rfl (by kernel_rfl) rfl .slnil rfl (v_move rfl) ?_
   refine d_tv 3 rfl rfl (by kernel_rfl) rfl .slnil rfl (v_slice_hi he rfl rfl k rfl (by omega)) ?_
   refine d_tv 5 rfl rfl (by kernel_rfl) rfl .slnil rfl (v_move rfl) ?_
   refine d_tv 8 rfl rfl (by kernel_rfl) rfl .slnil rfl (v_move rfl) ?_
   refine d_tv 9 rfl rfl (by kernel_rfl) rfl .slnil rfl (v_move rfl) ?_
   refine d_tv 10 rfl rfl (by kernel_rfl) rfl .slnil rfl (v_slice_lo he rfl rfl k rfl (by omega)) ?_
   refine d_two 0 6 (by kernel_rfl) rfl rfl ?_ ?_
   ·refine o_buildSlice he he rfl rfl rfl rfl rfl rfl rfl (fun v33 => ?_)
    refine d_on (fun _ m => m.keeps (.cons _ .slnil)) ?_
    refine d_two 4 6 (by kernel_rfl) rfl rfl ?_ ?_
    ·refine o_appendR ((hv0.take k (by omega))) rfl he he rfl rfl rfl rfl (by simp; omega) (by simp; omega) rfl (fun v37 x37 f37 => ?_)
     refine d_on (fun _ m => m.keeps (.cons _ .slnil)) ?_
     refine d_one 6 (by kernel_rfl) rfl ?_
     refine o_buildSlice he he rfl rfl rfl rfl rfl rfl rfl (fun v39 => ?_)
     refine d_on (fun _ m => m.keeps (.cons _ (.cons _ .slnil))) ?_
     refine d_one 7 (by kernel_rfl) rfl ?_
     refine bring1 ?_
     refine o_appendO he he rfl rfl rfl rfl rfl (by simp; omega) (by simp; omega) rfl (fun v40 => ?_)
     refine d_on (fun _ m => m.keeps (.cons _ (.cons _ .slnil))) ?_
     refine d_one 11 (by kernel_rfl) rfl ?_
     refine o_appendR ((hv0.drop k (by omega))) rfl he he rfl rfl rfl rfl (by simp; omega) (by simp; omega) rfl (fun v44 x44 f44 => ?_)
     refine sx_pubrow (l := l.take k ++ [s] ++ l.drop k) rfl (by simp <;> omega) ((((Flat.nil.append f37).append (.one rfl)).append f44)) (fun I44 j44 R44 => ?_)
     refine d_on (fun _ m => m.keepsI (.cons _ .slnil) (j44) hE6 hf6) ?_
     refine d_t 12 rfl rfl (by kernel_rfl) rfl (fun _ m => m.keepsI (.cons _ .slnil) (j44) hE6 hf6) (y_v rfl (v_assign rfl)) ?_
     refine d_done (by kernel_rfl) ?_
     refine go 2 ?_
     refine fin1 rfl rfl ?_
     exact q_i ⟨_, R44, by simp; omega, fun z => by rw [List.append_assoc]; exact pt_mem⟩
    ·refine o_buildSlice he he rfl rfl rfl rfl rfl rfl rfl (fun v39 => ?_)
     refine d_on (fun _ m => m.keeps (.cons _ (.cons _ .slnil))) ?_
     refine d_one 4 (by kernel_rfl) rfl ?_
     refine bring1 ?_
     refine o_appendR ((hv0.take k (by omega))) rfl he he rfl rfl rfl rfl (by simp; omega) (by simp; omega) rfl (fun v37 x37 f37 => ?_)
     refine d_on (fun _ m => m.keeps (.cons _ (.cons _ .slnil))) ?_
     refine d_one 7 (by kernel_rfl) rfl ?_
     refine bring1 ?_
     refine bring1 ?_
     refine o_appendO he he rfl rfl rfl rfl rfl (by simp; omega) (by simp; omega) rfl (fun v40 => ?_)
     refine d_on (fun _ m => m.keeps (.cons _ (.cons _ .slnil))) ?_
     refine d_one 11 (by kernel_rfl) rfl ?_
     refine o_appendR ((hv0.drop k (by omega))) rfl he he rfl rfl rfl rfl (by simp; omega) (by simp; omega) rfl (fun v44 x44 f44 => ?_)
     refine sx_pubrow (l := l.take k ++ [s] ++ l.drop k) rfl (by simp <;> omega) ((((Flat.nil.append f37).append (.one rfl)).append f44)) (fun I44 j44 R44 => ?_)
     refine d_on (fun _ m => m.keepsI (.cons _ .slnil) (j44) hE6 hf6) ?_
     refine d_t 12 rfl rfl (by kernel_rfl) rfl (fun _ m => m.keepsI (.cons _ .slnil) (j44) hE6 hf6) (y_v rfl (v_assign rfl)) ?_
     refine d_done (by kernel_rfl) ?_
     refine go 2 ?_
     refine fin1 rfl rfl ?_
     exact q_i ⟨_, R44, by simp; omega, fun z => by rw [List.append_assoc]; exact pt_mem⟩
   ·refine o_buildSlice he he rfl rfl rfl rfl rfl rfl rfl (fun v39 => ?_)
    refine d_on (fun _ m => m.keeps (.cons _ .slnil)) ?_
    refine d_one 0 (by kernel_rfl) rfl ?_
    refine o_buildSlice he he rfl rfl rfl rfl rfl rfl rfl (fun v33 => ?_)
    refine d_on (fun _ m => m.keeps (.cons _ (.cons _ .slnil))) ?_
    refine d_one 4 (by kernel_rfl) rfl ?_
    refine o_appendR ((hv0.take k (by omega))) rfl he he rfl rfl rfl rfl (by simp; omega) (by simp; omega) rfl (fun v37 x37 f37 => ?_)
    refine d_on (fun _ m => m.keeps (.cons _ (.cons _ .slnil))) ?_
    refine d_one 7 (by kernel_rfl) rfl ?_
    refine bring1 ?_
    refine bring1 ?_
    refine o_appendO he he rfl rfl rfl rfl rfl (by simp; omega) (by simp; omega) rfl (fun v40 => ?_)
    refine d_on (fun _ m => m.keeps (.cons _ (.cons _ .slnil))) ?_
    refine d_one 11 (by kernel_rfl) rfl ?_
    refine o_appendR ((hv0.drop k (by omega))) rfl he he rfl rfl rfl rfl (by simp; omega) (by simp; omega) rfl (fun v44 x44 f44 => ?_)
    refine sx_pubrow (l := l.take k ++ [s] ++ l.drop k) rfl (by simp <;> omega) ((((Flat.nil.append f37).append (.one rfl)).append f44)) (fun I44 j44 R44 => ?_)
    refine d_on (fun _ m => m.keepsI (.cons _ .slnil) (j44) hE6 hf6) ?_
    refine d_t 12 rfl rfl (by kernel_rfl) rfl (fun _ m => m.keepsI (.cons _ .slnil) (j44) hE6 hf6) (y_v rfl (v_assign rfl)) ?_
    refine d_done (by kernel_rfl) ?_
    refine go 2 ?_
    refine fin1 rfl rfl ?_
    exact q_i ⟨_, R44, by simp; omega, fun z => by rw [List.append_assoc]; exact pt_mem⟩

theorem r10Inside (I : IMap) (v : Value) (l : List Part) (hv : RdS I v l) (hl : l.length ≤ 999) (s : ByteArray) :
    FnI Tryz.prog 90 #[.agg #[v], .string s] I (fun u J => ∃ ns, RdS J u ns ∧ ∀ z, z ∈ ns ↔ InsP l s z) := by
 have hv0 := hv
 obtain ⟨A, c0, rfl, hA, hc, hm⟩ := hv
 refine enter Tryz.func90 Tryz.call90 rfl Tryz.ntmps90 rfl (fun w0 => ?_)
 refine go 3 ?_
 refine o_box _ rfl rfl rfl (fun g2 => ?_)
 refine go 14 ?_
 refine o_callV (ref10At _ _ l hv0 s) rfl rfl ?_
 refine go 3 ?_
 refine cb rfl (fun h12 p12 => ?_) (fun h12 p12 => ?_)
 ·refine go 7 ?_
  refine fin1 rfl rfl ?_
  exact q_i ⟨[], RdS.nil', fun z => ⟨fun h => (by cases h), fun h => absurd h (not_ins (((idxF_find (fun p : Part => decide (p.name = s)) l).resolve_right (by rintro ⟨k, hk, e, _⟩; omega)).2) z)⟩⟩
 ·have hsome : (findP l s).isSome = true := by
    obtain ⟨k, hk, ek, hF⟩ := (idxF_find (fun p : Part => decide (p.name = s)) l).resolve_left (fun h => by omega)
    rw [show findP l s = some l[k] from hF]; rfl
  refine go 9 ?_
  refine c_loop4 ((0 : Nat)) (_) ([]) (I) (fun i v5 ns J => J)
   (fun i v5 ns J => [(1, .string s), (2, .pointer (some ⟨g2, 0, none⟩)), (5, v5), (6, .int .i64 ((i : Nat) : Int))])
   (fun i v5 ns J => [.blk g2 39 [.slice A l.length c0]])
   (fun i v5 ns J => i ≤ l.length ∧ ILe I J ∧ RdS J v5 ns ∧ ns.length ≤ i ∧ ∀ z, z ∈ ns ↔ ∃ p ∈ l.take i, p.name = z ∧ insR l s p)
   (fun i v5 ns J => l.length - i) ⟨Nat.zero_le _, ILe.refl _, RdS.nil', Nat.le_refl _, fun z => by simp⟩ rfl sb rfl ?_
  intro i v5 ns J ⟨hi, hJ, hv5, hnl, hns⟩
  have hA := hA.le hJ
  refine go 10 ?_
  refine cb rfl (fun h17 p17 => ?_) (fun h17 p17 => ?_)
  ·have hlt : i < l.length := by omega
   refine go 5 ?_
   refine sx_knowI (fun hE7 hf7 => ?_)
   refine d_startH T.mixed ?_
   refine d_tv 0 rfl rfl (by kernel_rfl) rfl (.refl _) rfl (v_ldw m0 he rfl rfl) ?_
   refine d_tv 1 rfl rfl (by kernel_rfl) rfl (.refl _) rfl (v_fieldAddr he rfl) ?_
   refine d_tv 2 rfl rfl (by kernel_rfl) rfl (.refl _) rfl (v_ld m0 he rfl rfl) ?_
   refine d_tv 3 rfl rfl (by kernel_rfl) rfl (.refl _) rfl (v_move rfl) ?_
   obtain ⟨b25, o25, w25, e25, c25, r25⟩ := RdA.at_ hA (i := i) hlt
   obtain ⟨q25, rfl, B25, d25, rfl, hB25, hd25, hm25⟩ := r25
   refine d_tv 4 rfl rfl (by kernel_rfl) rfl (.refl _) rfl (v_idx he rfl rfl e25 (i) (by omega) hlt) ?_
   refine d_tv 5 rfl rfl (by kernel_rfl) rfl (.refl _) rfl (v_fieldAddr he rfl) ?_
   refine d_tv 6 rfl rfl (by kernel_rfl) rfl (.refl _) rfl (v_ldI he rfl (c25 0 _ rfl)) ?_
   refine d_one 7 (by kernel_rfl) rfl ?_
   refine o_call (r10way _ _ l (hv0.le hJ) (by omega) l[i].name) rfl rfl (fun v28 I28 j28 q28 => ?_)
   have hA := hA.le j28
   have hv5 := hv5.le j28
   obtain ⟨w28, b28, rfl, hw28⟩ := q28
   refine d_on (fun _ m => m.keepsI (.refl _) (j28) hE7 hf7) ?_
   refine d_t 8 rfl rfl (by kernel_rfl) rfl (fun _ m => m.keepsI (.refl _) (j28) hE7 hf7) (y_v rfl (v_move rfl)) ?_
   refine d_t 9 rfl rfl (by kernel_rfl) rfl (fun _ m => m.keepsI (.refl _) (j28) hE7 hf7) (y_v rfl (v_extract rfl rfl)) ?_
   refine d_t 10 rfl rfl (by kernel_rfl) rfl (fun _ m => m.keepsI (.refl _) (j28) hE7 hf7) (y_v rfl (v_extract rfl rfl)) ?_
   refine d_t 11 rfl rfl (by kernel_rfl) rfl (fun _ m => m.keepsI (.refl _) (j28) hE7 hf7) (y_v rfl (v_assign rfl)) ?_
   refine d_t 12 rfl rfl (by kernel_rfl) rfl (fun _ m => m.keepsI (.refl _) (j28) hE7 hf7) (y_v rfl (v_assign rfl)) ?_
   refine d_done (by kernel_rfl) ?_
   refine go 6 ?_
   obtain ⟨b34, o34, w34, e34, c34, r34⟩ := RdA.at_ hA (i := i) hlt
   obtain ⟨q34, rfl, B34, d34, rfl, hB34, hd34, hm34⟩ := r34
   refine o_v rfl (v_idx he rfl rfl e34 (i) (by omega) hlt) ?_
   refine go 1 ?_
   refine o_v rfl (v_ldI he rfl (c34 0 _ rfl)) ?_
   refine go 3 ?_
   refine sxb 39 rfl (fun h39 p39 => ?_) (fun h39 p39 => ?_)
   ·refine go 3 ?_
    refine o_yes rfl rfl h39 (o_callV (r10in _ w28 _ hw28 s) rfl rfl ?_)
    refine go 3 ?_
    refine cb rfl (fun h43 p43 => ?_) (fun h43 p43 => ?_)
    ·refine go 5 ?_
     obtain ⟨b48, o48, w48, e48, c48, r48⟩ := RdA.at_ hA (i := i) hlt
     obtain ⟨q48, rfl, B48, d48, rfl, hB48, hd48, hm48⟩ := r48
     refine o_v rfl (v_idx he rfl rfl e48 (i) (by omega) hlt) ?_
     refine go 1 ?_
     refine o_v rfl (v_ldI he rfl (c48 0 _ rfl)) ?_
     refine go 1 ?_
     refine o_call (r10put _ v5 ns hv5 (by omega) l[i].name) rfl rfl (fun v51 I51 j51 q51 => ?_)
     obtain ⟨ns2, q51, hl2, hns2⟩ := q51
     refine go 10 ?_
     exact q_next4 (i + 1) (_) (ns2) (_) ⟨by omega, hJ.trans (j28.trans j51), q51, by omega, insR_add hlt hns hns2 ⟨p39, p43⟩⟩ (by omega) rfl sb rfl
    ·refine go 9 ?_
     exact q_next4 (i + 1) (_) (ns) (_) ⟨by omega, hJ.trans j28, hv5, by omega, insR_skip hlt hns (fun h => p43 h.2)⟩ (by omega) rfl sb rfl
   ·refine go 6 ?_
    refine c_false rfl ?_
    refine go 9 ?_
    exact q_next4 (i + 1) (_) (ns) (I28) ⟨by omega, hJ.trans j28, hv5, by omega, insR_skip hlt hns (fun h => h.1 p39)⟩ (by omega) rfl sb rfl
  ·obtain rfl : i = l.length := by omega
   refine go 12 ?_
   refine fin1 rfl rfl ?_
   exact q_i ⟨ns, hv5, insR_all hsome hns⟩

theorem r12Valid (I : IMap) (vc : Value) (c : List Kind) (hvc : RdS I vc c) (hsc : SmC c) (f : Fm) (sf : Value) (hf : FmRd I [ci f.op, ci f.n, sf] f)  :
    FnV Tryz.prog 44 #[.agg #[vc, ci f.op, ci f.n, sf]] I (.bool (validC c && validFm f)) := by
 refine enter Tryz.func44 Tryz.call44 rfl Tryz.ntmps44 rfl (fun w0 => ?_)
 refine go 3 ?_
 refine o_box _ rfl rfl rfl (fun g1 => ?_)
 refine go 6 ?_
 refine o_v rfl (v_ldp ([vc]) m0 he rfl rfl rfl) ?_
 refine go 1 ?_
 refine o_callV (refValid _ vc c hvc hsc) rfl rfl ?_
 refine go 1 ?_
 refine sxb 6 rfl (fun h6 p6 => ?_) (fun h6 p6 => ?_)
 ·refine go 1 ?_
  refine o_cons (o_yes rfl rfl h6 (o_val rfl (v_ldp ([ci f.op, ci f.n, sf]) m0 he rfl rfl rfl) ?_))
  refine go 1 ?_
  refine o_yes rfl rfl h6 (o_callV (r07Valid _ f _ hf) rfl rfl ?_)
  refine go 5 ?_
  refine fin1 rfl rfl ?_
  exact q_v (congrArg Value.bool (by rw [valid_same]; simp only [h6, bS]))
 ·refine go 8 ?_
  refine fin1 rfl rfl ?_
  exact q_v (congrArg Value.bool (by rw [valid_same]; simp only [h6, bS]))

theorem r12add (I : IMap) (vc : Value) (f : Fm) (sf : Value) (hf : FmRd I [ci f.op, ci f.n, sf] f) (hvo : vc.oneCell' = true) (lf : Life) (u : Use) :
    FnV Tryz.prog 92 #[.agg #[vc, ci f.op, ci f.n, sf], .agg lf.cells.toArray, .agg u.cells.toArray] I (.agg (addLf (damF f u) u lf).cells.toArray) := by
 refine enter Tryz.func92 Tryz.call92 rfl Tryz.ntmps92 rfl (fun w0 => ?_)
 refine go 3 ?_
 refine o_box _ rfl rfl rfl (fun g3 => ?_)
 refine go 1 ?_
 refine o_box _ rfl rfl rfl (fun g4 => ?_)
 refine go 1 ?_
 refine o_box _ rfl rfl rfl (fun g5 => ?_)
 refine go 1 ?_
 refine o_alloc he rfl (fun g6 => ?_)
 refine go 3 ?_
 refine d_start1 T.mixed ?_
 refine d_tv 0 rfl rfl (by kernel_rfl) rfl (.cons _ (.refl _)) rfl (v_fieldAddr he rfl) ?_
 refine d_tv 1 rfl rfl (by kernel_rfl) rfl (.cons _ (.refl _)) rfl (v_ldp (lf.km.cells) m1 he rfl rfl rfl) ?_
 refine d_tv 2 rfl rfl (by kernel_rfl) rfl (.cons _ (.refl _)) rfl (v_fieldAddr he rfl) ?_
 refine d_tv 3 rfl rfl (by kernel_rfl) rfl (.cons _ (.refl _)) rfl (v_ldp (u.km.cells) m0 he rfl rfl rfl) ?_
 refine d_tv 5 rfl rfl (by kernel_rfl) rfl (.cons _ (.refl _)) rfl (v_fieldAddr he rfl) ?_
 refine d_tv 6 rfl rfl (by kernel_rfl) rfl (.cons _ (.refl _)) rfl (v_ldp (lf.cycles.cells) m1 he rfl rfl rfl) ?_
 refine d_tv 7 rfl rfl (by kernel_rfl) rfl (.cons _ (.refl _)) rfl (v_fieldAddr he rfl) ?_
 refine d_tv 8 rfl rfl (by kernel_rfl) rfl (.cons _ (.refl _)) rfl (v_ldp (u.cycles.cells) m0 he rfl rfl rfl) ?_
 refine d_tv 10 rfl rfl (by kernel_rfl) rfl (.cons _ (.refl _)) rfl (v_fieldAddr he rfl) ?_
 refine d_tv 11 rfl rfl (by kernel_rfl) rfl (.cons _ (.refl _)) rfl (v_ldp (lf.damage.cells) m1 he rfl rfl rfl) ?_
 refine d_tv 12 rfl rfl (by kernel_rfl) rfl (.cons _ (.refl _)) rfl (v_fieldAddr he rfl) ?_
 refine d_tv 13 rfl rfl (by kernel_rfl) rfl (.cons _ (.refl _)) rfl (v_ldp ([ci f.op, ci f.n, sf]) m2 he rfl rfl rfl) ?_
 refine d_tv 14 rfl rfl (by kernel_rfl) rfl (.cons _ (.refl _)) rfl (v_ldw m0 he rfl rfl) ?_
 refine d_one 4 (by kernel_rfl) rfl ?_
 refine o_callV (r04Add _ lf.km u.km) rfl rfl ?_
 refine d_on (fun _ m => m.keeps (.cons _ (.refl _))) ?_
 refine d_one 9 (by kernel_rfl) rfl ?_
 refine o_callV (r04Add _ lf.cycles u.cycles) rfl rfl ?_
 refine d_on (fun _ m => m.keeps (.cons _ (.refl _))) ?_
 refine d_one 15 (by kernel_rfl) rfl ?_
 refine o_callV (r07Damage _ f _ hf u) rfl rfl ?_
 refine d_on (fun _ m => m.keeps (.cons _ (.refl _))) ?_
 refine d_one 16 (by kernel_rfl) rfl ?_
 refine o_callV (r04Add _ lf.damage (damF f u)) rfl rfl ?_
 refine d_on (fun _ m => m.keeps (.cons _ (.refl _))) ?_
 refine d_tv 17 rfl rfl (by kernel_rfl) rfl (.cons _ (.refl _)) rfl (v_build (pl := [(0, 2), (2, 2), (4, 2)]) he he rfl rfl) ?_
 refine d_one 18 (by kernel_rfl) rfl ?_
 refine o_stw _ he rfl rfl rfl rfl rfl rfl ?_
 refine d_on (fun _ m => m.keeps (.cons _ (.refl _))) ?_
 refine d_done (by kernel_rfl) ?_
 refine go 2 ?_
 refine fin1 rfl ⟨_, _, _, rfl, m0, .inr ⟨_, he, rfl, rfl⟩⟩ ?_
 exact q_v rfl

theorem r12Add (I : IMap) (vc : Value) (f : Fm) (sf : Value) (hf : FmRd I [ci f.op, ci f.n, sf] f) (hvo : vc.oneCell' = true) (v : Value) (l : List Part) (hv : RdS I v l) (hl : l.length ≤ 999) (e : Evt) :
    FnI Tryz.prog 48 #[.agg #[vc, ci f.op, ci f.n, sf], .agg #[v], .string e.part, .agg e.use.cells.toArray] I (fun u J => ∃ w, u = .agg #[w] ∧ RdS J w (useL l e (damF f e.use))) := by
 have hv0 := hv
 obtain ⟨A, c0, rfl, hA, hc, hm⟩ := hv
 refine enter Tryz.func48 Tryz.call48 rfl Tryz.ntmps48 rfl (fun w0 => ?_)
 refine go 3 ?_
 refine o_box _ rfl rfl rfl (fun g4 => ?_)
 refine go 1 ?_
 refine o_box _ rfl rfl rfl (fun g5 => ?_)
 refine go 1 ?_
 refine o_box _ rfl rfl rfl (fun g7 => ?_)
 refine go 1 ?_
 refine o_alloc he rfl (fun g8 => ?_)
 refine go 7 ?_
 refine o_call (r10Inside _ _ l hv0 hl e.part) rfl rfl (fun v15 I15 j15 q15 => ?_)
 have hA := hA.le j15
 have hf := hf.le j15
 obtain ⟨ns, q15, hns⟩ := q15
 refine go 6 ?_
 refine o_alloc he rfl (fun g10 => ?_)
 refine go 5 ?_
 refine sx_nilrow 49 14 ?_
 refine go 4 ?_
 refine c_loop4 ((0 : Nat)) (none) ((0 : Nat)) ([]) (fun i A1 k1 xs => I15)
  (fun i A1 k1 xs => [(2, .string e.part), (4, .pointer (some ⟨g4, 0, none⟩)), (5, .pointer (some ⟨g5, 0, none⟩)), (7, .pointer (some ⟨g7, 0, none⟩)), (8, .pointer (some ⟨g8, 0, none⟩)), (9, v15), (10, .pointer (some ⟨g10, 0, none⟩)), (11, .int .i64 ((i : Nat) : Int))])
  (fun i A1 k1 xs => [.row (.slice A1 i k1) 49 14 i xs, .blk g10 39 [.slice A1 i k1], .blk g8 39 [.slice none 0 0], .blk g7 34 e.use.cells, .blk g5 39 [.slice A l.length c0], .blk g4 29 [vc, ci f.op, ci f.n, sf]])
  (fun i A1 k1 xs => i ≤ l.length ∧ Flat I15 xs ((useL l e (damF f e.use)).take i))
  (fun i A1 k1 xs => l.length - i) ⟨Nat.zero_le _, .nil⟩ rfl sb rfl ?_
 intro i A1 k1 xs ⟨hi, hF⟩
 refine go 10 ?_
 refine cb rfl (fun h20 p20 => ?_) (fun h20 p20 => ?_)
 ·have hlt : i < l.length := by omega
  have hltU : i < (useL l e (damF f e.use)).length := by rw [use_len]; exact hlt
  refine go 9 ?_
  obtain ⟨b26, o26, w26, e26, c26, r26⟩ := RdA.at_ hA (i := i) hlt
  obtain ⟨q, rfl, hq⟩ := r26
  refine o_v rfl (v_idx he rfl rfl e26 (i) (by omega) hlt) ?_
  refine o_v rfl (v_ldIa he rfl c26 rfl) ?_
  refine go 1 ?_
  refine o_alloc he rfl (fun g12 => ?_)
  refine go 1 ?_
  refine o_stw _ he rfl rfl rfl rfl rfl (Enc.one (α := Part) (x := l[i]) ⟨q, rfl, hq⟩) ?_
  refine go 3 ?_
  refine c_cutx (α := Part) (Ix := (fun y => I15)) (Lx := (fun y => [(2, .string e.part), (4, .pointer (some ⟨g4, 0, none⟩)), (5, .pointer (some ⟨g5, 0, none⟩)), (7, .pointer (some ⟨g7, 0, none⟩)), (8, .pointer (some ⟨g8, 0, none⟩)), (9, v15), (10, .pointer (some ⟨g10, 0, none⟩)), (11, .int .i64 ((i : Nat) : Int)), (12, .pointer (some ⟨g12, 0, none⟩))])) (Hx := (fun y => [.blk g12 49 (y.cells q), .row (.slice A1 i k1) 49 14 i xs, .blk g10 39 [.slice A1 i k1], .blk g8 39 [.slice none 0 0], .blk g7 34 e.use.cells, .blk g5 39 [.slice A l.length c0], .blk g4 29 [vc, ci f.op, ci f.n, sf]])) (p := (fun y => (useL l e (damF f e.use))[i]'hltU = y ∧ RdS I15 q y.props)) ?_ ?_
  ·refine go 7 ?_
   refine sxb 32 rfl (fun h32 p32 => ?_) (fun h32 p32 => ?_)
   ·refine go 7 ?_
    refine c_true rfl ?_
    refine go 3 ?_
    refine o_v rfl (v_ldp (l[i].life.cells) m0 he rfl rfl rfl) ?_
    refine go 2 ?_
    refine o_callV (r12add _ vc f sf hf hvo l[i].life e.use) rfl rfl ?_
    refine go 2 ?_
    refine o_st _ _ he rfl rfl rfl rfl rfl rfl rfl ?_
    refine go 2 ?_
    exact q_cutx (addLife (damF f e.use) e.use l[i]) ⟨useR_yes hlt hns (by simp only [h20, h32, bS]), hq⟩ sb rfl rfl
   ·refine go 4 ?_
    refine o_yes rfl rfl h32 (o_callV (r12in _ v15 ns q15 l[i].name) rfl rfl ?_)
    refine go 3 ?_
    refine cb rfl (fun h37 p37 => ?_) (fun h37 p37 => ?_)
    ·refine go 3 ?_
     refine o_v rfl (v_ldp (l[i].life.cells) m0 he rfl rfl rfl) ?_
     refine go 2 ?_
     refine o_callV (r12add _ vc f sf hf hvo l[i].life e.use) rfl rfl ?_
     refine go 2 ?_
     refine o_st _ _ he rfl rfl rfl rfl rfl rfl rfl ?_
     refine go 2 ?_
     exact q_cutx (addLife (damF f e.use) e.use l[i]) ⟨useR_yes hlt hns (by simp only [h20, h32, h37, bS]), hq⟩ sb rfl rfl
    ·refine go 2 ?_
     exact q_cutx l[i] ⟨useR_no hlt hns (by simp only [h20, h32, h37, bS]), hq⟩ sb rfl rfl
  ·intro y ⟨hy, hyq⟩
   refine go 5 ?_
   refine o_buildSlice he he rfl rfl rfl rfl rfl rfl rfl (fun v47 => ?_)
   refine go 1 ?_
   refine bring2 ?_
   refine o_appendO he he rfl rfl (Enc.one (α := Part) (x := y) ⟨q, rfl, hyq⟩) rfl rfl (by omega) (by omega) rfl (fun v48 => ?_)
   refine sx_rowslice (fun A48 c48 hv48 => ?_)
   subst hv48
   refine go 2 ?_
   refine bring3 ?_
   refine o_st1 he rfl rfl rfl rfl ?_
   refine go 9 ?_
   refine bring2 ?_
   refine sx_drop ?_
   refine bring2 ?_
   refine sx_drop ?_
   refine bring5 ?_
   refine bring5 ?_
   refine bring5 ?_
   refine bring5 ?_
   refine bring4 ?_
   refine bring5 ?_
   exact q_next4 (i + 1) (A48) (c48) (_) ⟨by omega, by rw [← take_succ_of hltU, hy]; exact hF.append (.one ⟨_, rfl, hyq⟩)⟩ (by omega) rfl sb rfl
 ·refine go 7 ?_
  have e2 : i = l.length := (by omega)
  subst e2
  rw [List.take_of_length_le (Nat.le_of_eq use_len)] at hF
  refine sx_pubrow (l := (useL l e (damF f e.use))) rfl use_len.symm hF (fun J9 j9 R9 => ?_)
  refine go 2 ?_
  refine bring1 ?_
  refine o_stw _ he rfl rfl rfl rfl rfl rfl ?_
  refine go 3 ?_
  refine fin1 rfl ⟨_, _, _, rfl, m0, .inr ⟨_, he, rfl, rfl⟩⟩ ?_
  exact q_i ⟨_, rfl, R9⟩

theorem r12Run (I : IMap) (vc : Value) (c : List Kind) (hvc : RdS I vc c) (hsc : SmC c) (f : Fm) (sf : Value) (hf : FmRd I [ci f.op, ci f.n, sf] f) (v : Value) (l : List Evt) (hv : RdS I v l) (hl : l.length ≤ 25) (hse : ∀ e ∈ l, SmE e) (day : Int) :
    FnI Tryz.prog 17 #[.agg #[vc, ci f.op, ci f.n, sf], v, .int .i64 (day)] I (fun u J => ∃ w, u = .tuple #[.agg #[w], .int .i64 (runL f c l day).2.1, .int .i64 (runL f c l day).2.2] ∧ RdS J w (runL f c l day).1) := by
 obtain ⟨U, hUe⟩ : ∃ U, sortF (l.filter fun e => !decide (e.day > day)) = U := ⟨_, rfl⟩
 have hUl : U.length ≤ 25 := by rw [← hUe, sortF_len]; exact Nat.le_trans (List.length_filter_le _ _) hl
 have hUs : ∀ e ∈ U, SmE e := fun e he => hse e (List.mem_filter.1 (sortF_mem.1 (hUe ▸ he))).1
 refine enter Tryz.func17 Tryz.call17 rfl Tryz.ntmps17 rfl (fun w0 => ?_)
 refine go 3 ?_
 refine o_box _ rfl rfl rfl (fun g3 => ?_)
 refine go 1 ?_
 refine o_alloc he rfl (fun g6 => ?_)
 refine go 9 ?_
 refine o_callV (r12Valid _ vc c hvc hsc f sf hf) rfl rfl ?_
 refine go 3 ?_
 refine cb rfl (fun h16 p16 => ?_) (fun h16 p16 => ?_)
 ·refine go 3 ?_
  refine o_val rfl (v_build (pl := [(0, 1)]) he he rfl rfl) ?_
  refine go 1 ?_
  refine o_stw _ he rfl rfl rfl rfl rfl rfl ?_
  refine go 6 ?_
  refine fin3 rfl ⟨_, _, _, rfl, m0, .inr ⟨_, he, rfl, rfl⟩⟩ rfl rfl ?_
  have hbad : (!validC c || !validFm f) = true := by simpa [Bool.not_and] using h16
  exact q_i ⟨_, by rw [runL_bad hbad], by rw [runL_bad hbad]; exact RdS.nil'⟩
 ·have hok : (!validC c || !validFm f) = false := by simpa [Bool.not_and] using h16
  refine go 7 ?_
  refine o_call (ref11Up _ v l hv (by omega) day) rfl rfl (fun v20 I20 j20 q20 => ?_)
  have hvc := hvc.le j20
  have hf := hf.le j20
  refine go 1 ?_
  refine o_call (ref11Sort _ _ (l.filter fun e => !decide (e.day > day)) q20 (Nat.le_trans (List.length_filter_le _ _) (by omega))) rfl rfl (fun v21 I21 j21 q21 => ?_)
  have hvc := hvc.le j21
  have hf := hf.le j21
  rw [hUe] at q21
  obtain ⟨A21, c21, rfl, hA21, _, _⟩ := q21
  refine go 6 ?_
  refine o_alloc he rfl (fun g10 => ?_)
  refine go 9 ?_
  refine c_loop4 ((0 : Nat)) ([]) (.slice none 0 0) (I21) (fun i st v10 J => J)
   (fun i st v10 J => [(3, .pointer (some ⟨g3, 0, none⟩)), (6, .pointer (some ⟨g6, 0, none⟩)), (9, .slice A21 U.length c21), (10, .pointer (some ⟨g10, 0, none⟩)), (11, .int .i64 ((i : Nat) : Int))])
   (fun i st v10 J => [.blk g10 39 [v10], .blk g6 39 [.slice none 0 0], .blk g3 29 [vc, ci f.op, ci f.n, sf]])
   (fun i st v10 J => i ≤ U.length ∧ ILe I21 J ∧ RdS J v10 st ∧ SmF st ∧ cntS st ≤ i ∧ runLGo f c st (i : Nat) (U.drop i) = runL f c l day)
   (fun i st v10 J => U.length - i) ⟨Nat.zero_le _, ILe.refl _, RdS.nil', SmF.nil, Nat.le_refl _, by rw [runL_go hok, hUe]; rfl⟩ rfl sb rfl ?_
  intro i st v10 J ⟨hi, hJ, hv10, hsf, hcn, hgo⟩
  have hvc := hvc.le hJ
  have hf := hf.le hJ
  have hA21 := hA21.le hJ
  refine go 9 ?_
  refine cb rfl (fun h25 p25 => ?_) (fun h25 p25 => ?_)
  ·have hlt : i < U.length := by omega
   refine go 5 ?_
   refine sx_knowI (fun hE8 hf8 => ?_)
   refine d_startH T.mixed ?_
   refine d_tv 0 rfl rfl (by kernel_rfl) rfl (.refl _) rfl (v_fieldAddr he rfl) ?_
   refine d_tv 1 rfl rfl (by kernel_rfl) rfl (.refl _) rfl (v_ldp ([vc]) m2 he rfl rfl rfl) ?_
   refine d_tv 2 rfl rfl (by kernel_rfl) rfl (.refl _) rfl (v_ldw m0 he rfl rfl) ?_
   refine d_tv 3 rfl rfl (by kernel_rfl) rfl (.refl _) rfl (v_move rfl) ?_
   refine d_tv 4 rfl rfl (by kernel_rfl) rfl (.refl _) rfl (v_move rfl) ?_
   obtain ⟨b34, o34, w34, e34, c34, r34⟩ := RdA.at_ hA21 (i := i) hlt
   obtain rfl := r34
   refine d_tv 5 rfl rfl (by kernel_rfl) rfl (.refl _) rfl (v_idx he rfl rfl e34 (i) (by omega) hlt) ?_
   refine d_tv 6 rfl rfl (by kernel_rfl) rfl (.refl _) rfl (v_ldIa he rfl c34 rfl) ?_
   refine d_two 7 11 (by kernel_rfl) rfl rfl ?_ ?_
   ·refine o_call (ref10Apply _ vc c hvc hsc v10 st hv10 hsf U[i] (hUs _ (List.getElem_mem hlt))) rfl rfl (fun v36 I36 j36 q36 => ?_)
    have hvc := hvc.le j36
    have hf := hf.le j36
    have hA21 := hA21.le j36
    obtain ⟨w36, rfl, hw36⟩ := q36
    refine d_on (fun _ m => m.keepsI (.refl _) (j36) hE8 hf8) ?_
    refine d_t 8 rfl rfl (by kernel_rfl) rfl (fun _ m => m.keepsI (.refl _) (j36) hE8 hf8) (y_v rfl (v_move rfl)) ?_
    refine d_t 9 rfl rfl (by kernel_rfl) rfl (fun _ m => m.keepsI (.refl _) (j36) hE8 hf8) (y_v rfl (v_extract rfl rfl)) ?_
    refine d_t 10 rfl rfl (by kernel_rfl) rfl (fun _ m => m.keepsI (.refl _) (j36) hE8 hf8) (y_v rfl (v_extract rfl rfl)) ?_
    refine d_one 11 (by kernel_rfl) rfl ?_
    refine o_alloc he rfl (fun g12 => ?_)
    refine d_on (fun _ m => m.keepsI (.cons _ (.refl _)) (j36) hE8 hf8) ?_
    refine d_one 12 (by kernel_rfl) rfl ?_
    refine o_stw _ he rfl rfl rfl rfl rfl (by simp [RdS.one hw36]) ?_
    refine d_on (fun _ m => m.keepsI (.cons _ (.refl _)) (j36) hE8 hf8) ?_
    refine d_t 13 rfl rfl (by kernel_rfl) rfl (fun _ m => m.keepsI (.cons _ (.refl _)) (j36) hE8 hf8) (y_v rfl (v_assign rfl)) ?_
    refine d_done (by kernel_rfl) ?_
    refine go 8 ?_
    refine cb rfl (fun h40 p40 => ?_) (fun h40 p40 => ?_)
    ·refine go 3 ?_
     refine o_val rfl (v_build (pl := [(0, 1)]) he he rfl rfl) ?_
     refine go 3 ?_
     refine bring2 ?_
     refine o_stw _ he rfl rfl rfl rfl rfl rfl ?_
     refine go 11 ?_
     refine fin3 rfl ⟨_, _, _, rfl, m0, .inr ⟨_, he, rfl, rfl⟩⟩ rfl rfl ?_
     have hr : runL f c l day = ([], ((i : Nat) : Int), (applyF c st U[i]).2) := by rw [← hgo, goL_stop hlt p40]
     exact q_i ⟨_, by rw [hr] <;> rfl, by rw [hr]; exact RdS.nil'⟩
    ·have h0 : (applyF c st U[i]).2 = 0 := by simpa using h40
     have hsm := applyF_sm (c := c) hsf (hUs _ (List.getElem_mem hlt))
     have hc1 := cnt_apply h0
     have hc2 : (applyF c st U[i]).1.length ≤ i + 1 := by unfold cntS at *; omega
     refine go 6 ?_
     refine bring1 ?_
     refine o_stw _ he rfl rfl rfl rfl rfl (by simp [RdS.one hw36]) ?_
     refine go 6 ?_
     obtain ⟨b47, o47, w47, e47, c47, r47⟩ := RdA.at_ hA21 (i := i) (by omega)
     obtain rfl := r47
     refine o_v rfl (v_idx he rfl rfl e47 (i) (by omega) (by omega)) ?_
     refine go 1 ?_
     refine o_v rfl (v_ldI he rfl (c47 0 _ rfl)) ?_
     refine go 3 ?_
     refine cb rfl (fun h50 p50 => ?_) (fun h50 p50 => ?_)
     ·refine sx_knowI (fun hE13 hf13 => ?_)
      refine d_start1 T.mixed ?_
      refine d_tv 0 rfl rfl (by kernel_rfl) rfl (.cons _ (.refl _)) rfl (v_ldw m2 he rfl rfl) ?_
      refine d_tv 2 rfl rfl (by kernel_rfl) rfl (.cons _ (.refl _)) rfl (v_move rfl) ?_
      refine d_tv 3 rfl rfl (by kernel_rfl) rfl (.cons _ (.refl _)) rfl (v_move rfl) ?_
      obtain ⟨b55, o55, w55, e55, c55, r55⟩ := RdA.at_ hA21 (i := i) (by omega)
      obtain rfl := r55
      refine d_tv 4 rfl rfl (by kernel_rfl) rfl (.cons _ (.refl _)) rfl (v_idx he rfl rfl e55 (i) (by omega) (by omega)) ?_
      refine d_tv 5 rfl rfl (by kernel_rfl) rfl (.cons _ (.refl _)) rfl (v_fieldAddr he rfl) ?_
      refine d_tv 6 rfl rfl (by kernel_rfl) rfl (.cons _ (.refl _)) rfl (v_ldI he rfl (c55 2 _ rfl)) ?_
      refine d_tv 7 rfl rfl (by kernel_rfl) rfl (.cons _ (.refl _)) rfl (v_move rfl) ?_
      refine d_tv 8 rfl rfl (by kernel_rfl) rfl (.cons _ (.refl _)) rfl (v_move rfl) ?_
      obtain ⟨b60, o60, w60, e60, c60, r60⟩ := RdA.at_ hA21 (i := i) (by omega)
      obtain rfl := r60
      refine d_tv 9 rfl rfl (by kernel_rfl) rfl (.cons _ (.refl _)) rfl (v_idx he rfl rfl e60 (i) (by omega) (by omega)) ?_
      refine d_tv 10 rfl rfl (by kernel_rfl) rfl (.cons _ (.refl _)) rfl (v_fieldAddr he rfl) ?_
      refine d_tv 11 rfl rfl (by kernel_rfl) rfl (.cons _ (.refl _)) rfl (v_ldIa he rfl (c60.sub 8 6) rfl) ?_
      refine d_one 1 (by kernel_rfl) rfl ?_
      refine o_val rfl (v_ldw m0 he rfl rfl) ?_
      refine d_on (fun _ m => m.keeps (.cons _ (.refl _))) ?_
      refine d_one 12 (by kernel_rfl) rfl ?_
      refine o_call (r12Add _ vc f sf hf hvc.one _ (applyF c st U[i]).1 hw36 (by omega) U[i]) rfl rfl (fun v63 I63 j63 q63 => ?_)
      have hvc := hvc.le j63
      have hf := hf.le j63
      have hA21 := hA21.le j63
      obtain ⟨w63, rfl, hw63⟩ := q63
      refine d_on (fun _ m => m.keepsI (.cons _ (.refl _)) (j63) hE13 hf13) ?_
      refine d_one 13 (by kernel_rfl) rfl ?_
      refine o_stw _ he rfl rfl rfl rfl rfl (by simp [RdS.one hw63]) ?_
      refine d_on (fun _ m => m.keepsI (.cons _ (.refl _)) (j63) hE13 hf13) ?_
      refine d_done (by kernel_rfl) ?_
      refine go 8 ?_
      refine bring1 ?_
      refine sx_drop ?_
      exact q_next4 (i + 1) (useL (applyF c st U[i]).1 U[i] (damF f U[i].use)) (w63) (I63) ⟨by omega, hJ.trans (j36.trans j63), hw63, use_sm hsm, by rw [cnt_use]; omega, (goL_use hlt h0 p50).symm.trans hgo⟩ (by omega) rfl sb rfl
     ·refine go 9 ?_
      refine bring1 ?_
      refine sx_drop ?_
      exact q_next4 (i + 1) ((applyF c st U[i]).1) (w36) (I36) ⟨by omega, hJ.trans j36, hw36, hsm, by omega, (goL_plain hlt h0 p50).symm.trans hgo⟩ (by omega) rfl sb rfl
   ·refine o_alloc he rfl (fun g12 => ?_)
    refine d_on (fun _ m => m.keeps (.cons _ (.refl _))) ?_
    refine d_one 7 (by kernel_rfl) rfl ?_
    refine o_call (ref10Apply _ vc c hvc hsc v10 st hv10 hsf U[i] (hUs _ (List.getElem_mem hlt))) rfl rfl (fun v36 I36 j36 q36 => ?_)
    have hvc := hvc.le j36
    have hf := hf.le j36
    have hA21 := hA21.le j36
    obtain ⟨w36, rfl, hw36⟩ := q36
    refine d_on (fun _ m => m.keepsI (.cons _ (.refl _)) (j36) hE8 hf8) ?_
    refine d_t 8 rfl rfl (by kernel_rfl) rfl (fun _ m => m.keepsI (.cons _ (.refl _)) (j36) hE8 hf8) (y_v rfl (v_move rfl)) ?_
    refine d_t 9 rfl rfl (by kernel_rfl) rfl (fun _ m => m.keepsI (.cons _ (.refl _)) (j36) hE8 hf8) (y_v rfl (v_extract rfl rfl)) ?_
    refine d_t 10 rfl rfl (by kernel_rfl) rfl (fun _ m => m.keepsI (.cons _ (.refl _)) (j36) hE8 hf8) (y_v rfl (v_extract rfl rfl)) ?_
    refine d_one 12 (by kernel_rfl) rfl ?_
    refine o_stw _ he rfl rfl rfl rfl rfl (by simp [RdS.one hw36]) ?_
    refine d_on (fun _ m => m.keepsI (.cons _ (.refl _)) (j36) hE8 hf8) ?_
    refine d_t 13 rfl rfl (by kernel_rfl) rfl (fun _ m => m.keepsI (.cons _ (.refl _)) (j36) hE8 hf8) (y_v rfl (v_assign rfl)) ?_
    refine d_done (by kernel_rfl) ?_
    refine go 8 ?_
    refine cb rfl (fun h40 p40 => ?_) (fun h40 p40 => ?_)
    ·refine go 3 ?_
     refine o_val rfl (v_build (pl := [(0, 1)]) he he rfl rfl) ?_
     refine go 3 ?_
     refine bring2 ?_
     refine o_stw _ he rfl rfl rfl rfl rfl rfl ?_
     refine go 11 ?_
     refine fin3 rfl ⟨_, _, _, rfl, m0, .inr ⟨_, he, rfl, rfl⟩⟩ rfl rfl ?_
     have hr : runL f c l day = ([], ((i : Nat) : Int), (applyF c st U[i]).2) := by rw [← hgo, goL_stop hlt p40]
     exact q_i ⟨_, by rw [hr] <;> rfl, by rw [hr]; exact RdS.nil'⟩
    ·have h0 : (applyF c st U[i]).2 = 0 := by simpa using h40
     have hsm := applyF_sm (c := c) hsf (hUs _ (List.getElem_mem hlt))
     have hc1 := cnt_apply h0
     have hc2 : (applyF c st U[i]).1.length ≤ i + 1 := by unfold cntS at *; omega
     refine go 6 ?_
     refine bring1 ?_
     refine o_stw _ he rfl rfl rfl rfl rfl (by simp [RdS.one hw36]) ?_
     refine go 6 ?_
     obtain ⟨b47, o47, w47, e47, c47, r47⟩ := RdA.at_ hA21 (i := i) (by omega)
     obtain rfl := r47
     refine o_v rfl (v_idx he rfl rfl e47 (i) (by omega) (by omega)) ?_
     refine go 1 ?_
     refine o_v rfl (v_ldI he rfl (c47 0 _ rfl)) ?_
     refine go 3 ?_
     refine cb rfl (fun h50 p50 => ?_) (fun h50 p50 => ?_)
     ·refine sx_knowI (fun hE13 hf13 => ?_)
      refine d_start1 T.mixed ?_
      refine d_tv 0 rfl rfl (by kernel_rfl) rfl (.cons _ (.refl _)) rfl (v_ldw m2 he rfl rfl) ?_
      refine d_tv 2 rfl rfl (by kernel_rfl) rfl (.cons _ (.refl _)) rfl (v_move rfl) ?_
      refine d_tv 3 rfl rfl (by kernel_rfl) rfl (.cons _ (.refl _)) rfl (v_move rfl) ?_
      obtain ⟨b55, o55, w55, e55, c55, r55⟩ := RdA.at_ hA21 (i := i) (by omega)
      obtain rfl := r55
      refine d_tv 4 rfl rfl (by kernel_rfl) rfl (.cons _ (.refl _)) rfl (v_idx he rfl rfl e55 (i) (by omega) (by omega)) ?_
      refine d_tv 5 rfl rfl (by kernel_rfl) rfl (.cons _ (.refl _)) rfl (v_fieldAddr he rfl) ?_
      refine d_tv 6 rfl rfl (by kernel_rfl) rfl (.cons _ (.refl _)) rfl (v_ldI he rfl (c55 2 _ rfl)) ?_
      refine d_tv 7 rfl rfl (by kernel_rfl) rfl (.cons _ (.refl _)) rfl (v_move rfl) ?_
      refine d_tv 8 rfl rfl (by kernel_rfl) rfl (.cons _ (.refl _)) rfl (v_move rfl) ?_
      obtain ⟨b60, o60, w60, e60, c60, r60⟩ := RdA.at_ hA21 (i := i) (by omega)
      obtain rfl := r60
      refine d_tv 9 rfl rfl (by kernel_rfl) rfl (.cons _ (.refl _)) rfl (v_idx he rfl rfl e60 (i) (by omega) (by omega)) ?_
      refine d_tv 10 rfl rfl (by kernel_rfl) rfl (.cons _ (.refl _)) rfl (v_fieldAddr he rfl) ?_
      refine d_tv 11 rfl rfl (by kernel_rfl) rfl (.cons _ (.refl _)) rfl (v_ldIa he rfl (c60.sub 8 6) rfl) ?_
      refine d_one 1 (by kernel_rfl) rfl ?_
      refine o_val rfl (v_ldw m0 he rfl rfl) ?_
      refine d_on (fun _ m => m.keeps (.cons _ (.refl _))) ?_
      refine d_one 12 (by kernel_rfl) rfl ?_
      refine o_call (r12Add _ vc f sf hf hvc.one _ (applyF c st U[i]).1 hw36 (by omega) U[i]) rfl rfl (fun v63 I63 j63 q63 => ?_)
      have hvc := hvc.le j63
      have hf := hf.le j63
      have hA21 := hA21.le j63
      obtain ⟨w63, rfl, hw63⟩ := q63
      refine d_on (fun _ m => m.keepsI (.cons _ (.refl _)) (j63) hE13 hf13) ?_
      refine d_one 13 (by kernel_rfl) rfl ?_
      refine o_stw _ he rfl rfl rfl rfl rfl (by simp [RdS.one hw63]) ?_
      refine d_on (fun _ m => m.keepsI (.cons _ (.refl _)) (j63) hE13 hf13) ?_
      refine d_done (by kernel_rfl) ?_
      refine go 8 ?_
      refine bring1 ?_
      refine sx_drop ?_
      exact q_next4 (i + 1) (useL (applyF c st U[i]).1 U[i] (damF f U[i].use)) (w63) (I63) ⟨by omega, hJ.trans (j36.trans j63), hw63, use_sm hsm, by rw [cnt_use]; omega, (goL_use hlt h0 p50).symm.trans hgo⟩ (by omega) rfl sb rfl
     ·refine go 9 ?_
      refine bring1 ?_
      refine sx_drop ?_
      exact q_next4 (i + 1) ((applyF c st U[i]).1) (w36) (I36) ⟨by omega, hJ.trans j36, hw36, hsm, by omega, (goL_plain hlt h0 p50).symm.trans hgo⟩ (by omega) rfl sb rfl
  ·refine go 9 ?_
   refine bring1 ?_
   refine o_stw _ he rfl rfl rfl rfl rfl (by simp [RdS.one hv10]) ?_
   refine go 5 ?_
   refine fin3 rfl ⟨_, _, _, rfl, m0, .inr ⟨_, he, rfl, rfl⟩⟩ rfl rfl ?_
   have hr : runL f c l day = (st, -1, 0) := by rw [← hgo, goL_end (by omega)]
   exact q_i ⟨_, by rw [hr] <;> rfl, by rw [hr]; exact hv10⟩

theorem r12Is (I : IMap) (s : ByteArray) :
    FnV Tryz.prog 22 #[.string s] I (.bool (isCur s)) := by
 refine enter Tryz.func22 Tryz.call22 rfl Tryz.ntmps22 rfl (fun w0 => ?_)
 refine go 10 ?_
 refine sxb 5 rfl (fun h5 p5 => ?_) (fun h5 p5 => ?_)
 ·refine go 19 ?_
  refine fin1 rfl rfl ?_
  exact q_v (congrArg Value.bool (by rw [← isCurR_is]; show _ = ((((decide (s = (⟨#[107, 109]⟩ : ByteArray)) || decide (s = (⟨#[99, 121, 99, 108, 101, 115]⟩ : ByteArray))) || decide (s = (⟨#[100, 97, 109, 97, 103, 101]⟩ : ByteArray))) || decide (s = (⟨#[100, 97, 121, 115]⟩ : ByteArray))) || decide (s = (⟨#[97, 103, 101]⟩ : ByteArray))); simp only [h5, bS]))
 ·refine go 4 ?_
  refine sxb 9 rfl (fun h9 p9 => ?_) (fun h9 p9 => ?_)
  ·refine go 15 ?_
   refine fin1 rfl rfl ?_
   exact q_v (congrArg Value.bool (by rw [← isCurR_is]; show _ = ((((decide (s = (⟨#[107, 109]⟩ : ByteArray)) || decide (s = (⟨#[99, 121, 99, 108, 101, 115]⟩ : ByteArray))) || decide (s = (⟨#[100, 97, 109, 97, 103, 101]⟩ : ByteArray))) || decide (s = (⟨#[100, 97, 121, 115]⟩ : ByteArray))) || decide (s = (⟨#[97, 103, 101]⟩ : ByteArray))); simp only [h5, h9, bS]))
  ·refine go 4 ?_
   refine sxb 13 rfl (fun h13 p13 => ?_) (fun h13 p13 => ?_)
   ·refine go 11 ?_
    refine fin1 rfl rfl ?_
    exact q_v (congrArg Value.bool (by rw [← isCurR_is]; show _ = ((((decide (s = (⟨#[107, 109]⟩ : ByteArray)) || decide (s = (⟨#[99, 121, 99, 108, 101, 115]⟩ : ByteArray))) || decide (s = (⟨#[100, 97, 109, 97, 103, 101]⟩ : ByteArray))) || decide (s = (⟨#[100, 97, 121, 115]⟩ : ByteArray))) || decide (s = (⟨#[97, 103, 101]⟩ : ByteArray))); simp only [h5, h9, h13, bS]))
   ·refine go 4 ?_
    refine sxb 17 rfl (fun h17 p17 => ?_) (fun h17 p17 => ?_)
    ·refine go 7 ?_
     refine fin1 rfl rfl ?_
     exact q_v (congrArg Value.bool (by rw [← isCurR_is]; show _ = ((((decide (s = (⟨#[107, 109]⟩ : ByteArray)) || decide (s = (⟨#[99, 121, 99, 108, 101, 115]⟩ : ByteArray))) || decide (s = (⟨#[100, 97, 109, 97, 103, 101]⟩ : ByteArray))) || decide (s = (⟨#[100, 97, 121, 115]⟩ : ByteArray))) || decide (s = (⟨#[97, 103, 101]⟩ : ByteArray))); simp only [h5, h9, h13, h17, bS]))
    ·refine go 7 ?_
     refine fin1 rfl rfl ?_
     exact q_v (congrArg Value.bool (by rw [← isCurR_is]; show _ = ((((decide (s = (⟨#[107, 109]⟩ : ByteArray)) || decide (s = (⟨#[99, 121, 99, 108, 101, 115]⟩ : ByteArray))) || decide (s = (⟨#[100, 97, 109, 97, 103, 101]⟩ : ByteArray))) || decide (s = (⟨#[100, 97, 121, 115]⟩ : ByteArray))) || decide (s = (⟨#[97, 103, 101]⟩ : ByteArray))); simp only [h5, h9, h13, h17, bS]))

theorem r12Value (I : IMap) (p : Part) (q : Value) (hq : q.oneCell' = true) (s : ByteArray) (day : Int) :
    FnV Tryz.prog 19 #[.agg (p.cells q).toArray, .string s, .int .i64 (day)] I (.tuple #[.agg (valueF p s day).1.cells.toArray, .int .i64 ((valueF p s day).2)]) := by
 refine enter Tryz.func19 Tryz.call19 rfl Tryz.ntmps19 rfl (fun w0 => ?_)
 refine go 3 ?_
 refine o_box _ rfl rfl rfl (fun g3 => ?_)
 refine go 1 ?_
 refine o_alloc he rfl (fun g6 => ?_)
 refine go 8 ?_
 refine o_callV (r12Is _ s) rfl rfl ?_
 refine go 3 ?_
 refine cb rfl (fun h12 p12 => ?_) (fun h12 p12 => ?_)
 ·refine go 3 ?_
  refine o_val rfl (v_build (pl := [(0, 1), (1, 1)]) he he rfl rfl) ?_
  refine go 1 ?_
  refine o_stw _ he rfl rfl rfl rfl rfl rfl ?_
  refine go 5 ?_
  refine fin2 rfl ⟨_, _, _, rfl, m0, .inr ⟨_, he, rfl, rfl⟩⟩ rfl ?_
  exact q_v (by rw [value_no (by simpa using h12)] <;> rfl)
 ·have hcu : isCur s = true := by simpa using h12
  refine go 4 ?_
  refine c_cut (I' := I) (L' := [(1, .string s), (2, .int .i64 (day)), (3, .pointer (some ⟨g3, 0, none⟩)), (6, .pointer (some ⟨g6, 0, none⟩)), (19, .bool (decide (day < 0) || decide (day > 40000)))]) (H' := [.blk g6 32 [.int .i64 (0), .int .i64 (0)], .blk g3 49 (p.cells q)]) ?_ ?_
  ·refine go 4 ?_
   refine sxb 16 rfl (fun h16 p16 => ?_) (fun h16 p16 => ?_)
   ·refine go 5 ?_
    exact q_cut ⟨rfl, rfl, rfl, rfl, (congrArg (fun b => some (Value.bool b)) (by simp only [h12, h16, bS])), trivial⟩ rfl rfl
   ·refine go 5 ?_
    exact q_cut ⟨rfl, rfl, rfl, rfl, (congrArg (fun b => some (Value.bool b)) (by simp only [h12, h16, bS])), trivial⟩ rfl rfl
  ·refine cb rfl (fun h19 p19 => ?_) (fun h19 p19 => ?_)
   ·refine go 3 ?_
    refine o_val rfl (v_build (pl := [(0, 1), (1, 1)]) he he rfl rfl) ?_
    refine go 1 ?_
    refine o_stw _ he rfl rfl rfl rfl rfl rfl ?_
    refine go 5 ?_
    refine fin2 rfl ⟨_, _, _, rfl, m0, .inr ⟨_, he, rfl, rfl⟩⟩ rfl ?_
    exact q_v (by rw [value_bad hcu h19] <;> rfl)
   ·have hd : 0 ≤ day ∧ day ≤ 40000 := by simp at h19; omega
    refine go 15 ?_
    refine cb rfl (fun h22 p22 => ?_) (fun h22 p22 => ?_)
    ·refine go 4 ?_
     refine o_v rfl (v_ldp (p.life.km.cells) m1 he rfl rfl rfl) ?_
     refine go 1 ?_
     refine o_stw _ he rfl rfl rfl rfl rfl rfl ?_
     refine go 6 ?_
     refine fin2 rfl ⟨_, _, _, rfl, m0, .inr ⟨_, he, rfl, rfl⟩⟩ rfl ?_
     exact q_v (by rw [value_yes hcu h19]; unfold curI; rw [if_pos (show s = sKm from p22)] <;> rfl)
    ·refine go 6 ?_
     refine cb rfl (fun h27 p27 => ?_) (fun h27 p27 => ?_)
     ·refine go 4 ?_
      refine o_v rfl (v_ldp (p.life.cycles.cells) m1 he rfl rfl rfl) ?_
      refine go 1 ?_
      refine o_stw _ he rfl rfl rfl rfl rfl rfl ?_
      refine go 6 ?_
      refine fin2 rfl ⟨_, _, _, rfl, m0, .inr ⟨_, he, rfl, rfl⟩⟩ rfl ?_
      exact q_v (by rw [value_yes hcu h19]; unfold curI; rw [if_neg (show ¬ s = sKm from p22), if_pos (show s = sCycles from p27)] <;> rfl)
     ·refine go 6 ?_
      refine cb rfl (fun h32 p32 => ?_) (fun h32 p32 => ?_)
      ·refine go 4 ?_
       refine o_v rfl (v_ldp (p.life.damage.cells) m1 he rfl rfl rfl) ?_
       refine go 1 ?_
       refine o_stw _ he rfl rfl rfl rfl rfl rfl ?_
       refine go 6 ?_
       refine fin2 rfl ⟨_, _, _, rfl, m0, .inr ⟨_, he, rfl, rfl⟩⟩ rfl ?_
       exact q_v (by rw [value_yes hcu h19]; unfold curI; rw [if_neg (show ¬ s = sKm from p22), if_neg (show ¬ s = sCycles from p27), if_pos (show s = sDamage from p32)] <;> rfl)
      ·refine go 11 ?_
       refine c_cutx (α := Int) (Ix := (fun a => I)) (Lx := (fun a => [(2, .int .i64 (day)), (6, .pointer (some ⟨g6, 0, none⟩)), (8, .int .i64 (a))])) (Hx := (fun a => [.blk g6 32 [.int .i64 (0), .int .i64 (0)], .blk g3 49 (p.cells q)])) (p := (fun a => curI p s day = sinceI day a)) ?_ ?_
       ·refine go 6 ?_
        refine cb rfl (fun h40 p40 => ?_) (fun h40 p40 => ?_)
        ·refine go 6 ?_
         exact q_cutx p.since (by rw [curR_rest (show ¬ s = sKm from p22) (show ¬ s = sCycles from p27) (show ¬ s = sDamage from p32), if_pos (show s = sDays from p40)]) sb rfl rfl
        ·refine go 2 ?_
         exact q_cutx p.made (by rw [curR_rest (show ¬ s = sKm from p22) (show ¬ s = sCycles from p27) (show ¬ s = sDamage from p32), if_neg (show ¬ s = sDays from p40)]) sb rfl rfl
       ·intro a hca
        refine go 6 ?_
        refine c_cutx (α := Int) (Ix := (fun n => I)) (Lx := (fun n => [(6, .pointer (some ⟨g6, 0, none⟩)), (9, .int .i64 (n))])) (Hx := (fun n => [.blk g6 32 [.int .i64 (0), .int .i64 (0)], .blk g3 49 (p.cells q)])) (p := (fun n => sinceI day a = ⟨n, n⟩)) ?_ ?_
        ·refine go 8 ?_
         refine cb rfl (fun h46 p46 => ?_) (fun h46 p46 => ?_)
         ·refine go 4 ?_
          exact q_cutx 1000000000000 (since_ref day a _ (by omega)) sb rfl rfl
         ·refine go 7 ?_
          refine cb rfl (fun h49 p49 => ?_) (fun h49 p49 => ?_)
          ·refine go 7 ?_
           exact q_cutx (day - a) (since_ref day a _ (by omega)) sb rfl rfl
          ·refine go 2 ?_
           exact q_cutx 0 (since_ref day a _ (by omega)) sb rfl rfl
        ·intro n hn
         refine go 5 ?_
         refine o_val rfl (v_build (pl := [(0, 1), (1, 1)]) he he rfl rfl) ?_
         refine go 1 ?_
         refine o_stw _ he rfl rfl rfl rfl rfl rfl ?_
         refine go 4 ?_
         refine fin2 rfl ⟨_, _, _, rfl, m0, .inr ⟨_, he, rfl, rfl⟩⟩ rfl ?_
         exact q_v (by rw [value_yes hcu h19, hca, hn] <;> rfl)

end Go.Proofs.YthcefohbbfjjfaaGreat

