/- The library of a symbolic run and the walks: merged. -/
import Derived.Test.YtoadjlmbdliceaaGreatZQe
/- Walks, printed by a program out of the code of the functions: each theorem is a contract of one function. -/
namespace Go.Proofs.YtoadjlmbdliceaaGreat
open Go Go.Sx
set_option linter.all false
set_option maxRecDepth 20000
set_option maxHeartbeats 4000000
theorem ref09Names (I : IMap) (e : Evt) (hs : SmE e) :
    FnI Tryz.prog 118 #[.agg e.cells.toArray] I (fun u J => RdS J u (namesE e)) := by
 refine enter Tryz.func118 Tryz.call118 rfl Tryz.ntmps118 rfl (fun w0 => ?_)
 refine go 3 ?_
 refine o_box _ rfl rfl rfl (fun g1 => ?_)
 refine go 8 ?_
 refine o_callV (ref09Valid _ e hs) rfl rfl ?_
 refine go 3 ?_
 refine cb rfl (fun h5 p5 => ?_) (fun h5 p5 => ?_)
 ·refine go 7 ?_
  refine fin1 rfl rfl ?_
  exact q_i (by simp only [namesE, show validE e = false by simpa using h5, if_true]; exact RdS.nil')
 ·have hve : validE e = true := by simpa using h5
  refine go 10 ?_
  refine cb rfl (fun h8 p8 => ?_) (fun h8 p8 => ?_)
  ·refine go 5 ?_
   refine o_buildSlice he he rfl rfl rfl rfl rfl rfl rfl (fun v11 => ?_)
   refine sx_pubrow (l := [e.part]) rfl rfl (.one rfl) (fun I11 j11 R11 => ?_)
   refine go 5 ?_
   refine fin1 rfl rfl ?_
   exact q_i (by simp only [namesE, hve, p8, if_true, if_false, Bool.true_eq_false]; exact R11)
  ·refine go 8 ?_
   refine o_v rfl (v_smin rfl rfl) ?_
   refine go 4 ?_
   refine o_v rfl (v_smax rfl rfl) ?_
   refine go 1 ?_
   refine o_buildSlice he he rfl rfl rfl rfl rfl rfl rfl (fun v22 => ?_)
   refine sx_pubrow (l := [minS e.part e.into, maxS e.part e.into]) rfl rfl (.cons rfl (.one rfl)) (fun I22 j22 R22 => ?_)
   refine go 4 ?_
   refine fin1 rfl rfl ?_
   exact q_i (by simp only [namesE, hve, show e.op = 2 by omega, if_true, if_false, Bool.true_eq_false]; exact R22)

theorem ref13Put (I : IMap) (v : Value) (l : List ByteArray) (hv : RdS I v l) (hl : l.length ≤ 1000) (s : ByteArray) :
    FnI Tryz.prog 119 #[v, .string s] I (fun u J => ∃ ns, RdS J u ns ∧ ns.length ≤ l.length + 1 ∧ ∀ z, z ∈ ns ↔ z ∈ l ∨ z = s) := by
 have hv0 := hv
 obtain ⟨A, c0, rfl, hA, hc, hm⟩ := hv
 refine enter Tryz.func119 Tryz.call119 rfl Tryz.ntmps119 rfl (fun w0 => ?_)
 refine go 11 ?_
 refine c_cutx (α := Nat) (Ix := (fun k => I)) (Lx := (fun k => [(0, .slice A l.length c0), (1, .string s), (5, .int .i64 ((k : Nat) : Int))])) (Hx := (fun k => [])) (p := (fun k => k ≤ l.length)) ?_ ?_
 ·refine go 1 ?_
  refine c_loop (α := Nat) 0 (fun k => I)
   (fun k => [(0, .slice A l.length c0), (1, .string s), (5, .int .i64 ((k : Nat) : Int))])
   (fun k => [])
   (fun k => k ≤ l.length)
   (fun k => l.length - k) (Nat.zero_le _) rfl sb rfl ?_
  intro k hk
  refine go 8 ?_
  refine sxb 10 rfl (fun h10 p10 => ?_) (fun h10 p10 => ?_)
  ·have hlt : k < l.length := by omega
   refine go 2 ?_
   obtain ⟨b13, o13, w13, e13, c13, r13⟩ := RdA.at_ hA (i := k) (by omega)
   obtain rfl := r13
   refine o_cons (o_yes rfl rfl h10 (o_val rfl (v_idx he rfl rfl e13 (k) (by omega) (by omega)) ?_))
   refine o_cons (o_yes rfl rfl h10 (o_val rfl (v_ldI he rfl (c13 0 _ rfl)) ?_))
   refine go 5 ?_
   refine cb rfl (fun h17 p17 => ?_) (fun h17 p17 => ?_)
   ·refine go 10 ?_
    exact q_next (k + 1) (by omega) (by omega) rfl sb rfl
   ·refine go 5 ?_
    exact q_cutx k hk sb rfl rfl
  ·refine go 9 ?_
   refine c_false rfl ?_
   refine go 5 ?_
   exact q_cutx k hk sb rfl rfl
 ·intro k hk
  refine go 8 ?_
  refine sxb 24 rfl (fun h24 p24 => ?_) (fun h24 p24 => ?_)
  ·have hlt : k < l.length := by omega
   refine go 2 ?_
   obtain ⟨b27, o27, w27, e27, c27, r27⟩ := RdA.at_ hA (i := k) (by omega)
   obtain rfl := r27
   refine o_cons (o_yes rfl rfl h24 (o_val rfl (v_idx he rfl rfl e27 (k) (by omega) (by omega)) ?_))
   refine o_cons (o_yes rfl rfl h24 (o_val rfl (v_ldI he rfl (c27 0 _ rfl)) ?_))
   refine go 5 ?_
   refine cb rfl (fun h31 p31 => ?_) (fun h31 p31 => ?_)
   ·refine go 8 ?_
    refine fin1 rfl rfl ?_
    exact q_i ⟨l, hv0, Nat.le_succ _, fun z => ⟨.inl, fun h => h.elim id fun e => by rw [e, ← p31]; exact List.getElem_mem hlt⟩⟩
   ·refine go 3 ?_
    refine sx_knowI (fun hE6 hf6 => ?_)
    refine d_startH T.mixed ?_
    refine d_tv 1 rfl rfl (by kernel_rfl) rfl .slnil rfl (v_move rfl) ?_
    refine d_tv 2 rfl rfl (by kernel_rfl) rfl .slnil rfl (v_move rfl) ?_
    refine d_tv 3 rfl rfl (by kernel_rfl) rfl .slnil rfl (v_slice_hi he rfl rfl k rfl (by omega)) ?_
    refine d_tv 5 rfl rfl (by kernel_rfl) rfl .slnil rfl (v_move rfl) ?_
    refine d_tv 8 rfl rfl (by kernel_rfl) rfl .slnil rfl (v_move rfl) ?_
    refine d_tv 9 rfl rfl (by kernel_rfl) rfl .slnil rfl (v_move rfl) ?_
    refine d_tv 10 rfl rfl (by kernel_rfl) rfl .slnil rfl (v_slice_lo he rfl rfl k rfl (by omega)) ?_
    refine d_two 0 6 (by kernel_rfl) rfl rfl ?_ ?_
    ·refine o_buildSlice he he rfl rfl rfl rfl rfl rfl rfl (fun v33 => ?_)
     refine d_on (fun _ m => m.keeps (.cons _ .slnil)) ?_
     refine d_two 4 6 (by kernel_rfl) rfl rfl ?_ ?_
     ·refine o_appendR ((hv0.take k (by omega))) rfl he he rfl rfl rfl rfl (by simp; omega) (by simp; omega) rfl (fun v37 x37 f37 => ?_)
      refine d_on (fun _ m => m.keeps (.cons _ .slnil)) ?_
      refine d_one 6 (by kernel_rfl) rfl ?_
      refine o_buildSlice he he rfl rfl rfl rfl rfl rfl rfl (fun v39 => ?_)
      refine d_on (fun _ m => m.keeps (.cons _ (.cons _ .slnil))) ?_
      refine d_one 7 (by kernel_rfl) rfl ?_
      refine bring1 ?_
      refine o_appendO he he rfl rfl rfl rfl rfl (by simp; omega) (by simp; omega) rfl (fun v40 => ?_)
      refine d_on (fun _ m => m.keeps (.cons _ (.cons _ .slnil))) ?_
      refine d_one 11 (by kernel_rfl) rfl ?_
      refine o_appendR ((hv0.drop k (by omega))) rfl he he rfl rfl rfl rfl (by simp; omega) (by simp; omega) rfl (fun v44 x44 f44 => ?_)
      refine sx_pubrow (l := l.take k ++ [s] ++ l.drop k) rfl (by simp <;> omega) ((((Flat.nil.append f37).append (.one rfl)).append f44)) (fun I44 j44 R44 => ?_)
      refine d_on (fun _ m => m.keepsI (.cons _ .slnil) (j44) hE6 hf6) ?_
      refine d_t 12 rfl rfl (by kernel_rfl) rfl (fun _ m => m.keepsI (.cons _ .slnil) (j44) hE6 hf6) (y_v rfl (v_assign rfl)) ?_
      refine d_done (by kernel_rfl) ?_
      refine go 2 ?_
      refine fin1 rfl rfl ?_
      exact q_i ⟨_, R44, by simp; omega, fun z => by rw [List.append_assoc]; exact putS_mem⟩
     ·refine o_buildSlice he he rfl rfl rfl rfl rfl rfl rfl (fun v39 => ?_)
      refine d_on (fun _ m => m.keeps (.cons _ (.cons _ .slnil))) ?_
      refine d_one 4 (by kernel_rfl) rfl ?_
      refine bring1 ?_
      refine o_appendR ((hv0.take k (by omega))) rfl he he rfl rfl rfl rfl (by simp; omega) (by simp; omega) rfl (fun v37 x37 f37 => ?_)
      refine d_on (fun _ m => m.keeps (.cons _ (.cons _ .slnil))) ?_
      refine d_one 7 (by kernel_rfl) rfl ?_
      refine bring1 ?_
      refine bring1 ?_
      refine o_appendO he he rfl rfl rfl rfl rfl (by simp; omega) (by simp; omega) rfl (fun v40 => ?_)
      refine d_on (fun _ m => m.keeps (.cons _ (.cons _ .slnil))) ?_
      refine d_one 11 (by kernel_rfl) rfl ?_
      refine o_appendR ((hv0.drop k (by omega))) rfl he he rfl rfl rfl rfl (by simp; omega) (by simp; omega) rfl (fun v44 x44 f44 => ?_)
      refine sx_pubrow (l := l.take k ++ [s] ++ l.drop k) rfl (by simp <;> omega) ((((Flat.nil.append f37).append (.one rfl)).append f44)) (fun I44 j44 R44 => ?_)
      refine d_on (fun _ m => m.keepsI (.cons _ .slnil) (j44) hE6 hf6) ?_
      refine d_t 12 rfl rfl (by kernel_rfl) rfl (fun _ m => m.keepsI (.cons _ .slnil) (j44) hE6 hf6) (y_v rfl (v_assign rfl)) ?_
      refine d_done (by kernel_rfl) ?_
      refine go 2 ?_
      refine fin1 rfl rfl ?_
      exact q_i ⟨_, R44, by simp; omega, fun z => by rw [List.append_assoc]; exact putS_mem⟩
    ·refine o_buildSlice he he rfl rfl rfl rfl rfl rfl rfl (fun v39 => ?_)
     refine d_on (fun _ m => m.keeps (.cons _ .slnil)) ?_
     refine d_one 0 (by kernel_rfl) rfl ?_
     refine o_buildSlice he he rfl rfl rfl rfl rfl rfl rfl (fun v33 => ?_)
     refine d_on (fun _ m => m.keeps (.cons _ (.cons _ .slnil))) ?_
     refine d_one 4 (by kernel_rfl) rfl ?_
     refine o_appendR ((hv0.take k (by omega))) rfl he he rfl rfl rfl rfl (by simp; omega) (by simp; omega) rfl (fun v37 x37 f37 => ?_)
     refine d_on (fun _ m => m.keeps (.cons _ (.cons _ .slnil))) ?_
     refine d_one 7 (by kernel_rfl) rfl ?_
     refine bring1 ?_
     refine bring1 ?_
     refine o_appendO he he rfl rfl rfl rfl rfl (by simp; omega) (by simp; omega) rfl (fun v40 => ?_)
     refine d_on (fun _ m => m.keeps (.cons _ (.cons _ .slnil))) ?_
     refine d_one 11 (by kernel_rfl) rfl ?_
     refine o_appendR ((hv0.drop k (by omega))) rfl he he rfl rfl rfl rfl (by simp; omega) (by simp; omega) rfl (fun v44 x44 f44 => ?_)
     refine sx_pubrow (l := l.take k ++ [s] ++ l.drop k) rfl (by simp <;> omega) ((((Flat.nil.append f37).append (.one rfl)).append f44)) (fun I44 j44 R44 => ?_)
     refine d_on (fun _ m => m.keepsI (.cons _ .slnil) (j44) hE6 hf6) ?_
     refine d_t 12 rfl rfl (by kernel_rfl) rfl (fun _ m => m.keepsI (.cons _ .slnil) (j44) hE6 hf6) (y_v rfl (v_assign rfl)) ?_
     refine d_done (by kernel_rfl) ?_
     refine go 2 ?_
     refine fin1 rfl rfl ?_
     exact q_i ⟨_, R44, by simp; omega, fun z => by rw [List.append_assoc]; exact putS_mem⟩
  ·refine go 9 ?_
   refine c_false rfl ?_
   refine go 3 ?_
   refine sx_knowI (fun hE6 hf6 => ?_)
   refine d_startH T.mixed ?_
   refine d_tv 1 rfl rfl (by kernel_rfl) rfl .slnil rfl (v_move rfl) ?_
   refine d_tv 2 rfl rfl (by kernel_rfl) rfl .slnil rfl (v_move rfl) ?_
   refine d_tv 3 rfl rfl (by kernel_rfl) rfl .slnil rfl (v_slice_hi he rfl rfl k rfl (by omega)) ?_
   refine d_tv 5 rfl rfl (by kernel_rfl) rfl .slnil rfl (v_move rfl) ?_
   refine d_tv 8 rfl rfl (by kernel_rfl) rfl .slnil rfl (v_move rfl) ?_
   refine d_tv 9 rfl rfl (by kernel_rfl) rfl .slnil rfl (v_move rfl) ?_
   refine d_tv 10 rfl rfl (by kernel_rfl) rfl .slnil rfl (v_slice_lo he rfl rfl k rfl (by omega)) ?_
   refine d_two 0 6 (by kernel_rfl) rfl rfl ?_ ?_
   ·refine o_buildSlice he he rfl rfl rfl rfl rfl rfl rfl (fun v33 => ?_)
    refine d_on (fun _ m => m.keeps (.cons _ .slnil)) ?_
    refine d_two 4 6 (by kernel_rfl) rfl rfl ?_ ?_
    ·refine o_appendR ((hv0.take k (by omega))) rfl he he rfl rfl rfl rfl (by simp; omega) (by simp; omega) rfl (fun v37 x37 f37 => ?_)
     refine d_on (fun _ m => m.keeps (.cons _ .slnil)) ?_
     refine d_one 6 (by kernel_rfl) rfl ?_
     refine o_buildSlice he he rfl rfl rfl rfl rfl rfl rfl (fun v39 => ?_)
     refine d_on (fun _ m => m.keeps (.cons _ (.cons _ .slnil))) ?_
     refine d_one 7 (by kernel_rfl) rfl ?_
     refine bring1 ?_
     refine o_appendO he he rfl rfl rfl rfl rfl (by simp; omega) (by simp; omega) rfl (fun v40 => ?_)
     refine d_on (fun _ m => m.keeps (.cons _ (.cons _ .slnil))) ?_
     refine d_one 11 (by kernel_rfl) rfl ?_
     refine o_appendR ((hv0.drop k (by omega))) rfl he he rfl rfl rfl rfl (by simp; omega) (by simp; omega) rfl (fun v44 x44 f44 => ?_)
     refine sx_pubrow (l := l.take k ++ [s] ++ l.drop k) rfl (by simp <;> omega) ((((Flat.nil.append f37).append (.one rfl)).append f44)) (fun I44 j44 R44 => ?_)
     refine d_on (fun _ m => m.keepsI (.cons _ .slnil) (j44) hE6 hf6) ?_
     refine d_t 12 rfl rfl (by kernel_rfl) rfl (fun _ m => m.keepsI (.cons _ .slnil) (j44) hE6 hf6) (y_v rfl (v_assign rfl)) ?_
     refine d_done (by kernel_rfl) ?_
     refine go 2 ?_
     refine fin1 rfl rfl ?_
     exact q_i ⟨_, R44, by simp; omega, fun z => by rw [List.append_assoc]; exact putS_mem⟩
    ·refine o_buildSlice he he rfl rfl rfl rfl rfl rfl rfl (fun v39 => ?_)
     refine d_on (fun _ m => m.keeps (.cons _ (.cons _ .slnil))) ?_
     refine d_one 4 (by kernel_rfl) rfl ?_
     refine bring1 ?_
     refine o_appendR ((hv0.take k (by omega))) rfl he he rfl rfl rfl rfl (by simp; omega) (by simp; omega) rfl (fun v37 x37 f37 => ?_)
     refine d_on (fun _ m => m.keeps (.cons _ (.cons _ .slnil))) ?_
     refine d_one 7 (by kernel_rfl) rfl ?_
     refine bring1 ?_
     refine bring1 ?_
     refine o_appendO he he rfl rfl rfl rfl rfl (by simp; omega) (by simp; omega) rfl (fun v40 => ?_)
     refine d_on (fun _ m => m.keeps (.cons _ (.cons _ .slnil))) ?_
     refine d_one 11 (by kernel_rfl) rfl ?_
     refine o_appendR ((hv0.drop k (by omega))) rfl he he rfl rfl rfl rfl (by simp; omega) (by simp; omega) rfl (fun v44 x44 f44 => ?_)
     refine sx_pubrow (l := l.take k ++ [s] ++ l.drop k) rfl (by simp <;> omega) ((((Flat.nil.append f37).append (.one rfl)).append f44)) (fun I44 j44 R44 => ?_)
     refine d_on (fun _ m => m.keepsI (.cons _ .slnil) (j44) hE6 hf6) ?_
     refine d_t 12 rfl rfl (by kernel_rfl) rfl (fun _ m => m.keepsI (.cons _ .slnil) (j44) hE6 hf6) (y_v rfl (v_assign rfl)) ?_
     refine d_done (by kernel_rfl) ?_
     refine go 2 ?_
     refine fin1 rfl rfl ?_
     exact q_i ⟨_, R44, by simp; omega, fun z => by rw [List.append_assoc]; exact putS_mem⟩
   ·refine o_buildSlice he he rfl rfl rfl rfl rfl rfl rfl (fun v39 => ?_)
    refine d_on (fun _ m => m.keeps (.cons _ .slnil)) ?_
    refine d_one 0 (by kernel_rfl) rfl ?_
    refine o_buildSlice he he rfl rfl rfl rfl rfl rfl rfl (fun v33 => ?_)
    refine d_on (fun _ m => m.keeps (.cons _ (.cons _ .slnil))) ?_
    refine d_one 4 (by kernel_rfl) rfl ?_
    refine o_appendR ((hv0.take k (by omega))) rfl he he rfl rfl rfl rfl (by simp; omega) (by simp; omega) rfl (fun v37 x37 f37 => ?_)
    refine d_on (fun _ m => m.keeps (.cons _ (.cons _ .slnil))) ?_
    refine d_one 7 (by kernel_rfl) rfl ?_
    refine bring1 ?_
    refine bring1 ?_
    refine o_appendO he he rfl rfl rfl rfl rfl (by simp; omega) (by simp; omega) rfl (fun v40 => ?_)
    refine d_on (fun _ m => m.keeps (.cons _ (.cons _ .slnil))) ?_
    refine d_one 11 (by kernel_rfl) rfl ?_
    refine o_appendR ((hv0.drop k (by omega))) rfl he he rfl rfl rfl rfl (by simp; omega) (by simp; omega) rfl (fun v44 x44 f44 => ?_)
    refine sx_pubrow (l := l.take k ++ [s] ++ l.drop k) rfl (by simp <;> omega) ((((Flat.nil.append f37).append (.one rfl)).append f44)) (fun I44 j44 R44 => ?_)
    refine d_on (fun _ m => m.keepsI (.cons _ .slnil) (j44) hE6 hf6) ?_
    refine d_t 12 rfl rfl (by kernel_rfl) rfl (fun _ m => m.keepsI (.cons _ .slnil) (j44) hE6 hf6) (y_v rfl (v_assign rfl)) ?_
    refine d_done (by kernel_rfl) ?_
    refine go 2 ?_
    refine fin1 rfl rfl ?_
    exact q_i ⟨_, R44, by simp; omega, fun z => by rw [List.append_assoc]; exact putS_mem⟩

theorem ref13Names (I : IMap) (r : Rep) (S : Option Addr) (d : Nat) (hr : RdS I (.slice S r.options.length d) r.options) (hs : ∀ e ∈ r.options, SmE e) :
    FnI Tryz.prog 98 #[.agg (r.cells (.slice S r.options.length d)).toArray] I (fun u J => ∃ ns, RdS J u ns ∧ NamesOf r ns) := by
 have hSA : RdA I S r.options := hr.toA
 have hl5 := hr.lenLe
 have hl4 : d ≤ 9223372036854775807 := (by obtain ⟨_, _, e, h, h1, h2⟩ := hr; cases e; exact h2)
 refine enter Tryz.func98 Tryz.call98 rfl Tryz.ntmps98 rfl (fun w0 => ?_)
 refine go 3 ?_
 refine o_box _ rfl rfl rfl (fun g1 => ?_)
 refine go 8 ?_
 refine o_callV (ref13Valid _ r S d hr hs) rfl rfl ?_
 refine go 3 ?_
 refine cb rfl (fun h9 p9 => ?_) (fun h9 p9 => ?_)
 ·refine go 7 ?_
  refine fin1 rfl rfl ?_
  exact q_i ⟨[], RdS.nil', names_none (by simpa using h9)⟩
 ·have hvr : validRep r = true := by simpa using h9
  have hvl := validRep_len hvr
  refine go 14 ?_
  refine c_loop4 ((0 : Nat)) (_) ([]) (I) (fun i v3 ns J => J)
   (fun i v3 ns J => [(1, .pointer (some ⟨g1, 0, none⟩)), (3, v3), (4, .int .i64 ((i : Nat) : Int))])
   (fun i v3 ns J => [.blk g1 47 (r.cells (.slice S r.options.length d))])
   (fun i v3 ns J => i ≤ r.options.length ∧ ILe I J ∧ RdS J v3 ns ∧ ns.length ≤ 2 * i ∧ ∀ z, z ∈ ns ↔ ∃ e ∈ r.options.take i, z ∈ namesE e)
   (fun i v3 ns J => r.options.length - i) ⟨Nat.zero_le _, ILe.refl _, RdS.nil', Nat.le_refl _, fun z => by simp⟩ rfl sb rfl ?_
  intro i v3 ns J ⟨hi, hJ, hv3, hn3, hns⟩
  have hSA := hSA.le hJ
  refine go 10 ?_
  refine cb rfl (fun h14 p14 => ?_) (fun h14 p14 => ?_)
  ·have hlt : i < r.options.length := by omega
   have hn2 := (namesE_len (validRep_e hvr _ (List.getElem_mem hlt))).2
   refine go 9 ?_
   obtain ⟨b20, o20, w20, e20, c20, r20⟩ := RdA.at_ hSA (i := i) hlt
   obtain rfl := r20
   refine o_v rfl (v_idx he rfl rfl e20 (i) (by omega) hlt) ?_
   refine o_v rfl (v_ldIa he rfl c20 rfl) ?_
   refine go 1 ?_
   refine o_call (ref09Names _ r.options[i] (hs _ (List.getElem_mem hlt))) rfl rfl (fun v22 I22 j22 q22 => ?_)
   try have hSA := hSA.le j22
   try have hv3 := hv3.le j22
   obtain ⟨NA, nc, rfl, hNA, _, _⟩ := id q22
   refine go 9 ?_
   refine c_loop4 ((0 : Nat)) (v3) (ns) (I22) (fun j v6 ns2 J2 => J2)
    (fun j v6 ns2 J2 => [(1, .pointer (some ⟨g1, 0, none⟩)), (3, v6), (4, .int .i64 ((i : Nat) : Int)), (5, .slice NA (namesE r.options[i]).length nc), (6, .int .i64 ((j : Nat) : Int))])
    (fun j v6 ns2 J2 => [.blk g1 47 (r.cells (.slice S r.options.length d))])
    (fun j v6 ns2 J2 => j ≤ (namesE r.options[i]).length ∧ ILe I22 J2 ∧ RdS J2 v6 ns2 ∧ ns2.length ≤ 2 * i + j ∧ ∀ z, z ∈ ns2 ↔ (∃ e ∈ r.options.take i, z ∈ namesE e) ∨ z ∈ (namesE r.options[i]).take j)
    (fun j v6 ns2 J2 => (namesE r.options[i]).length - j) ⟨Nat.zero_le _, ILe.refl _, hv3, hn3, fun z => by simp [hns z]⟩ rfl sb rfl ?_
   intro j v6 ns2 J2 ⟨hj, hJ2, hv6, hn6, hns2⟩
   have hNA := hNA.le hJ2
   refine go 9 ?_
   refine cb rfl (fun h26 p26 => ?_) (fun h26 p26 => ?_)
   ·have hlj : j < (namesE r.options[i]).length := by omega
    refine go 8 ?_
    obtain ⟨b32, o32, w32, e32, c32, r32⟩ := RdA.at_ hNA (i := j) (by omega)
    obtain rfl := r32
    refine o_v rfl (v_idx he rfl rfl e32 (j) (by omega) (by omega)) ?_
    refine o_v rfl (v_ldI he rfl (c32 0 _ rfl)) ?_
    refine go 1 ?_
    refine o_call (ref13Put _ v6 ns2 hv6 (by omega) (namesE r.options[i])[j]) rfl rfl (fun v34 I34 j34 q34 => ?_)
    obtain ⟨ns3, q34, hl3, hns3⟩ := q34
    refine go 10 ?_
    exact q_next4 (j + 1) (_) (ns3) (_) ⟨by omega, hJ2.trans j34, q34, by omega, fun z => (hns3 z).trans (by rw [hns2 z, mem_take1 hlj, or_assoc])⟩ (by omega) rfl sb rfl
   ·obtain rfl : j = (namesE r.options[i]).length := by omega
    rw [List.take_length] at hns2
    refine go 12 ?_
    exact q_next4 (i + 1) (v6) (ns2) (_) ⟨by omega, hJ.trans (j22.trans hJ2), hv6, by omega, fun z => (hns2 z).trans (names_next hlt z).symm⟩ (by omega) rfl sb rfl
  ·obtain rfl : i = r.options.length := by omega
   rw [List.take_length] at hns
   refine go 12 ?_
   refine fin1 rfl rfl ?_
   exact q_i ⟨ns, hv3, fun z => (hns z).trans ⟨fun h => ⟨hvr, h⟩, fun h => h.2⟩, by omega⟩

theorem ref14Common (I : IMap) (v : Value) (l : List ByteArray) (hv : RdS I v l) (w : Value) (m : List ByteArray) (hw : RdS I w m) :
    FnV Tryz.prog 99 #[v, w] I (.bool (l.any fun x => decide (x ∈ m))) := by
 have hv0 := hv
 obtain ⟨A, c0, rfl, hA, hc, hm⟩ := hv
 obtain ⟨B, c1, rfl, hB, hc1, hm1⟩ := hw
 refine enter Tryz.func99 Tryz.call99 rfl Tryz.ntmps99 rfl (fun w0 => ?_)
 refine go 12 ?_
 refine c_loop (α := Nat) 0 (fun i => I)
  (fun i => [(0, .slice A l.length c0), (1, .slice B m.length c1), (5, .int .i64 ((i : Nat) : Int))])
  (fun i => [])
  (fun i => i ≤ l.length ∧ ∀ x ∈ l.take i, x ∉ m)
  (fun i => l.length - i) ⟨Nat.zero_le _, by simp⟩ rfl sb rfl ?_
 intro i ⟨hi, hn⟩
 refine go 9 ?_
 refine cb rfl (fun h10 p10 => ?_) (fun h10 p10 => ?_)
 ·have hlt : i < l.length := by omega
  refine go 10 ?_
  refine c_loop (α := Nat) 0 (fun k => I)
   (fun k => [(0, .slice A l.length c0), (1, .slice B m.length c1), (5, .int .i64 ((i : Nat) : Int)), (6, .int .i64 ((k : Nat) : Int))])
   (fun k => [])
   (fun k => k ≤ m.length ∧ l[i] ∉ m.take k)
   (fun k => m.length - k) ⟨Nat.zero_le _, by simp⟩ rfl sb rfl ?_
  intro k ⟨hk, hq⟩
  refine go 9 ?_
  refine cb rfl (fun h16 p16 => ?_) (fun h16 p16 => ?_)
  ·have hlk : k < m.length := by omega
   refine go 5 ?_
   refine d_startH T.mixed ?_
   refine d_tv 0 rfl rfl (by kernel_rfl) rfl .slnil rfl (v_move rfl) ?_
   refine d_tv 1 rfl rfl (by kernel_rfl) rfl .slnil rfl (v_move rfl) ?_
   obtain ⟨b21, o21, w21, e21, c21, r21⟩ := RdA.at_ hA (i := i) (by omega)
   obtain rfl := r21
   refine d_tv 2 rfl rfl (by kernel_rfl) rfl .slnil rfl (v_idx he rfl rfl e21 (i) (by omega) (by omega)) ?_
   refine d_tv 3 rfl rfl (by kernel_rfl) rfl .slnil rfl (v_ldI he rfl (c21 0 _ rfl)) ?_
   refine d_tv 4 rfl rfl (by kernel_rfl) rfl .slnil rfl (v_move rfl) ?_
   refine d_tv 5 rfl rfl (by kernel_rfl) rfl .slnil rfl (v_move rfl) ?_
   obtain ⟨b25, o25, w25, e25, c25, r25⟩ := RdA.at_ hB (i := k) (by omega)
   obtain rfl := r25
   refine d_tv 6 rfl rfl (by kernel_rfl) rfl .slnil rfl (v_idx he rfl rfl e25 (k) (by omega) (by omega)) ?_
   refine d_tv 7 rfl rfl (by kernel_rfl) rfl .slnil rfl (v_ldI he rfl (c25 0 _ rfl)) ?_
   refine d_tv 8 rfl rfl (by kernel_rfl) rfl .slnil rfl (v_seql rfl rfl) ?_
   refine d_done (by kernel_rfl) ?_
   refine go 1 ?_
   refine cb rfl (fun h27 p27 => ?_) (fun h27 p27 => ?_)
   ·refine go 15 ?_
    refine fin1 rfl rfl ?_
    exact q_v (congrArg Value.bool (any_mem2 hlt hlk p27).symm)
   ·refine go 9 ?_
    exact q_next (k + 1) ⟨by omega, fun h => ((mem_take1 hlk).1 h).elim hq p27⟩ (by omega) rfl sb rfl
  ·obtain rfl : k = m.length := by omega
   rw [List.take_length] at hq
   refine go 12 ?_
   exact q_next (i + 1) ⟨by omega, fun x hx => by
     rcases (mem_take1 hlt).1 hx with h | h
     · exact hn x h
     · rw [h]; exact hq⟩ (by omega) rfl sb rfl
 ·obtain rfl : i = l.length := by omega
  rw [List.take_length] at hn
  refine go 11 ?_
  refine fin1 rfl rfl ?_
  exact q_v (congrArg Value.bool (any_mem0 hn).symm)

theorem ref14Comps (I : IMap) (v : Value) (l : List Rep) (hv : RdS I v l) (hl : l.length ≤ 1000000) (hsl : ∀ r ∈ l, ∀ e ∈ r.options, SmE e) (R : Nat → Nat) (hRt : Rts l R) :
    FnI Tryz.prog 67 #[v] I (fun u J => RdS J u ((compsN R l.length).map nI)) := by
 have hv0 := hv
 obtain ⟨A, c0, rfl, hA, hc, hm⟩ := hv
 refine enter Tryz.func67 Tryz.call67 rfl Tryz.ntmps67 rfl (fun w0 => ?_)
 refine go 10 ?_
 refine o_makeSlice he he rfl rfl rfl (by omega) (by omega) rfl (fun g18 => ?_)
 refine sx_blkeq (natC (upTo l.length 0)).flatten (by rw [upTo, List.range_zero, List.nil_append, Nat.sub_zero]; exact natC_rep _) ?_
 refine go 8 ?_
 refine o_makeSlice he he rfl rfl rfl (by omega) (by omega) rfl (fun g21 => ?_)
 refine go 10 ?_
 refine c_loop3 ((0 : Nat)) ([]) (I) (fun i Q J => J)
  (fun i Q J => [(0, .slice A l.length c0), (3, .slice (some ⟨g18, 0, none⟩) l.length l.length), (4, .slice (some ⟨g21, 0, none⟩) l.length l.length), (5, .int .i64 ((i : Nat) : Int))])
  (fun i Q J => [.blk g21 61 (vS l.length Q).flatten, .blk g18 3 (natC (upTo l.length i)).flatten])
  (fun i Q J => i ≤ l.length ∧ ILe I J ∧ List.length Q = i ∧ (∀ p ∈ Q, RdS J (p : LsS).1 p.2) ∧ NmQ l Q)
  (fun i Q J => l.length - i) ⟨Nat.zero_le _, ILe.refl _, rfl, fun p hp => (by cases hp), NmQ.nil⟩ rfl sb rfl ?_
 intro i Q J ⟨hi, hJ, hQi, hQr, hQn⟩
 have hv0 := hv0.le hJ
 have hA := hA.le hJ
 refine go 9 ?_
 refine cb rfl (fun h25 p25 => ?_) (fun h25 p25 => ?_)
 ·have hlt : i < l.length := by omega
  refine go 9 ?_
  refine o_v rfl (v_idx he rfl rfl rfl (i) (by omega) (by omega)) ?_
  refine go 1 ?_
  refine bring1 ?_
  refine o_stc _ (i) (natC_uk _) he rfl rfl rfl rfl rfl (by omega) (by rw [natC_len, upTo_len hi]; omega) ?_
  refine sx_blkeq (natC (upTo l.length (i + 1))).flatten (by rw [natC_set0, upTo_next hlt]) ?_
  refine go 7 ?_
  obtain ⟨b36, o36, w36, e36, c36, r36⟩ := RdA.at_ hA (i := i) (by omega)
  obtain ⟨q36, rfl, S36, d36, rfl, hS36, hd36, hm36⟩ := r36
  refine o_v rfl (v_idx he rfl rfl e36 (i) (by omega) (by omega)) ?_
  refine o_v rfl (v_ldIa he rfl c36 rfl) ?_
  refine go 1 ?_
  refine o_call (ref13Names _ l[i] S36 d36 ⟨_, _, rfl, hS36, hd36, hm36⟩ (hsl _ (List.getElem_mem hlt))) rfl rfl (fun v38 I38 j38 q38 => ?_)
  try have hv0 := hv0.le j38
  try have hA := hA.le j38
  obtain ⟨ns, q38, hno⟩ := q38
  obtain ⟨NA, nc, rfl, _, _, _⟩ := id q38
  refine o_v rfl (v_idx he rfl rfl rfl (i) (by omega) (by omega)) ?_
  refine go 1 ?_
  refine bring1 ?_
  refine o_stc _ (i) (vS_uk _ _) he rfl rfl rfl rfl rfl (by omega) (by rw [vS_len (by omega)]; omega) ?_
  refine sx_blkeq (vS l.length (Q ++ [(.slice NA ns.length nc, ns)])).flatten (by rw [← vS_next hQi hlt (.slice NA ns.length nc, ns)]) ?_
  refine go 9 ?_
  exact q_next3 (i + 1) ((Q ++ [(.slice NA ns.length nc, ns)])) (_) ⟨by omega, hJ.trans j38, by simp [hQi], fun p hp => (List.mem_append.1 hp).elim (fun h => (hQr p h).le j38) (fun h => by rw [List.mem_singleton.1 h]; exact q38), hQn.next hQi hlt hno⟩ (by omega) rfl sb rfl
 ·obtain rfl : i = l.length := by omega
  rw [upTo_all]
  have hN := hQn.nml hQi
  refine sx_pub (fun Ig21 jg21 cg21 => ?_)
  try have hv0 := hv0.le jg21
  try have hA := hA.le jg21
  rw [← hQi] at cg21
  obtain ⟨W, hWq⟩ : ∃ W, W = Q.map Prod.snd := ⟨_, rfl⟩
  rw [← hWq] at hN
  have hW : RdA Ig21 (some ⟨g21, 0, none⟩) W := by rw [hWq]; exact Flat.rda (vS_flat Q fun p hp => (hQr p hp).le jg21) cg21
  have hWl : W.length = l.length := by rw [hWq, List.length_map, hQi]
  refine go 12 ?_
  refine c_loop2 (true) ((List.range l.length)) (fun b F => Ig21)
   (fun b F => [(0, .slice A l.length c0), (3, .slice (some ⟨g18, 0, none⟩) l.length l.length), (4, .slice (some ⟨g21, 0, none⟩) l.length l.length), (6, .bool b)])
   (fun b F => [.blk g18 3 (natC F).flatten])
   (fun b F => Lea l F ∧ (b = false → ShTo l F l.length 0))
   (fun b F => if b = true then F.sum + 1 else 0) ⟨lea_start l, fun h => by cases h⟩ rfl sb rfl ?_
  intro b F ⟨hF, hb⟩
  have hFl := hF.len
  refine go 6 ?_
  refine cb rfl (fun h40 p40 => ?_) (fun h40 p40 => ?_)
  ·refine go 14 ?_
   refine c_loop3 ((0 : Nat)) (false) (F) (fun i b2 G => Ig21)
    (fun i b2 G => [(0, .slice A l.length c0), (3, .slice (some ⟨g18, 0, none⟩) l.length l.length), (4, .slice (some ⟨g21, 0, none⟩) l.length l.length), (6, .bool b2), (7, .int .i64 ((i : Nat) : Int))])
    (fun i b2 G => [.blk g18 3 (natC G).flatten])
    (fun i b2 G => i ≤ l.length ∧ Lea l G ∧ (b2 = false → G = F ∧ ShTo l G i 0) ∧ (b2 = true → G.sum < F.sum))
    (fun i b2 G => l.length - i) ⟨Nat.zero_le _, hF, fun _ => ⟨rfl, ShTo.zero⟩, fun h => by cases h⟩ rfl sb rfl ?_
   intro i b2 G ⟨hi, hG, hb2, hs2⟩
   have hGl := hG.len
   refine go 9 ?_
   refine cb rfl (fun h44 p44 => ?_) (fun h44 p44 => ?_)
   ·have hlt : i < l.length := by omega
    refine go 10 ?_
    refine c_loop3 ((0 : Nat)) (b2) (G) (fun k b3 G3 => Ig21)
     (fun k b3 G3 => [(0, .slice A l.length c0), (3, .slice (some ⟨g18, 0, none⟩) l.length l.length), (4, .slice (some ⟨g21, 0, none⟩) l.length l.length), (6, .bool b3), (7, .int .i64 ((i : Nat) : Int)), (8, .int .i64 ((k : Nat) : Int))])
     (fun k b3 G3 => [.blk g18 3 (natC G3).flatten])
     (fun k b3 G3 => k ≤ i ∧ Lea l G3 ∧ (b3 = false → G3 = F ∧ ShTo l G3 i k) ∧ (b3 = true → G3.sum < F.sum))
     (fun k b3 G3 => i - k) ⟨Nat.zero_le _, hG, hb2, hs2⟩ rfl sb rfl ?_
    intro k b3 G3 ⟨hk, hG3, hb3, hs3⟩
    have hGl3 := hG3.len
    refine go 8 ?_
    refine cb rfl (fun h49 p49 => ?_) (fun h49 p49 => ?_)
    ·have hlk : k < i := by omega
     have hiG : i < G3.length := by omega
     have hkG : k < G3.length := by omega
     refine go 5 ?_
     refine d_startH T.mixed ?_
     refine d_tv 0 rfl rfl (by kernel_rfl) rfl (.refl _) rfl (v_move rfl) ?_
     refine d_tv 1 rfl rfl (by kernel_rfl) rfl (.refl _) rfl (v_move rfl) ?_
     refine d_tv 2 rfl rfl (by kernel_rfl) rfl (.refl _) rfl (v_idx he rfl rfl rfl (i) (by omega) (by omega)) ?_
     refine d_tv 3 rfl rfl (by kernel_rfl) rfl (.refl _) rfl (v_lds m0 (natC_uk _) he rfl (i) (by omega) (natC_at0 hiG)) ?_
     refine d_tv 4 rfl rfl (by kernel_rfl) rfl (.refl _) rfl (v_move rfl) ?_
     refine d_tv 5 rfl rfl (by kernel_rfl) rfl (.refl _) rfl (v_move rfl) ?_
     refine d_tv 6 rfl rfl (by kernel_rfl) rfl (.refl _) rfl (v_idx he rfl rfl rfl (k) (by omega) (by omega)) ?_
     refine d_tv 7 rfl rfl (by kernel_rfl) rfl (.refl _) rfl (v_lds m0 (natC_uk _) he rfl (k) (by omega) (natC_at0 hkG)) ?_
     refine d_tv 8 rfl rfl (by kernel_rfl) rfl (.refl _) rfl (v_neq rfl rfl) ?_
     refine d_tv 9 rfl rfl (by kernel_rfl) rfl (.refl _) rfl (v_move rfl) ?_
     refine sxb 61 rfl (fun h61 p61 => ?_) (fun h61 p61 => ?_)
     ·refine d_t 10 rfl rfl (by kernel_rfl) rfl (fun _ m => m.keeps (.refl _)) (y_yes rfl rfl h61 (v_move rfl)) ?_
      refine d_t 11 rfl rfl (by kernel_rfl) rfl (fun _ m => m.keeps (.refl _)) (y_yes rfl rfl h61 (v_move rfl)) ?_
      obtain ⟨b64, o64, w64, e64, c64, r64⟩ := RdA.at_ hW (i := i) (by omega)
      obtain ⟨q64, rfl, S64, d64, rfl, hS64, hd64, hm64⟩ := r64
      refine d_t 12 rfl rfl (by kernel_rfl) rfl (fun _ m => m.keeps (.refl _)) (y_yes rfl rfl h61 (v_idx he rfl rfl e64 (i) (by omega) (by omega))) ?_
      refine d_t 13 rfl rfl (by kernel_rfl) rfl (fun _ m => m.keeps (.refl _)) (y_yes rfl rfl h61 (v_ldI he rfl (c64 0 _ rfl))) ?_
      refine d_t 14 rfl rfl (by kernel_rfl) rfl (fun _ m => m.keeps (.refl _)) (y_yes rfl rfl h61 (v_move rfl)) ?_
      refine d_t 15 rfl rfl (by kernel_rfl) rfl (fun _ m => m.keeps (.refl _)) (y_yes rfl rfl h61 (v_move rfl)) ?_
      obtain ⟨b68, o68, w68, e68, c68, r68⟩ := RdA.at_ hW (i := k) (by omega)
      obtain ⟨q68, rfl, S68, d68, rfl, hS68, hd68, hm68⟩ := r68
      refine d_t 16 rfl rfl (by kernel_rfl) rfl (fun _ m => m.keeps (.refl _)) (y_yes rfl rfl h61 (v_idx he rfl rfl e68 (k) (by omega) (by omega))) ?_
      refine d_t 17 rfl rfl (by kernel_rfl) rfl (fun _ m => m.keeps (.refl _)) (y_yes rfl rfl h61 (v_ldI he rfl (c68 0 _ rfl))) ?_
      refine d_one 18 (by kernel_rfl) rfl ?_
      refine o_yes rfl rfl h61 (o_callV (ref14Common _ _ W[i] ⟨_, _, rfl, hS64, hd64, hm64⟩ _ W[k] ⟨_, _, rfl, hS68, hd68, hm68⟩) rfl rfl ?_)
      refine d_on (fun _ m => m.keeps (.refl _)) ?_
      refine d_tv 19 rfl rfl (by kernel_rfl) rfl (.refl _) rfl (v_and_t h61 rfl rfl) ?_
      refine d_done (by kernel_rfl) ?_
      refine go 1 ?_
      refine cb rfl (fun h71 p71 => ?_) (fun h71 p71 => ?_)
      ·have hM := hG3.meet hiG hkG (fun h => p61 (by rw [h])) (common_yes hN (by omega) (by omega) hlt (by omega) h71)
       refine go 1 ?_
       refine d_startH T.mixed ?_
       refine d_tv 0 rfl rfl (by kernel_rfl) rfl (.refl _) rfl (v_move rfl) ?_
       refine d_tv 1 rfl rfl (by kernel_rfl) rfl (.refl _) rfl (v_move rfl) ?_
       refine d_tv 2 rfl rfl (by kernel_rfl) rfl (.refl _) rfl (v_idx he rfl rfl rfl (i) (by omega) (by omega)) ?_
       refine d_tv 3 rfl rfl (by kernel_rfl) rfl (.refl _) rfl (v_lds m0 (natC_uk _) he rfl (i) (by omega) (natC_at0 hiG)) ?_
       refine d_tv 4 rfl rfl (by kernel_rfl) rfl (.refl _) rfl (v_move rfl) ?_
       refine d_tv 5 rfl rfl (by kernel_rfl) rfl (.refl _) rfl (v_move rfl) ?_
       refine d_tv 6 rfl rfl (by kernel_rfl) rfl (.refl _) rfl (v_idx he rfl rfl rfl (k) (by omega) (by omega)) ?_
       refine d_tv 7 rfl rfl (by kernel_rfl) rfl (.refl _) rfl (v_lds m0 (natC_uk _) he rfl (k) (by omega) (natC_at0 hkG)) ?_
       refine d_tv 8 rfl rfl (by kernel_rfl) rfl (.refl _) rfl (OV.cast (u := .int .i64 ((min G3[i] G3[k] : Nat) : Int)) (v_min rfl rfl) (congrArg (Value.int .i64) (by split <;> omega))) ?_
       refine d_tv 9 rfl rfl (by kernel_rfl) rfl (.refl _) rfl (v_assign rfl) ?_
       refine d_done (by kernel_rfl) ?_
       refine go 2 ?_
       refine d_startH T.mixed ?_
       refine d_tv 0 rfl rfl (by kernel_rfl) rfl (.refl _) rfl (v_move rfl) ?_
       refine d_tv 1 rfl rfl (by kernel_rfl) rfl (.refl _) rfl (v_move rfl) ?_
       refine d_tv 2 rfl rfl (by kernel_rfl) rfl (.refl _) rfl (v_idx he rfl rfl rfl (i) (by omega) (by omega)) ?_
       refine d_tv 3 rfl rfl (by kernel_rfl) rfl (.refl _) rfl (v_lds m0 (natC_uk _) he rfl (i) (by omega) (natC_at0 hiG)) ?_
       refine d_tv 4 rfl rfl (by kernel_rfl) rfl (.refl _) rfl (v_move rfl) ?_
       refine d_tv 5 rfl rfl (by kernel_rfl) rfl (.refl _) rfl (v_move rfl) ?_
       refine d_tv 6 rfl rfl (by kernel_rfl) rfl (.refl _) rfl (v_idx he rfl rfl rfl (k) (by omega) (by omega)) ?_
       refine d_tv 7 rfl rfl (by kernel_rfl) rfl (.refl _) rfl (v_lds m0 (natC_uk _) he rfl (k) (by omega) (natC_at0 hkG)) ?_
       refine d_tv 8 rfl rfl (by kernel_rfl) rfl (.refl _) rfl (OV.cast (u := .int .i64 ((max G3[i] G3[k] : Nat) : Int)) (v_max rfl rfl) (congrArg (Value.int .i64) (by split <;> omega))) ?_
       refine d_tv 9 rfl rfl (by kernel_rfl) rfl (.refl _) rfl (v_assign rfl) ?_
       refine d_done (by kernel_rfl) ?_
       refine go 8 ?_
       refine c_loop (α := Nat) 0 (fun j => Ig21)
        (fun j => [(0, .slice A l.length c0), (3, .slice (some ⟨g18, 0, none⟩) l.length l.length), (4, .slice (some ⟨g21, 0, none⟩) l.length l.length), (6, .bool b3), (7, .int .i64 ((i : Nat) : Int)), (8, .int .i64 ((k : Nat) : Int)), (9, .int .i64 (((min G3[i] G3[k]) : Nat) : Int)), (10, .int .i64 (((max G3[i] G3[k]) : Nat) : Int)), (11, .int .i64 ((j : Nat) : Int))])
        (fun j => [.blk g18 3 (natC (meetTo G3 (max G3[i] G3[k]) (min G3[i] G3[k]) j)).flatten])
        (fun j => j ≤ l.length)
        (fun j => l.length - j) (Nat.zero_le _) rfl sb rfl ?_
       intro j hj
       refine go 9 ?_
       refine cb rfl (fun h93 p93 => ?_) (fun h93 p93 => ?_)
       ·have hlj : j < l.length := by omega
        have hjG : j < G3.length := by omega
        refine go 8 ?_
        refine o_v rfl (v_idx he rfl rfl rfl (j) (by omega) (by omega)) ?_
        refine o_v rfl (OV.cast (u := .int .i64 ((G3[j] : Nat) : Int)) (v_lds m0 (natC_uk _) he rfl (j) (by omega) (natC_at0 (by rw [meetTo_len]; omega))) (congrArg (fun z : Nat => Value.int .i64 (z : Int)) (meetTo_at _ _ _ hjG _))) ?_
        refine go 4 ?_
        refine cb rfl (fun h101 p101 => ?_) (fun h101 p101 => ?_)
        ·refine go 4 ?_
         refine o_v rfl (v_idx he rfl rfl rfl (j) (by omega) (by omega)) ?_
         refine go 1 ?_
         refine o_stc _ (j) (natC_uk _) he rfl rfl rfl rfl rfl (by omega) (by rw [natC_len, meetTo_len]; omega) ?_
         refine sx_blkeq (natC (meetTo G3 (max G3[i] G3[k]) (min G3[i] G3[k]) (j + 1))).flatten (by rw [natC_set0, meetTo_yes hjG (by omega)]) ?_
         refine go 9 ?_
         exact q_next (j + 1) (by omega) (by omega) rfl sb rfl
        ·refine go 9 ?_
         exact q_next (j + 1) (by omega) (by omega) rfl sb (by rw [meetTo_no hjG (by omega)])
       ·obtain rfl : j = l.length := by omega
        rw [meetTo_all _ _ _ (by omega)]
        refine go 16 ?_
        exact q_next3 (k + 1) (true) ((meetF G3 (max G3[i] G3[k]) (min G3[i] G3[k]))) ⟨by omega, hM.1, fun h => (by cases h), fun _ => by have := hM.2; cases b3 <;> simp_all <;> omega⟩ (by omega) rfl sb rfl
      ·refine go 9 ?_
       exact q_next3 (k + 1) (b3) (G3) ⟨by omega, hG3, fun h => ⟨(hb3 h).1, (hb3 h).2.next fun _ _ h3 h4 => .inr (common_no hN _ _ h3 h4 (by simpa using h71))⟩, hs3⟩ (by omega) rfl sb rfl
     ·refine d_t 10 rfl rfl (by kernel_rfl) rfl (fun _ m => m.keeps (.refl _)) (y_no rfl rfl h61) ?_
      refine d_t 11 rfl rfl (by kernel_rfl) rfl (fun _ m => m.keeps (.refl _)) (y_no rfl rfl h61) ?_
      refine d_t 12 rfl rfl (by kernel_rfl) rfl (fun _ m => m.keeps (.refl _)) (y_no rfl rfl h61) ?_
      refine d_t 13 rfl rfl (by kernel_rfl) rfl (fun _ m => m.keeps (.refl _)) (y_no rfl rfl h61) ?_
      refine d_t 14 rfl rfl (by kernel_rfl) rfl (fun _ m => m.keeps (.refl _)) (y_no rfl rfl h61) ?_
      refine d_t 15 rfl rfl (by kernel_rfl) rfl (fun _ m => m.keeps (.refl _)) (y_no rfl rfl h61) ?_
      refine d_t 16 rfl rfl (by kernel_rfl) rfl (fun _ m => m.keeps (.refl _)) (y_no rfl rfl h61) ?_
      refine d_t 17 rfl rfl (by kernel_rfl) rfl (fun _ m => m.keeps (.refl _)) (y_no rfl rfl h61) ?_
      refine d_t 18 rfl rfl (by kernel_rfl) rfl (fun _ m => m.keeps (.refl _)) (y_no rfl rfl h61) ?_
      refine d_tv 19 rfl rfl (by kernel_rfl) rfl (.refl _) rfl (v_and_f h61 rfl) ?_
      refine d_done (by kernel_rfl) ?_
      refine go 1 ?_
      refine c_false rfl ?_
      refine go 9 ?_
      exact q_next3 (k + 1) (b3) (G3) ⟨by omega, hG3, fun h => ⟨(hb3 h).1, (hb3 h).2.next fun _ _ _ _ => .inl (by omega)⟩, hs3⟩ (by omega) rfl sb rfl
    ·obtain rfl : i = k := by omega
     refine go 12 ?_
     exact q_next3 (i + 1) (b3) (G3) ⟨by omega, hG3, fun h => ⟨(hb3 h).1, (hb3 h).2.row⟩, hs3⟩ (by omega) rfl sb rfl
   ·obtain rfl : i = l.length := by omega
    refine go 6 ?_
    exact q_next2 (b2) (G) ⟨hG, fun h => (hb2 h).2⟩ (by subst p40; cases b2 <;> simp_all <;> omega) rfl sb rfl
  ·have hR : leaR F = R := (ShTo.rts hF (hb (by simpa using p40))).uniq hRt
   refine go 7 ?_
   refine sx_nilrow 28 1 ?_
   refine go 10 ?_
   refine c_loop4 ((0 : Nat)) (_) ([]) (Ig21) (fun i v12 xs J => J)
    (fun i v12 xs J => [(0, .slice A l.length c0), (3, .slice (some ⟨g18, 0, none⟩) l.length l.length), (12, v12), (13, .int .i64 ((i : Nat) : Int))])
    (fun i v12 xs J => [.row v12 28 1 (rootsN R i).length xs, .blk g18 3 (natC F).flatten])
    (fun i v12 xs J => i ≤ l.length ∧ ILe Ig21 J ∧ Flat J xs (((rootsN R i).map (membN R l.length)).map nI))
    (fun i v12 xs J => l.length - i) ⟨Nat.zero_le _, ILe.refl _, .nil⟩ rfl sb rfl ?_
   intro i v12 xs J ⟨hi, hJ, hF5⟩
   have hrl := roots_le (R := R) (n := i)
   refine go 9 ?_
   refine cb rfl (fun h109 p109 => ?_) (fun h109 p109 => ?_)
   ·have hlt : i < l.length := by omega
    have hiG : i < F.length := by omega
    have hFR := leaR_eq hR hiG
    refine go 9 ?_
    refine o_v rfl (v_idx he rfl rfl rfl (i) (by omega) (by omega)) ?_
    refine o_v rfl (v_lds m1 (natC_uk _) he rfl (i) (by omega) (natC_at0 hiG)) ?_
    refine go 4 ?_
    refine cb rfl (fun h117 p117 => ?_) (fun h117 p117 => ?_)
    ·have hne : ¬ R i = i := by omega
     refine go 10 ?_
     exact q_next4 (i + 1) (_) (_) (_) ⟨by omega, hJ, by rw [roots_no hne]; exact hF5⟩ (by omega) rfl sb (by rw [roots_no hne])
    ·have heq : R i = i := by omega
     refine go 4 ?_
     refine sx_nilrow 3 1 ?_
     refine go 11 ?_
     refine c_loop3 (i) (_) ([]) (fun k v14 M => J)
      (fun k v14 M => [(0, .slice A l.length c0), (3, .slice (some ⟨g18, 0, none⟩) l.length l.length), (12, v12), (13, .int .i64 ((i : Nat) : Int)), (14, v14), (15, .int .i64 ((k : Nat) : Int))])
      (fun k v14 M => [.row v14 3 1 (List.length M) (natC M).flatten, .row v12 28 1 (rootsN R i).length xs, .blk g18 3 (natC F).flatten])
      (fun k v14 M => i ≤ k ∧ k ≤ l.length ∧ M = membN R k i)
      (fun k v14 M => l.length - k) ⟨Nat.le_refl _, hi, (memb_from (n := 0) hRt.le (Nat.le_refl _)).symm⟩ rfl sb rfl ?_
     intro k v14 M ⟨hik, hkl, hM⟩
     have hml : M.length ≤ k := by rw [hM]; exact memb_le
     refine go 9 ?_
     refine cb rfl (fun h122 p122 => ?_) (fun h122 p122 => ?_)
     ·have hlk : k < l.length := by omega
      have hkG : k < F.length := by omega
      have hFRk := leaR_eq hR hkG
      refine go 8 ?_
      refine o_v rfl (v_idx he rfl rfl rfl (k) (by omega) (by omega)) ?_
      refine o_v rfl (v_lds m2 (natC_uk _) he rfl (k) (by omega) (natC_at0 hkG)) ?_
      refine go 4 ?_
      refine cb rfl (fun h130 p130 => ?_) (fun h130 p130 => ?_)
      ·have hyes : R k = i := by omega
       refine go 4 ?_
       refine o_buildSlice he he rfl rfl rfl rfl rfl rfl rfl (fun v133 => ?_)
       refine go 1 ?_
       refine bring1 ?_
       refine o_appendO he he rfl rfl rfl rfl rfl (by omega) (by omega) rfl (fun v134 => ?_)
       refine go 10 ?_
       refine bring1 ?_
       refine sx_drop ?_
       exact q_next3 (k + 1) (_) (M ++ [k]) ⟨by omega, by omega, by rw [memb_yes hyes, hM]⟩ (by omega) rfl sb (by rw [List.length_append, ← natC_snoc]; rfl)
      ·have hno : ¬ R k = i := by omega
       refine go 9 ?_
       exact q_next3 (k + 1) (_) (M) ⟨by omega, by omega, by rw [memb_no hno]; exact hM⟩ (by omega) rfl sb rfl
     ·obtain rfl : k = l.length := by omega
      refine go 7 ?_
      refine sx_pubrow (l := (nI M)) rfl (by rw [nI_len]) (natC_flat M) (fun Ip jp Rp => ?_)
      refine go 2 ?_
      rw [hM] at Rp
      obtain ⟨A14, c14, rfl, _, _⟩ := id Rp
      refine o_buildSlice he he rfl rfl rfl rfl rfl rfl rfl (fun v137 => ?_)
      refine go 1 ?_
      refine bring1 ?_
      refine o_appendO he he rfl rfl rfl rfl rfl (by omega) (by omega) rfl (fun v138 => ?_)
      refine go 10 ?_
      refine bring1 ?_
      refine sx_drop ?_
      exact q_next4 (i + 1) (_) (_) (_) ⟨by omega, hJ.trans jp, by rw [roots_yes heq, List.map_append, List.map_append]; exact (hF5.le jp).append (.one ⟨_, rfl, Rp⟩)⟩ (by omega) rfl sb (by rw [roots_yes heq, List.length_append]; rfl)
   ·obtain rfl : i = l.length := by omega
    refine go 12 ?_
    refine fin1 rfl rfl ?_
    refine bring1 ?_
    refine sx_drop ?_
    refine sx_pubrow (l := (compsN R l.length).map nI) rfl (by rw [List.length_map, comps_len]) hF5 (fun I9 j9 R9 => ?_)
    exact q_i R9

end Go.Proofs.YtoadjlmbdliceaaGreat

/- The reference of what is possible: small laws. -/
set_option linter.all false
namespace Go.Sx
open Go
section
variable {c : List Kind} {l : List Rep} {R : Nat → Nat} {j : Nat} {Hs : List (List Int)} {b : Bool}
theorem giv_cho_no (h : givF c l = false) : choF c l = ([], 1) := by
  refine cho_bad ?_
  cases hv : validC c with
  | false => exact .inl rfl
  | true =>
    right
    rw [givF, hv, Bool.true_and] at h
    rw [← bad_any, ← Bool.not_eq_false]
    intro h2
    rw [show allP (fun _ r => validRep r) l l.length = true from ?_] at h
    · cases h
    · have h3 := List.any_eq_false.1 h2
      have : ∀ k, k ≤ l.length → allP (fun _ r => validRep r) l k = true := fun k => by
        induction k with
        | zero => intro _; rfl
        | succ k ih => exact fun hk => allP_succ (ih (by omega)) (show k < l.length by omega) (by have := h3 l[k] (List.getElem_mem _); simpa using this)
      exact this _ (Nat.le_refl _)
theorem giv_cho_yes (h : givF c l = true) : validC c = true ∧ ∀ q ∈ l, chs q ≠ 0 := by
  simp only [givF, Bool.and_eq_true] at h
  refine ⟨h.1, fun q hq h0 => ?_⟩
  obtain ⟨_, h1⟩ := allP_mem h.2 hq
  have := chs_pos h1; omega
theorem dbt_step (h : j < (rootsN R l.length).length) (hH : Hs = histF c (pickN l (membN R l.length (rootsN R l.length)[j]))) (hb : b = decide (dbtR c l R ((rootsN R l.length).take j) = 21)) :
    (b || decide (Hs = [])) = decide (dbtR c l R ((rootsN R l.length).take (j + 1)) = 21) := by
  rw [dbtR_succ h, ← hH, hb]
  by_cases e : Hs = []
  · simp [e]
  · simp [e]
theorem lastF_pos {l : List Bool} : ∀ k, k ≤ l.length → cntF (l.take k) ≠ 0 → 0 ≤ lastF (l.take k)
  | 0, _, h => by simp [cntF] at h
  | k + 1, hk, h => by
    rw [cntF_step (show k < l.length by omega)] at h
    rw [lastF_step (show k < l.length by omega)]
    split
    · omega
    · rename_i e
      rw [if_neg e] at h
      exact lastF_pos k (by omega) h
theorem only_next {l : List Bool} {i : Nat} (hi : i < l.length) (h : cntF (l.take i) ≤ 1) (hb : l[i] = true → lastF (l.take i) < 0) : cntF (l.take (i + 1)) ≤ 1 := by
  rw [cntF_step hi]
  split
  · rename_i e
    have := hb e
    by_cases h0 : cntF (l.take i) = 0
    · omega
    · have := lastF_pos i (Nat.le_of_lt hi) h0; omega
  · exact h
theorem cntF_take {l : List Bool} (i : Nat) : cntF (l.take i) ≤ cntF l := ((List.take_sublist i l).filter id).length_le
theorem only_two {l : List Bool} {i : Nat} (hi : i < l.length) (ht : l[i] = true) (h : 0 ≤ lastF (l.take i)) : onlyF l = -1 := by
  refine only_many ?_
  have h1 : cntF (l.take (i + 1)) ≤ cntF l := cntF_take _
  rw [cntF_step hi, if_pos ht] at h1
  have h2 : cntF (l.take i) ≠ 0 := fun e => by have := last_none e; omega
  omega
theorem only_last {l : List Bool} (h : cntF l ≤ 1) : onlyF l = lastF l := by
  by_cases h1 : cntF l = 1
  · exact only_one h1
  have h0 : cntF l = 0 := by omega
  rw [last_none h0, onlyF]
  split
  · rfl
  · have h3 := cntF_zero.1 h0
    exact idxF_none (p := fun x => true == x) fun j x _ hj => by simpa using List.any_eq_false.1 h3 x (List.mem_of_getElem? hj)
end
end Go.Sx

/- Walks, printed by a program out of the code of the functions: each theorem is a contract of one function. -/
namespace Go.Proofs.YtoadjlmbdliceaaGreat
open Go Go.Sx
set_option linter.all false
set_option maxRecDepth 20000
set_option maxHeartbeats 4000000
theorem ref17Hist (I : IMap) (vc : Value) (c : List Kind) (hvc : RdS I vc c) (hsc : SmC c) (v : Value) (l : List Rep) (hv : RdS I v l) (hl : l.length ≤ 1000000) (hsl : ∀ r ∈ l, ∀ e ∈ r.options, SmE e) (Hs : List (List Int)) (e : Int) (h1 : (allF c l 4096).1 = Hs) (h2 : (allF c l 4096).2 = e) (h3 : Hs.length < 4096) :
    FnI Tryz.prog 68 #[.agg #[vc], v] I (fun u J => ∃ w, u = .tuple #[w, .int .i64 e] ∧ RdS J w Hs) := by
 refine enter Tryz.func68 Tryz.call68 rfl Tryz.ntmps68 rfl (fun w0 => ?_)
 refine go 3 ?_
 refine o_box _ rfl rfl rfl (fun g2 => ?_)
 refine go 9 ?_
 refine o_call (ref16All _ vc c hvc hsc _ l hv hl hsl 4096) rfl rfl (fun v11 I11 j11 q11 => ?_)
 obtain ⟨w11, rfl, hw11⟩ := q11
 rw [h1] at hw11
 rw [h2]
 obtain ⟨HA, hcc, rfl, hHA, hH1, hH2⟩ := hw11
 refine go 13 ?_
 refine sxb 16 rfl (fun h16 p16 => ?_) (fun h16 p16 => ?_)
 ·refine go 2 ?_
  refine o_cons (o_yes rfl rfl h16 (o_val rfl (OV.cast (u := .bool false) (v_geq rfl rfl) (congrArg Value.bool (decide_eq_false (by omega)))) ?_))
  refine go 3 ?_
  refine c_false rfl ?_
  refine go 11 ?_
  refine fin2 rfl rfl rfl ?_
  exact q_i ⟨_, rfl, _, _, rfl, hHA, hH1, hH2⟩
 ·refine go 6 ?_
  refine c_false rfl ?_
  refine go 11 ?_
  refine fin2 rfl rfl rfl ?_
  exact q_i ⟨_, rfl, _, _, rfl, hHA, hH1, hH2⟩

theorem ref17Choices (I : IMap) (vc : Value) (c : List Kind) (hvc : RdS I vc c) (hsc : SmC c) (v : Value) (l : List Rep) (hv : RdS I v l) (hl : l.length ≤ 1000000) (hsl : ∀ r ∈ l, ∀ e ∈ r.options, SmE e) (h30 : l.length ≤ 30) (hw : waysN l < 4096) :
    FnI Tryz.prog 38 #[.agg #[vc], v] I (fun u J => ∃ w, u = .tuple #[w, .int .i64 (choF c l).2] ∧ RdS J w (choF c l).1) := by
 obtain ⟨R, hRt⟩ := roots_ex l
 have hv0 := hv
 obtain ⟨A, c0, rfl, hA, hc, hm⟩ := hv
 refine enter Tryz.func38 Tryz.call38 rfl Tryz.ntmps38 rfl (fun w0 => ?_)
 refine go 3 ?_
 refine o_box _ rfl rfl rfl (fun g2 => ?_)
 refine go 10 ?_
 refine o_callV (ref15Given _ vc c hvc hsc _ l hv0 hsl) rfl rfl ?_
 refine go 3 ?_
 refine cb rfl (fun h18 p18 => ?_) (fun h18 p18 => ?_)
 ·refine go 8 ?_
  refine fin2 rfl rfl rfl ?_
  have hg : givF c l = false := by simpa using h18
  exact q_i ⟨_, by rw [giv_cho_no hg], by rw [giv_cho_no hg]; exact RdS.nil'⟩
 ·obtain ⟨hC, hP⟩ := giv_cho_yes (c := c) (l := l) (by simpa using h18)
  refine go 7 ?_
  refine o_makeSlice he he rfl rfl rfl (by omega) (by omega) rfl (fun g21 => ?_)
  refine go 10 ?_
  refine c_loop2 ((0 : Nat)) ([]) (fun i Q => I)
   (fun i Q => [(1, .slice A l.length c0), (2, .pointer (some ⟨g2, 0, none⟩)), (6, .slice (some ⟨g21, 0, none⟩) l.length l.length), (7, .int .i64 ((i : Nat) : Int))])
   (fun i Q => .blk g21 68 (oC Q ++ List.replicate (l.length - List.length Q) [Value.slice none 0 0]).flatten :: .blk g2 24 [vc] :: List.map (tabR 4) Q)
   (fun i Q => i ≤ l.length ∧ List.length Q = i ∧ List.map Prod.snd Q = (l.take i).map fun r => List.replicate (chs r).toNat false)
   (fun i Q => l.length - i) ⟨Nat.zero_le _, rfl, rfl⟩ rfl sb rfl ?_
  intro i Q ⟨hi, hQi, hQs⟩
  refine go 9 ?_
  refine cb rfl (fun h25 p25 => ?_) (fun h25 p25 => ?_)
  ·have hlt : i < l.length := by omega
   have hc5 := chs_five l[i]
   refine go 9 ?_
   obtain ⟨b32, o32, w32, e32, c32, r32⟩ := RdA.at_ hA (i := i) (by omega)
   obtain ⟨q32, rfl, S32, d32, rfl, hS32, hd32, hm32⟩ := r32
   refine o_v rfl (v_idx he rfl rfl e32 (i) (by omega) (by omega)) ?_
   refine o_v rfl (v_ldIa he rfl c32 rfl) ?_
   refine go 1 ?_
   refine o_callV (FnV.cast (ref13Choices _ l[i] S32 d32 ⟨_, _, rfl, hS32, hd32, hm32⟩ (hsl _ (List.getElem_mem hlt))) (congrArg (Value.int .i64) (Int.toNat_of_nonneg (chs_nn _)).symm)) rfl rfl ?_
   refine go 1 ?_
   refine o_makeSlice he he rfl rfl rfl (by omega) (by omega) rfl (fun g35 => ?_)
   refine o_v rfl (v_idx he rfl rfl rfl (i) (by omega) (by omega)) ?_
   refine go 1 ?_
   refine bring1 ?_
   refine o_stc _ (i) (Uk.append (oC_uk _) (rep_uk _)) he rfl rfl rfl rfl rfl (by omega) (by simp [oC_len]; omega) ?_
   refine sx_blkeq _ (congrArg List.flatten (oC_next' hQi hlt g35 (chs l[i]).toNat)) ?_
   refine go 4 ?_
   refine bring2 ?_
   refine bring1 ?_
   refine bring2 ?_
   refine sx_blkeq _ (bC_rep _) ?_
   refine sx_join2 (f := tabR 4) (l := Q) (g35, List.replicate (chs l[i]).toNat false) ?_
   refine go 5 ?_
   exact q_next2 (i + 1) ((Q ++ [(g35, List.replicate (chs l[i]).toNat false)])) ⟨by omega, by simp [hQi], by rw [tab_next hlt, List.map_append, hQs]; rfl⟩ (by omega) rfl sb (by simp only [List.length_append]; rfl)
  ·obtain rfl : i = l.length := by omega
   rw [List.take_length, tab_zero] at hQs
   refine sx_blkeq (oC Q).flatten (by rw [hQi, Nat.sub_self]; simp) ?_
   refine go 9 ?_
   refine o_call (ref14Comps _ _ l hv0 hl hsl R hRt) rfl rfl (fun v38 I38 j38 q38 => ?_)
   try have hvc := hvc.le j38
   try have hv0 := hv0.le j38
   try have hA := hA.le j38
   try have hCA := hCA.le j38
   try have q52 := q52.le j38
   try have hS50 := hS50.le j38
   try have hHA := hHA.le j38
   try have hw53 := hw53.le j38
   have q38s := q38
   obtain ⟨CA, cc, rfl, hCA, _, _⟩ := q38s
   have hcl0 : ((compsN R l.length).map nI).length = (rootsN R l.length).length := by simp [compsN]
   refine go 15 ?_
   refine c_loop4 ((0 : Nat)) (Q) (false) (I38) (fun j Q1 bz J => J)
    (fun j Q1 bz J => [(1, .slice A l.length c0), (2, .pointer (some ⟨g2, 0, none⟩)), (6, .slice (some ⟨g21, 0, none⟩) l.length l.length), (8, .slice CA ((compsN R l.length).map nI).length cc), (10, .int .i64 ((j : Nat) : Int)), (9, .bool bz)])
    (fun j Q1 bz J => .blk g21 68 (oC Q1).flatten :: .blk g2 24 [vc] :: List.map (tabR 4) Q1)
    (fun j Q1 bz J => j ≤ (rootsN R l.length).length ∧ ILe I38 J ∧ List.map Prod.snd Q1 = Tab l (markR c l R ((rootsN R l.length).take j)) ∧ bz = decide (dbtR c l R ((rootsN R l.length).take j) = 21))
    (fun j Q1 bz J => (rootsN R l.length).length - j) ⟨Nat.zero_le _, ILe.refl _, by rw [markR_nil]; exact hQs, by simp [dbtR]⟩ rfl sb rfl ?_
   intro j Q1 bz J ⟨hj, hJ, hQ1, hz⟩
   have hvc := hvc.le hJ
   have hv0 := hv0.le hJ
   have hA := hA.le hJ
   have hCA := hCA.le hJ
   refine go 5 ?_
   refine o_v rfl (OV.cast (u := .int .i64 (((rootsN R l.length).length : Nat) : Int)) (v_len_slice he rfl) (congrArg (Value.int .i64) (by rw [hcl0]))) ?_
   refine go 3 ?_
   refine cb rfl (fun h42 p42 => ?_) (fun h42 p42 => ?_)
   ·have hlt : j < (rootsN R l.length).length := by omega
    obtain ⟨Hs, hHs⟩ : ∃ q, q = histF c (pickN l (membN R l.length (rootsN R l.length)[j])) := ⟨_, rfl⟩
    have hpk := pk_all (R := R) hC hP h30 hw (rootsN R l.length)[j]
    rw [← hHs] at hpk
    have hmb := memb_le (R := R) (n := l.length) (r := (rootsN R l.length)[j])
    refine go 5 ?_
    refine sx_knowI (fun hE13 hf13 => ?_)
    refine d_startH T.mixed ?_
    refine d_tv 0 rfl rfl (by kernel_rfl) rfl (.refl _) rfl (v_ldw m1 he rfl rfl) ?_
    refine d_tv 1 rfl rfl (by kernel_rfl) rfl (.refl _) rfl (v_move rfl) ?_
    refine d_tv 2 rfl rfl (by kernel_rfl) rfl (.refl _) rfl (v_move rfl) ?_
    refine d_tv 3 rfl rfl (by kernel_rfl) rfl (.refl _) rfl (v_move rfl) ?_
    obtain ⟨b50, o50, w50, e50, c50, r50⟩ := RdA.at_ hCA (i := j) (by omega)
    rw [comp_at hlt] at r50
    obtain ⟨q50, rfl, S50, d50, rfl, hS50, hd50, hm50⟩ := r50
    refine d_tv 4 rfl rfl (by kernel_rfl) rfl (.refl _) rfl (v_idx he rfl rfl e50 (j) (by omega) (by omega)) ?_
    refine d_tv 5 rfl rfl (by kernel_rfl) rfl (.refl _) rfl (OV.cast (u := .slice S50 (membN R l.length (rootsN R l.length)[j]).length d50) (v_ldI he rfl (c50 0 _ rfl)) (by rw [nI_len])) ?_
    refine d_one 6 (by kernel_rfl) rfl ?_
    refine o_call (ref14Picked _ _ l hv0 _ (membN R l.length (rootsN R l.length)[j]) ⟨S50, d50, by rw [nI_len], hS50, hd50, hm50⟩ (fun i hi => memb_lt hi) (by omega)) rfl rfl (fun v52 I52 j52 q52 => ?_)
    try have hvc := hvc.le j52
    try have hv0 := hv0.le j52
    try have hA := hA.le j52
    try have hCA := hCA.le j52
    try have q52 := q52.le j52
    try have hS50 := hS50.le j52
    try have hHA := hHA.le j52
    try have hw53 := hw53.le j52
    refine d_on (fun _ m => m.keepsI (.refl _) (j52) hE13 hf13) ?_
    refine d_one 7 (by kernel_rfl) rfl ?_
    refine o_call (ref17Hist _ vc c hvc hsc _ (pickN l (membN R l.length (rootsN R l.length)[j])) q52 (by rw [pickN_len fun i hi => memb_lt hi]; omega) (pick_sm hsl) Hs (if Hs = [] then 21 else 0) hpk.1 hpk.2.1 hpk.2.2) rfl rfl (fun v53 I53 j53 q53 => ?_)
    try have hvc := hvc.le j53
    try have hv0 := hv0.le j53
    try have hA := hA.le j53
    try have hCA := hCA.le j53
    try have q52 := q52.le j53
    try have hS50 := hS50.le j53
    try have hHA := hHA.le j53
    try have hw53 := hw53.le j53
    obtain ⟨w53, rfl, hw53⟩ := q53
    obtain ⟨HA, hcc, rfl, hHA, _, _⟩ := hw53
    refine d_on (fun _ m => m.keepsI (.refl _) ((j52).trans j53) hE13 hf13) ?_
    refine d_t 8 rfl rfl (by kernel_rfl) rfl (fun _ m => m.keepsI (.refl _) ((j52).trans j53) hE13 hf13) (y_v rfl (v_move rfl)) ?_
    refine d_t 9 rfl rfl (by kernel_rfl) rfl (fun _ m => m.keepsI (.refl _) ((j52).trans j53) hE13 hf13) (y_v rfl (v_extract rfl rfl)) ?_
    refine d_t 10 rfl rfl (by kernel_rfl) rfl (fun _ m => m.keepsI (.refl _) ((j52).trans j53) hE13 hf13) (y_v rfl (v_extract rfl rfl)) ?_
    refine d_t 11 rfl rfl (by kernel_rfl) rfl (fun _ m => m.keepsI (.refl _) ((j52).trans j53) hE13 hf13) (y_v rfl (v_assign rfl)) ?_
    refine d_t 12 rfl rfl (by kernel_rfl) rfl (fun _ m => m.keepsI (.refl _) ((j52).trans j53) hE13 hf13) (y_v rfl (v_assign rfl)) ?_
    refine d_done (by kernel_rfl) ?_
    refine go 5 ?_
    refine o_v rfl (OV.cast (u := .bool false) (v_eql rfl rfl) (congrArg Value.bool (by split <;> decide))) ?_
    refine go 2 ?_
    refine c_false rfl ?_
    refine go 3 ?_
    refine c_cutx (α := Bool) (Ix := (fun bz2 => I53)) (Lx := (fun bz2 => [(1, .slice A l.length c0), (2, .pointer (some ⟨g2, 0, none⟩)), (6, .slice (some ⟨g21, 0, none⟩) l.length l.length), (8, .slice CA ((compsN R l.length).map nI).length cc), (10, .int .i64 ((j : Nat) : Int)), (9, .bool bz2), (11, .slice HA Hs.length hcc)])) (Hx := (fun bz2 => .blk g21 68 (oC Q1).flatten :: .blk g2 24 [vc] :: List.map (tabR 4) Q1)) (p := (fun bz2 => bz2 = decide (dbtR c l R ((rootsN R l.length).take (j + 1)) = 21))) ?_ ?_
    ·refine go 3 ?_
     refine sxb 60 rfl (fun h60 p60 => ?_) (fun h60 p60 => ?_)
     ·refine go 6 ?_
      exact q_cutx true (by rw [← dbt_step hlt hHs hz, h60]; rfl) sb rfl rfl
     ·refine go 1 ?_
      refine o_cons (o_yes rfl rfl h60 (o_val rfl (OV.cast (u := .bool (decide (Hs = []))) (v_eql rfl rfl) (congrArg Value.bool (by split <;> simp_all))) ?_))
      refine go 4 ?_
      exact q_cutx (decide (Hs = [])) (by rw [← dbt_step hlt hHs hz, h60]; rfl) sb rfl rfl
    ·intro bz2 hz2
     refine go 6 ?_
     refine c_loop2 ((0 : Nat)) (Q1) (fun k Q2 => I53)
      (fun k Q2 => [(1, .slice A l.length c0), (2, .pointer (some ⟨g2, 0, none⟩)), (6, .slice (some ⟨g21, 0, none⟩) l.length l.length), (8, .slice CA ((compsN R l.length).map nI).length cc), (10, .int .i64 ((j : Nat) : Int)), (9, .bool bz2), (11, .slice HA Hs.length hcc), (13, .int .i64 ((k : Nat) : Int))])
      (fun k Q2 => .blk g21 68 (oC Q2).flatten :: .blk g2 24 [vc] :: List.map (tabR 4) Q2)
      (fun k Q2 => k ≤ Hs.length ∧ List.map Prod.snd Q2 = Tab l (markA (markR c l R ((rootsN R l.length).take j)) (membN R l.length (rootsN R l.length)[j]) (Hs.take k)))
      (fun k Q2 => Hs.length - k) ⟨Nat.zero_le _, by rw [markA_nil]; exact hQ1⟩ rfl sb rfl ?_
     intro k Q2 ⟨hk, hQ2⟩
     refine go 9 ?_
     refine cb rfl (fun h67 p67 => ?_) (fun h67 p67 => ?_)
     ·have hlk : k < Hs.length := by omega
      have hfit := pk_fit (c := c) (l := l) (C := (membN R l.length (rootsN R l.length)[j])) (t := Hs[k]) (fun i hi => memb_lt hi) (by rw [← hHs]; exact List.getElem_mem hlk)
      refine go 10 ?_
      refine c_loop2 ((0 : Nat)) (Q2) (fun m Q3 => I53)
       (fun m Q3 => [(1, .slice A l.length c0), (2, .pointer (some ⟨g2, 0, none⟩)), (6, .slice (some ⟨g21, 0, none⟩) l.length l.length), (8, .slice CA ((compsN R l.length).map nI).length cc), (10, .int .i64 ((j : Nat) : Int)), (9, .bool bz2), (11, .slice HA Hs.length hcc), (13, .int .i64 ((k : Nat) : Int)), (14, .int .i64 ((m : Nat) : Int))])
       (fun m Q3 => .blk g21 68 (oC Q3).flatten :: .blk g2 24 [vc] :: List.map (tabR 4) Q3)
       (fun m Q3 => m ≤ (membN R l.length (rootsN R l.length)[j]).length ∧ List.map Prod.snd Q3 = Tab l (markM (markA (markR c l R ((rootsN R l.length).take j)) (membN R l.length (rootsN R l.length)[j]) (Hs.take k)) ((membN R l.length (rootsN R l.length)[j]).take m) (Hs[k].take m)))
       (fun m Q3 => (membN R l.length (rootsN R l.length)[j]).length - m) ⟨Nat.zero_le _, by rw [markM_nil]; exact hQ2⟩ rfl sb rfl ?_
      intro m Q3 ⟨hmm, hQ3⟩
      have hQl := row_len hQ3
      refine go 6 ?_
      obtain ⟨b73, o73, w73, e73, c73, r73⟩ := RdA.at_ hCA (i := j) (by omega)
      rw [comp_at hlt] at r73
      obtain ⟨q73, rfl, S73, d73, rfl, hS73, hd73, hm73⟩ := r73
      refine o_v rfl (v_idx he rfl rfl e73 (j) (by omega) (by omega)) ?_
      refine o_v rfl (OV.cast (u := .slice S73 (membN R l.length (rootsN R l.length)[j]).length d73) (v_ldI he rfl (c73 0 _ rfl)) (by rw [nI_len])) ?_
      refine go 4 ?_
      refine cb rfl (fun h76 p76 => ?_) (fun h76 p76 => ?_)
      ·have hlm : m < (membN R l.length (rootsN R l.length)[j]).length := by omega
       have hlh : m < Hs[k].length := by have := hfit.1; omega
       obtain ⟨hcl, h0, h1⟩ := hfit.2 m hlm hlh
       have hq : (membN R l.length (rootsN R l.length)[j])[m] < Q3.length := by omega
       have hrl : Q3[(membN R l.length (rootsN R l.length)[j])[m]].2.length = (chs l[(membN R l.length (rootsN R l.length)[j])[m]]).toNat := by rw [row_at hQ3 hcl hq]; simp
       have hx : Hs[k][m].toNat < Q3[(membN R l.length (rootsN R l.length)[j])[m]].2.length := by omega
       refine go 4 ?_
       refine sx_pull2 (f := tabR 4) hq ?_
       refine d_start1 T.mixed ?_
       refine d_tv 0 rfl rfl (by kernel_rfl) rfl (.cons _ (.refl _)) rfl (v_move rfl) ?_
       refine d_tv 1 rfl rfl (by kernel_rfl) rfl (.cons _ (.refl _)) rfl (v_move rfl) ?_
       refine d_tv 2 rfl rfl (by kernel_rfl) rfl (.cons _ (.refl _)) rfl (v_move rfl) ?_
       obtain ⟨b82, o82, w82, e82, c82, r82⟩ := RdA.at_ hCA (i := j) (by omega)
       rw [comp_at hlt] at r82
       obtain ⟨q82, rfl, S82, d82, rfl, hS82, hd82, hm82⟩ := r82
       refine d_tv 3 rfl rfl (by kernel_rfl) rfl (.cons _ (.refl _)) rfl (v_idx he rfl rfl e82 (j) (by omega) (by omega)) ?_
       refine d_tv 4 rfl rfl (by kernel_rfl) rfl (.cons _ (.refl _)) rfl (OV.cast (u := .slice S82 (membN R l.length (rootsN R l.length)[j]).length d82) (v_ldI he rfl (c82 0 _ rfl)) (by rw [nI_len])) ?_
       refine d_tv 5 rfl rfl (by kernel_rfl) rfl (.cons _ (.refl _)) rfl (v_move rfl) ?_
       obtain ⟨b85, o85, w85, e85, c85, r85⟩ := RdA.at_ hS82 (i := m) (by first | exact hlm | (rw [nI_len]; exact hlm))
       rw [nI_at hlm] at r85
       obtain rfl := r85
       refine d_tv 6 rfl rfl (by kernel_rfl) rfl (.cons _ (.refl _)) rfl (v_idx he rfl rfl e85 (m) (by omega) (by first | exact hlm | (rw [nI_len]; exact hlm))) ?_
       refine d_tv 7 rfl rfl (by kernel_rfl) rfl (.cons _ (.refl _)) rfl (v_ldI he rfl (c85 0 _ rfl)) ?_
       refine d_tv 8 rfl rfl (by kernel_rfl) rfl (.cons _ (.refl _)) rfl (v_idx he rfl rfl rfl ((membN R l.length (rootsN R l.length)[j])[m]) (by omega) hcl) ?_
       refine d_tv 9 rfl rfl (by kernel_rfl) rfl (.cons _ (.refl _)) rfl (v_lds m0 (oC_uk _) he rfl ((membN R l.length (rootsN R l.length)[j])[m]) (by omega) (oC_at0 hq)) ?_
       refine d_tv 10 rfl rfl (by kernel_rfl) rfl (.cons _ (.refl _)) rfl (v_move rfl) ?_
       refine d_tv 11 rfl rfl (by kernel_rfl) rfl (.cons _ (.refl _)) rfl (v_move rfl) ?_
       obtain ⟨b91, o91, w91, e91, c91, r91⟩ := RdA.at_ hHA (i := k) (by omega)
       obtain ⟨q91, rfl, S91, d91, rfl, hS91, hd91, hm91⟩ := r91
       refine d_tv 12 rfl rfl (by kernel_rfl) rfl (.cons _ (.refl _)) rfl (v_idx he rfl rfl e91 (k) (by omega) (by omega)) ?_
       refine d_tv 13 rfl rfl (by kernel_rfl) rfl (.cons _ (.refl _)) rfl (v_ldI he rfl (c91 0 _ rfl)) ?_
       refine d_tv 14 rfl rfl (by kernel_rfl) rfl (.cons _ (.refl _)) rfl (v_move rfl) ?_
       obtain ⟨b94, o94, w94, e94, c94, r94⟩ := RdA.at_ hS91 (i := m) (by omega)
       obtain rfl := r94
       refine d_tv 15 rfl rfl (by kernel_rfl) rfl (.cons _ (.refl _)) rfl (v_idx he rfl rfl e94 (m) (by omega) (by omega)) ?_
       refine d_tv 16 rfl rfl (by kernel_rfl) rfl (.cons _ (.refl _)) rfl (v_ldI he rfl (c94 0 _ rfl)) ?_
       refine d_tv 17 rfl rfl (by kernel_rfl) rfl (.cons _ (.refl _)) rfl (v_idx he rfl rfl rfl (Hs[k][m].toNat) (by omega) hx) ?_
       refine d_one 18 (by kernel_rfl) rfl ?_
       refine o_st1 he rfl rfl rfl (by rw [bC_len, Nat.blt_eq]; omega) ?_
       refine sx_blkeq (bC (Q3[(membN R l.length (rootsN R l.length)[j])[m]].2.set Hs[k][m].toNat true)) (by rw [Nat.zero_add, Nat.mul_one, bC_set]) ?_
       refine d_on (fun _ m => m.keeps (.cons _ (.refl _))) ?_
       refine d_done (by kernel_rfl) ?_
       refine go 3 ?_
       refine sx_push2 (f := tabR 4) (Q3[(membN R l.length (rootsN R l.length)[j])[m]].1, Q3[(membN R l.length (rootsN R l.length)[j])[m]].2.set Hs[k][m].toNat true) hq ?_
       refine go 5 ?_
       exact q_next2 (m + 1) ((Q3.set (membN R l.length (rootsN R l.length)[j])[m] (Q3[(membN R l.length (rootsN R l.length)[j])[m]].1, Q3[(membN R l.length (rootsN R l.length)[j])[m]].2.set Hs[k][m].toNat true))) ⟨by omega, by rw [markM_succ hlm hlh]; exact row_mark hQ3 hcl h0 h1 hq⟩ (by omega) rfl sb (by rw [oC_set hq _ (by simp)])
      ·obtain rfl : m = (membN R l.length (rootsN R l.length)[j]).length := by omega
       rw [List.take_length, hfit.1, List.take_length] at hQ3
       refine go 12 ?_
       exact q_next2 (k + 1) (Q3) ⟨by omega, by rw [hQ3, markA_succ hlk]⟩ (by omega) rfl sb rfl
     ·obtain rfl : k = Hs.length := by omega
      rw [List.take_length] at hQ2
      refine go 12 ?_
      exact q_next4 (j + 1) (Q2) (bz2) (_) ⟨by omega, hJ.trans (j52.trans j53), by rw [hQ2, markR_succ hlt, ← hHs], hz2⟩ (by omega) rfl sb rfl
   ·obtain rfl : j = (rootsN R l.length).length := by omega
    rw [List.take_length] at hQ1 hz
    rw [dbtR_all hRt hC hP (by omega)] at hz
    refine go 11 ?_
    refine cb rfl (fun h97 p97 => ?_) (fun h97 p97 => ?_)
    ·have hn : histF c l = [] := Classical.byContradiction fun h => by rw [hz, if_neg h] at h97; cases h97
     refine go 8 ?_
     refine fin2 rfl rfl rfl ?_
     exact q_i ⟨_, by rw [cho_ok hC hP, if_pos hn], by rw [cho_ok hC hP, if_pos hn]; exact RdS.nil'⟩
    ·have hn : ¬ histF c l = [] := fun h => by rw [hz, if_pos h] at h97; cases h97
     have hQl := row_len hQ1
     have hrow : ∀ p ∈ Q1, p.2.length ≤ 9223372036854775807 := fun p hp => by
       obtain ⟨i, hi, rfl⟩ := List.getElem_of_mem hp
       have h5 := chs_five (l[i]'(by omega))
       rw [row_at hQ1 (by omega) hi, List.length_map, List.length_range]; omega
     have htab : List.map Prod.snd Q1 = Tab l (hasF c l) := by rw [hQ1]; exact tab_congr fun i hi k _ _ => mark_has hRt hC hP (by omega) hn hi k
     refine go 10 ?_
     refine fin2 rfl rfl rfl ?_
     refine bring1 ?_
     refine sx_drop ?_
     refine sx_pubtab1 Q1 hrow (fun I9 hI9 h9 => ?_)
     refine sx_pub (fun I10 j10 c10 => ?_)
     exact q_i ⟨_, by rw [cho_ok hC hP, if_neg hn], by rw [cho_ok hC hP, if_neg hn, ← htab]; exact ⟨_, _, by rw [List.length_map, hQl], Flat.rda (oC_flat Q1 fun p hp => (h9 p hp).le j10) c10, by rw [List.length_map]; omega, by omega⟩⟩

theorem ref17Only (I : IMap) (v : Value) (l : List Bool) (hv : RdS I v l) :
    FnV Tryz.prog 71 #[v] I (.int .i64 (onlyF l)) := by
 have hv0 := hv
 obtain ⟨A, c0, rfl, hA, hc, hm⟩ := hv
 refine enter Tryz.func71 Tryz.call71 rfl Tryz.ntmps71 rfl (fun w0 => ?_)
 refine go 17 ?_
 refine c_loop (α := Nat) 0 (fun i => I)
  (fun i => [(0, .slice A l.length c0), (3, .int .i64 (lastF (l.take i))), (4, .int .i64 ((i : Nat) : Int))])
  (fun i => [])
  (fun i => i ≤ l.length ∧ cntF (l.take i) ≤ 1)
  (fun i => l.length - i) ⟨Nat.zero_le _, by simp [cntF]⟩ rfl sb rfl ?_
 intro i ⟨hi, hcn⟩
 refine go 9 ?_
 refine cb rfl (fun h8 p8 => ?_) (fun h8 p8 => ?_)
 ·have hlt : i < l.length := by omega
  have hlg := lastF_ge (l.take i)
  refine go 9 ?_
  obtain ⟨b13, o13, w13, e13, c13, r13⟩ := RdA.at_ hA (i := i) (by omega)
  obtain rfl := r13
  refine o_v rfl (v_idx he rfl rfl e13 (i) (by omega) (by omega)) ?_
  refine o_v rfl (v_ldI he rfl (c13 0 _ rfl)) ?_
  refine go 1 ?_
  refine sxb 15 rfl (fun h15 p15 => ?_) (fun h15 p15 => ?_)
  ·refine go 5 ?_
   refine cb rfl (fun h18 p18 => ?_) (fun h18 p18 => ?_)
   ·refine go 12 ?_
    refine fin1 rfl rfl ?_
    exact q_v (congrArg (Value.int .i64) (only_two hlt h15 (by omega)).symm)
   ·refine go 6 ?_
    obtain ⟨b21, o21, w21, e21, c21, r21⟩ := RdA.at_ hA (i := i) (by omega)
    obtain rfl := r21
    refine o_v rfl (v_idx he rfl rfl e21 (i) (by omega) (by omega)) ?_
    refine o_v rfl (v_ldI he rfl (c21 0 _ rfl)) ?_
    refine go 2 ?_
    refine cb rfl (fun h22 p22 => ?_) (fun h22 p22 => ?_)
    ·refine go 12 ?_
     exact q_next (i + 1) ⟨by omega, only_next hlt hcn (fun _ => by omega)⟩ (by omega) rfl ⟨rfl, (congrArg (fun z => some (Value.int .i64 z)) (by rw [lastF_step hlt, if_pos h22])), rfl, trivial⟩ rfl
    ·refine go 9 ?_
     exact q_next (i + 1) ⟨by omega, only_next hlt hcn (fun _ => by omega)⟩ (by omega) rfl ⟨rfl, (congrArg (fun z => some (Value.int .i64 z)) (by rw [lastF_step hlt, if_neg (by rw [h22]; decide)])), rfl, trivial⟩ rfl
  ·refine go 5 ?_
   refine c_false rfl ?_
   refine go 6 ?_
   obtain ⟨b21, o21, w21, e21, c21, r21⟩ := RdA.at_ hA (i := i) (by omega)
   obtain rfl := r21
   refine o_v rfl (v_idx he rfl rfl e21 (i) (by omega) (by omega)) ?_
   refine o_v rfl (v_ldI he rfl (c21 0 _ rfl)) ?_
   refine go 2 ?_
   refine cb rfl (fun h22 p22 => ?_) (fun h22 p22 => ?_)
   ·refine go 12 ?_
    exact q_next (i + 1) ⟨by omega, only_next hlt hcn (fun h => by rw [h15] at h; cases h)⟩ (by omega) rfl ⟨rfl, (congrArg (fun z => some (Value.int .i64 z)) (by rw [lastF_step hlt, if_pos h22])), rfl, trivial⟩ rfl
   ·refine go 9 ?_
    exact q_next (i + 1) ⟨by omega, only_next hlt hcn (fun h => by rw [h15] at h; cases h)⟩ (by omega) rfl ⟨rfl, (congrArg (fun z => some (Value.int .i64 z)) (by rw [lastF_step hlt, if_neg (by rw [h22]; decide)])), rfl, trivial⟩ rfl
 ·obtain rfl : i = l.length := by omega
  rw [List.take_length] at hcn
  refine go 12 ?_
  refine fin1 rfl rfl ?_
  exact q_v (congrArg (Value.int .i64) (by rw [List.take_length, only_last hcn]))

theorem ref17Sure (I : IMap) (vc : Value) (c : List Kind) (hvc : RdS I vc c) (hsc : SmC c) (v : Value) (l : List Rep) (hv : RdS I v l) (hl : l.length ≤ 1000000) (hsl : ∀ r ∈ l, ∀ e ∈ r.options, SmE e) (h30 : l.length ≤ 30) (hw : waysN l < 4096) :
    FnI Tryz.prog 40 #[.agg #[vc], v] I (fun u J => ∃ w, u = .tuple #[w, .int .i64 (sureF c l).2] ∧ RdS J w (sureF c l).1) := by
 refine enter Tryz.func40 Tryz.call40 rfl Tryz.ntmps40 rfl (fun w0 => ?_)
 refine go 3 ?_
 refine o_box _ rfl rfl rfl (fun g2 => ?_)
 refine go 9 ?_
 refine o_call (ref17Choices _ vc c hvc hsc _ l hv hl hsl h30 hw) rfl rfl (fun v13 I13 j13 q13 => ?_)
 obtain ⟨w13, rfl, hw13⟩ := q13
 refine go 14 ?_
 refine cb rfl (fun h17 p17 => ?_) (fun h17 p17 => ?_)
 ·refine go 9 ?_
  refine fin2 rfl rfl rfl ?_
  exact q_i ⟨_, by rw [sure_no p17]; rfl, by rw [sure_no p17]; exact RdS.nil'⟩
 ·have h0 : (choF c l).2 = 0 := by simpa using h17
  obtain ⟨TA, tc, rfl, hTA, _, _⟩ := hw13
  have hTl := cho_len h0
  refine go 4 ?_
  refine sx_nilrow 3 1 ?_
  refine go 10 ?_
  refine bring1 ?_
  refine sx_drop ?_
  refine c_loop3 ((0 : Nat)) (_) ([]) (fun i v8 xs => I13)
   (fun i v8 xs => [(6, .slice TA (choF c l).1.length tc), (8, v8), (9, .int .i64 ((i : Nat) : Int))])
   (fun i v8 xs => [.row v8 3 1 i xs])
   (fun i v8 xs => i ≤ (choF c l).1.length ∧ Flat I13 xs (((choF c l).1.take i).map onlyF))
   (fun i v8 xs => (choF c l).1.length - i) ⟨Nat.zero_le _, .nil⟩ rfl sb rfl ?_
  intro i v8 xs ⟨hi, hF⟩
  refine go 9 ?_
  refine cb rfl (fun h22 p22 => ?_) (fun h22 p22 => ?_)
  ·have hlt : i < (choF c l).1.length := by omega
   refine go 8 ?_
   obtain ⟨b28, o28, w28, e28, c28, r28⟩ := RdA.at_ hTA (i := i) (by omega)
   obtain ⟨q28, rfl, S28, d28, rfl, hS28, hd28, hm28⟩ := r28
   refine o_v rfl (v_idx he rfl rfl e28 (i) (by omega) (by omega)) ?_
   refine o_v rfl (v_ldI he rfl (c28 0 _ rfl)) ?_
   refine go 1 ?_
   refine o_callV (ref17Only _ _ (choF c l).1[i] ⟨_, _, rfl, hS28, hd28, hm28⟩) rfl rfl ?_
   refine go 1 ?_
   refine o_buildSlice he he rfl rfl rfl rfl rfl rfl rfl (fun v31 => ?_)
   refine go 1 ?_
   refine bring1 ?_
   refine o_appendO he he rfl rfl rfl rfl rfl (by omega) (by omega) rfl (fun v32 => ?_)
   refine go 10 ?_
   refine bring1 ?_
   refine sx_drop ?_
   exact q_next3 (i + 1) (_) (_) ⟨by omega, by rw [← take_succ_of hlt, List.map_append]; exact hF.append (.one rfl)⟩ (by omega) rfl sb rfl
  ·obtain rfl : i = (choF c l).1.length := by omega
   rw [List.take_length] at hF
   refine go 7 ?_
   refine sx_pubrow (l := ((choF c l).1.map onlyF)) rfl (by rw [List.length_map]) (hF) (fun Ip jp Rp => ?_)
   refine go 6 ?_
   refine fin2 rfl rfl rfl ?_
   exact q_i ⟨_, by rw [sure_yes h0], by rw [sure_yes h0]; exact Rp⟩

end Go.Proofs.YtoadjlmbdliceaaGreat

